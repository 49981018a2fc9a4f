import PyProof.Rows.All
import Wide.All
import OpenK.AllK
import Wide.FinOn
import Lean
import PySem.Challenge.RW_nz0133_01
set_option Elab.async false
set_option maxRecDepth 100000
set_option maxHeartbeats 8000000
set_option linter.all false
namespace Mine
set_option synthInstance.maxSize 1 in
open_top hd for PySem.Challenge.rw_nz0133_01
local macro_rules | `(tactic| walk_at $s:str) => `(tactic| k_extra $s)

section
theorem freshBase : True := by
  w_top off
  k_with_none
  exact True.intro
open PySem PySem.W PyProof.Rows PyProof.V PySem.Calls PySem.Spec
set_option maxRecDepth 100000
set_option maxHeartbeats 8000000
noncomputable abbrev PR : Program := PySem.Challenge.rw_nz0133_01.row.prog
noncomputable abbrev SK (w : World) := PySem.strKind PySem.Challenge.rw_nz0133_01.row.prog w
noncomputable abbrev LS : List Str := looseW hd.view_39 [Str.ofString "_law_flags", Str.ofString "_law_counts"]

theorem memI {α : Type} {l : List α} {p : α} (i : Nat) (h : l[i]? = some p) : p ∈ l := List.mem_of_getElem? h
/-- what of the ledger does not go to the callee stands in its ground -/
noncomputable def Frm (led mu : List (Addr × Obj)) (g : Heap) : Prop := ∀ q ∈ led, q.1 ∉ mu.map (·.1) → g.get? q.1 = some q.2

section
variable {prog : Program} {w : World} {A₀ A : Around} {s : Shared} {base h₀ : Heap} {outer : List Env} {L : Addr} {m mg mb : Str → Option Value} {env : Env} {led mu : List (Addr × Obj)} {K : Frag} {p : Program} {loose : List Str} {mean : ExcName → Option Value}
  {R : Result → Shared → Prop} {name qual : Str} {params : Arguments} {body : List Stmt} {scope : Scope} {dV kV doc pm cdv ct oc : Value} {an od : Option Addr} {osl : Array (Option Value)} {f : Addr} {args : Args} {binds : List (Str × Value)}

theorem code_defL (B : Below A₀ base outer h₀) (F : Fr h₀ L s.heap m) (X₀ : K.In h₀) (NL : News h₀ L s.heap led) (hmu : ∀ p ∈ mu, p ∈ led) (T : Top p loose mean mg mb h₀)
    (hA : A.frames = some (env :: outer)) (hf : env.frame = some L) (hke : env.scope.kind = .function)
    (ho : K.lookup f = some ⟨oc, od, .func (fnOf name qual params body scope dV kV doc pm an cdv ct), osl⟩) (hcd : codeIn K cdv qual = true) (hroom : A.depth < recursionLimit)
    (hbind : BindsTo s (fnOf name qual params body scope dV kV doc pm an cdv ct) args binds) (hloc : ∀ y ∈ binds, scope.names.lookup y.1 = some .local)
    (h : ∀ g L' h₁, Fr h₀ L g m → Fr g L' h₁ (fun y => binds.reverse.lookup y) → News g L' h₁ mu → Below A base (env :: outer) g → K.In g → Top p loose mean mg mb g → Frm led mu g → (∀ q ∈ mu, q.1 < L') →
      wpAny (model prog w) (A.deeper (envOf qual scope L' f cdv)) (execs body (envOf qual scope L' f cdv))
        (fun fl s' => LeaveK h₀ L m g R (match fl with | .ret v => v | _ => .none) s')
        (fun e s' => wpAny (model prog w) (A.deeper (envOf qual scope L' f cdv)) (leaving (envOf qual scope L' f cdv) e) (fun _ s'' => R (.error e) s'') (fun e' s'' => R (.error e') s'') s')
        { s with heap := h₁, toks := s.toks + binds.length })
    (hco : scope.isCoroutine = false) (hgen : scope.isGenerator = false) (hk : scope.kind = .function)
    (hcell : ∀ x ∈ scope.names, x.2 ≠ .cell) : codeAny (model prog w) A (.call (.ref f) args) R s := by
  have N : News h₀ L s.heap mu := fun p hp => NL p (hmu p hp)
  obtain ⟨FG, BG, st, lv⟩ := groundX (R := R) B F N hA hf hke
  refine codeAny_call_def (fd := fnOf name qual params body scope dV kV doc pm an cdv ct) (body := body) (binds := binds) hroom ((X₀.keeps F.keep) _ _ ho) rfl (T.nolimit.keeps F.keep) (codeRec_of (X₀.keeps F.keep) hcd) rfl hbind hcell hloc
    (fun h₁ hns hk₁ => ?_) hco hgen hk
  have F₁ : Fr (hideAll s.heap (mu.map (·.1))) s.heap.objs.size h₁ (fun y => binds.reverse.lookup y) := ⟨hns, fun b o e => hk₁ b o (of_hideAll _ e), Nat.le_of_eq (hideAll_size _ _)⟩
  have N₁ : News (hideAll s.heap (mu.map (·.1))) s.heap.objs.size h₁ mu := fun q hq => ⟨hk₁ _ _ (N q hq).1, Nat.ne_of_lt (Heap.lt_size (N q hq).1), hideAll_none _ (List.mem_map_of_mem hq)⟩
  have fr : Frm led mu (hideAll s.heap (mu.map (·.1))) := fun q hq hn => hideAll_get _ (NL q hq).1 hn
  exact wpAny_mono (h _ _ h₁ FG F₁ N₁ BG (X₀.keeps st) (T.keeps st) fr fun q hq => Heap.lt_size (N q hq).1) (fun fl s' hl => lv _ _ hl) fun _ _ y => y
end

section
variable {h₀ h h' g : Heap} {L L' d : Addr} {m m' : Str → Option Value} {led mu mu' : List (Addr × Obj)} {o o' : Obj} {G : Obj → List (Addr × Obj)}

/-- behind a call that left all of its own part as it was -/
theorem led_same (NL : News h₀ L h led) (hmu : ∀ p ∈ mu, p ∈ led) (kN : News h₀ L h' mu') (hs : ∀ p ∈ mu, p ∈ mu') (fr : Frm led mu g) (F' : Fr g L' h' m') : News h₀ L h' led := fun q hq => by
  refine ⟨?_, (NL q hq).2⟩
  by_cases hm : q.1 ∈ mu.map (·.1)
  · obtain ⟨p, hp, e⟩ := List.mem_map.mp hm
    have h1 := (NL p (hmu p hp)).1
    have h2 := (NL q hq).1
    rw [e, h2] at h1
    have h3 := (kN p (hs p hp)).1
    rw [e] at h3
    rw [h3, Option.some.inj h1]
  · exact F'.keep _ _ (fr q hq hm)

/-- behind a call that changed one object of the ledger -/
theorem led_upd (NL : News h₀ L h led) (U : UpdF d o led G) (hmu : ∀ p ∈ mu, p ∈ led) (kN : News h₀ L h' mu') (hd : (d, o') ∈ mu') (hs : ∀ p ∈ mu, p.1 ≠ d → p ∈ mu') (_hin : d ∈ mu.map (·.1)) (fr : Frm led mu g) (F' : Fr g L' h' m') : News h₀ L h' (G o') := by
  obtain ⟨pre, post, rfl, hg, ha, hb⟩ := U.split
  rw [hg]
  have one : ∀ q ∈ pre ++ (d, o) :: post, q.1 ≠ d → h'.get? q.1 = some q.2 := fun q hq hne => by
    by_cases hm : q.1 ∈ mu.map (·.1)
    · obtain ⟨p, hp, e⟩ := List.mem_map.mp hm
      have h1 := (NL p (hmu p hp)).1
      have h2 := (NL q hq).1
      rw [e, h2] at h1
      have h3 := (kN p (hs p hp (by rw [e]; exact hne))).1
      rw [e] at h3
      rw [h3, Option.some.inj h1]
    · exact F'.keep _ _ (fr q hq hm)
  intro q hq
  rcases List.mem_append.mp hq with hq | hq
  · exact ⟨one q (List.mem_append_left _ hq) (ha q hq), (NL q (List.mem_append_left _ hq)).2⟩
  · rcases List.mem_cons.mp hq with rfl | hq
    · exact kN _ hd
    · have hq' : q ∈ pre ++ (d, o) :: post := List.mem_append_right _ (.tail _ hq)
      exact ⟨one q hq' (hb q hq), (NL q hq').2⟩
theorem UpdF.mem : ∀ {led : List (Addr × Obj)} {G : Obj → List (Addr × Obj)}, UpdF d o led G → (d, o) ∈ led
  | _, _, .head _ => .head _
  | _, _, .tail _ u => .tail _ (UpdF.mem u)
theorem frm_list {l : Addr} {vs : List Value} {n : Nat} (fr : Frm led mu g) (hm : (l, PySem.W.listOf vs.toArray n) ∈ led) (hn : l ∉ mu.map (·.1)) : g.IsList l vs.toArray := ⟨_, fr _ hm hn, rfl, n, rfl⟩
end

noncomputable abbrev tapeK (c : Addr) (k : Int) (t3 : Tok) : List (Str × Value) := [(Str.ofString "cells", .ref c), (Str.ofString "spot", .int k t3)]

noncomputable def flagsL : List Str := [Str.ofString "print-success", Str.ofString "produce-models", Str.ofString "produce-unsat-cores", Str.ofString "minimal-unsat-cores", Str.ofString "produce-unsat-assumptions", Str.ofString "produce-proofs", Str.ofString "produce-assertions", Str.ofString "produce-assignments"]
noncomputable def countsL : List Str := [Str.ofString "random-seed", Str.ofString "reproducible-resource-limit", Str.ofString "verbosity"]
noncomputable def namesL : List Str := flagsL ++ countsL
/-- the table of a session, its keys in their order -/
noncomputable def stD (st : Str → PyData) : List (PyData × PyData) := namesL.map fun x => (PyData.str x, st x)
/-- what a session's table may hold -/
structure WT (st : Str → PyData) : Prop where
  flag : ∀ x ∈ flagsL, ∃ b, st x = .bool b
  count : ∀ x ∈ countsL, ∃ i : Int, st x = .int i ∧ 0 ≤ i ∧ i < 10 ^ 30
noncomputable def St.put (st : Str → PyData) (x : Str) (v : PyData) : Str → PyData := fun y => if y = x then v else st y

theorem lookup_map (f : Str → PyData) (x : Str) : ∀ l : List Str, x ∈ l → lookup (.str x) (l.map fun y => (PyData.str y, f y)) = some (f x)
  | [], h => nomatch h
  | y :: r, h => by
    show (if PySem.Spec.same (.str y) (.str x) then some (f y) else lookup (.str x) (r.map fun y => (PyData.str y, f y))) = some (f x)
    rw [PyProof.V.same_str]
    by_cases e : y = x
    · simp [e]
    · rw [if_neg (by simpa using e)]
      rcases List.mem_cons.mp h with h | h
      · exact absurd h.symm e
      · exact lookup_map f x r h
theorem lookup_map_none (f : Str → PyData) (x : Str) : ∀ l : List Str, x ∉ l → lookup (.str x) (l.map fun y => (PyData.str y, f y)) = none
  | [], _ => rfl
  | y :: r, h => by
    show (if PySem.Spec.same (.str y) (.str x) then some (f y) else lookup (.str x) (r.map fun y => (PyData.str y, f y))) = none
    have hne : ¬ y = x := fun e => h (by rw [e]; exact List.mem_cons_self)
    rw [PyProof.V.same_str, if_neg (by simpa using hne), lookup_map_none f x r fun hx => h (.tail _ hx)]
theorem put_map (f : Str → PyData) (x : Str) (v : PyData) {l : List Str} (hx : x ∈ l) : putD (.str x) v (l.map fun y => (PyData.str y, f y)) = l.map fun y => (PyData.str y, St.put f x v y) := by
  unfold putD
  rw [if_pos]
  · rw [List.map_map]
    refine List.map_congr_left fun y hy => ?_
    show (if PySem.Spec.same (.str y) (.str x) then (PyData.str y, v) else (PyData.str y, f y)) = (PyData.str y, St.put f x v y)
    rw [PyProof.V.same_str]
    unfold St.put
    by_cases e : y = x <;> simp [e]
  · rw [List.any_eq_true]
    exact ⟨(PyData.str x, f x), List.mem_map.mpr ⟨x, hx, rfl⟩, by rw [PyProof.V.same_str]; simp⟩
theorem st_look {st : Str → PyData} {x : Str} (hx : x ∈ namesL) : lookup (.str x) (stD st) = some (st x) := lookup_map st x namesL hx
theorem st_none {st : Str → PyData} {x : Str} (hx : x ∉ namesL) : lookup (.str x) (stD st) = none := lookup_map_none st x namesL hx
theorem st_put {st : Str → PyData} {x : Str} (v : PyData) (hx : x ∈ namesL) : putD (.str x) v (stD st) = stD (St.put st x v) := put_map st x v hx
theorem flag_name {x : Str} (h : x ∈ flagsL) : x ∈ namesL := List.mem_append_left _ h
theorem count_name {x : Str} (h : x ∈ countsL) : x ∈ namesL := List.mem_append_right _ h
theorem flag_not {x : Str} (h : x ∈ countsL) : x ∉ flagsL := by
  have : ∀ x ∈ countsL, x ∉ flagsL := by decide
  exact this x h
theorem WT.put_flag {st : Str → PyData} (h : WT st) {x : Str} (hx : x ∈ flagsL) (b : Bool) : WT (St.put st x (.bool b)) := by
  refine ⟨fun y hy => ?_, fun y hy => ?_⟩ <;> unfold St.put
  · by_cases e : y = x
    · exact ⟨b, by simp [e]⟩
    · simp only [e, if_false]; exact h.flag y hy
  · by_cases e : y = x
    · exact absurd hx (e ▸ flag_not hy)
    · simp only [e, if_false]; exact h.count y hy
theorem WT.put_count {st : Str → PyData} (h : WT st) {x : Str} (hx : x ∈ countsL) {i : Int} (h0 : 0 ≤ i) (h1 : i < 10 ^ 30) : WT (St.put st x (.int i)) := by
  refine ⟨fun y hy => ?_, fun y hy => ?_⟩ <;> unfold St.put
  · by_cases e : y = x
    · exact absurd hy (e ▸ flag_not hx)
    · simp only [e, if_false]; exact h.flag y hy
  · by_cases e : y = x
    · exact ⟨i, by simp [e], h0, h1⟩
    · simp only [e, if_false]; exact h.count y hy
noncomputable abbrev optI (dx : Addr) : Obj := instObj 142 dx
noncomputable abbrev optD (hsh : Int) (tv : Tok) (d : Addr) (n : Nat) : Obj := dictOf [⟨hsh, .str (Str.ofString "values") tv, .ref d⟩] n
end

section
theorem freshMeth : True := by
  w_top off
  k_with_none
  exact True.intro
open PySem PySem.W PyProof.Rows PyProof.V PySem.Calls PySem.Spec
set_option maxRecDepth 100000
set_option maxHeartbeats 8000000
theorem sayMetha : True := by
  k_with_none
  k_with "ktr_enter" => (first | ((refine' code_defL ?k1q0 ?k2q0 ?k3q0 ?k4q0 ?kMq0 ?k5q0 ?kAq0 ?kFq0 ?kKq0 ?k6q0 ?k7q0 ?k8q0 ?k9q0 ?kBq0 ?_ ?c2q0 ?c3q0 ?c4q0 ?c5q0; (case kAq0 => exact rfl); (case kFq0 => exact rfl); (case kKq0 => assumption); (case k1q0 => k_asm); (case k2q0 => k_asm); (case k3q0 => k_asm); (case k4q0 => k_asm); (case kMq0 => assumption); (case k5q0 => k_asm); (case k6q0 => k_is); (case k7q0 => k_is); (case k8q0 => ktr_room); (case k9q0 => exact BindsTo.of_eq rfl); (case c5q0 => decide); (case kBq0 => exact locs rfl); (case c2q0 => exact rfl); (case c3q0 => exact rfl); (case c4q0 => exact rfl); k_whole; intro g' L' h' FG' F' N' B' X' T' fr' l1; (try k_lt l1); (try dsimp only); (try k_fold))) | ((refine' code_defL ?k1q1 ?k2q1 ?k3q1 ?k4q1 ?kMq1 ?k5q1 ?kAq1 ?kFq1 ?kKq1 ?k6q1 ?k7q1 ?k8q1 ?k9q1 ?kBq1 ?_ ?c2q1 ?c3q1 ?c4q1 ?c5q1; (case kAq1 => exact rfl); (case kFq1 => exact rfl); (case kKq1 => assumption); (case k1q1 => k_asm); (case k2q1 => k_asm); (case k3q1 => k_asm); (case k4q1 => k_asm); (case kMq1 => assumption); (case k5q1 => k_asm); (case k6q1 => k_is); (case k7q1 => k_is); (case k8q1 => ktr_room); (case k9q1 => exact BindsTo.of_eq rfl); (case c5q1 => decide); (case kBq1 => exact locs rfl); (case c2q1 => exact rfl); (case c3q1 => exact rfl); (case c4q1 => exact rfl); k_whole; intro g' L' h' FG' F' N' B' X' T' fr' l1; (try k_lt l1); (try dsimp only); (try k_fold))))
  exact True.intro
theorem getD_none {α : Type} (x : Option α) (d : α) : x.isNone = true → x.getD d = d := by cases x <;> simp
local macro_rules | `(tactic| ktr_unf) => `(tactic| first | k_asm | exact rfl | k_mem | ktr_room | ktr_units | k_updF | omega)

section
variable {w : World} {mean : ExcName → Option Value} {mg mb : Str → Option Value} {dp un : Nat} {gd : Option (List Code)} {cn : Str} {cs : Scope} {a : Addr} {ccd : Value} {cl : List (Str × Addr)} {outer : List Env} {A₀ : Around} {base h₀ : Heap} {L : Addr} {m : Str → Option Value} {led : List (Addr × Obj)} {G : Obj → List (Addr × Obj)} {s : Shared} {Q E : Value → Shared → Prop}

theorem known_call {o dx d nd : Nat} {hsh : Int} {tv tx : Tok} {od : Obj} {kvs : List (Str × Value)} {D : List (PyData × PyData)} {x : Str} 
    (B : Below A₀ base outer h₀) (F : Fr h₀ L s.heap m) (X : (hd.heap_39 w.params).In h₀) (T : Top hd.view_39 LS mean mg mb h₀) (hk : cs.kind = .function)
    (hdp : dp + 1 < recursionLimit) (hu : un + 8 < cLine) (NL : News h₀ L s.heap led) (h1 : (o, optI dx) ∈ led) (h2 : (dx, optD hsh tv d nd) ∈ led) (h3 : (d, od) ∈ led) (hod : od.IsDictOf (PySem.strKind PySem.Challenge.rw_nz0133_01.row.prog w) kvs) (hf : FlatPairs PyData.str kvs D) (lo : (d == sysModules) = false) 
    (hret : ∀  h' tk', Fr h₀ L h' m → News h₀ L h' led → Q (.bool (lookup (.str x) D).isSome) { s with heap := h', toks := tk' }) :
    wpAny (model PySem.Challenge.rw_nz0133_01.row.prog w) (ktrTop dp un gd cn cs L a ccd cl outer) (call (.ref 97) [.ref o, .str x tx]) Q E s := by
  have hmu : ∀ p ∈ [(o, optI dx), (dx, optD hsh tv d nd), (d, od)], p ∈ led := List.forall_mem_cons.mpr ⟨h1, List.forall_mem_cons.mpr ⟨h2, List.forall_mem_singleton.mpr h3⟩⟩
  refine wpAny_call ?_
  k_dflt (k_extra "ktr_enter")
  k_steps
  all_goals exact hret _ _ (by assumption) (led_same NL hmu (by assumption) (fun _ h => h) (by assumption) (by assumption))

theorem flag_callF {o dx d nd : Nat} {hsh : Int} {tv tx : Tok} {od : Obj} {kvs : List (Str × Value)} {D : List (PyData × PyData)} {x : Str} {b : Bool}
    (B : Below A₀ base outer h₀) (F : Fr h₀ L s.heap m) (X : (hd.heap_39 w.params).In h₀) (T : Top hd.view_39 LS mean mg mb h₀) (hk : cs.kind = .function)
    (hdp : dp + 1 < recursionLimit) (hu : un + 8 < cLine) (NL : News h₀ L s.heap led) (h1 : (o, optI dx) ∈ led) (h2 : (dx, optD hsh tv d nd) ∈ led) (h3 : (d, od) ∈ led) (hod : od.IsDictOf (PySem.strKind PySem.Challenge.rw_nz0133_01.row.prog w) kvs) (hf : FlatPairs PyData.str kvs D) (lo : (d == sysModules) = false) (hl : lookup (.str x) D = some (.bool b))
    (hret : ∀  h' tk', Fr h₀ L h' m → News h₀ L h' led → Q (.bool true) { s with heap := h', toks := tk' }) :
    wpAny (model PySem.Challenge.rw_nz0133_01.row.prog w) (ktrTop dp un gd cn cs L a ccd cl outer) (call (.ref 111) [.ref o, .str x tx]) Q E s := by
  have hmu : ∀ p ∈ [(o, optI dx), (dx, optD hsh tv d nd), (d, od)], p ∈ led := List.forall_mem_cons.mpr ⟨h1, List.forall_mem_cons.mpr ⟨h2, List.forall_mem_singleton.mpr h3⟩⟩
  refine wpAny_call ?_
  k_dflt (k_extra "ktr_enter")
  k_steps
  all_goals exact hret _ _ (by assumption) (led_same NL hmu (by assumption) (fun _ h => h) (by assumption) (by assumption))

theorem flag_callC {o dx d nd : Nat} {hsh : Int} {tv tx : Tok} {od : Obj} {kvs : List (Str × Value)} {D : List (PyData × PyData)} {x : Str} {i : Int}
    (B : Below A₀ base outer h₀) (F : Fr h₀ L s.heap m) (X : (hd.heap_39 w.params).In h₀) (T : Top hd.view_39 LS mean mg mb h₀) (hk : cs.kind = .function)
    (hdp : dp + 1 < recursionLimit) (hu : un + 8 < cLine) (NL : News h₀ L s.heap led) (h1 : (o, optI dx) ∈ led) (h2 : (dx, optD hsh tv d nd) ∈ led) (h3 : (d, od) ∈ led) (hod : od.IsDictOf (PySem.strKind PySem.Challenge.rw_nz0133_01.row.prog w) kvs) (hf : FlatPairs PyData.str kvs D) (lo : (d == sysModules) = false) (hl : lookup (.str x) D = some (.int i))
    (hret : ∀  h' tk', Fr h₀ L h' m → News h₀ L h' led → Q (.bool false) { s with heap := h', toks := tk' }) :
    wpAny (model PySem.Challenge.rw_nz0133_01.row.prog w) (ktrTop dp un gd cn cs L a ccd cl outer) (call (.ref 111) [.ref o, .str x tx]) Q E s := by
  have hmu : ∀ p ∈ [(o, optI dx), (dx, optD hsh tv d nd), (d, od)], p ∈ led := List.forall_mem_cons.mpr ⟨h1, List.forall_mem_cons.mpr ⟨h2, List.forall_mem_singleton.mpr h3⟩⟩
  refine wpAny_call ?_
  k_dflt (k_extra "ktr_enter")
  k_steps
  all_goals exact hret _ _ (by assumption) (led_same NL hmu (by assumption) (fun _ h => h) (by assumption) (by assumption))

theorem sayMethb : True := by
  k_with "call ref" => (k_here; (with_reducible show wpAny _ _ (call (Value.ref 111) _) _ _ _); first | (k_dflt (first | (refine' flag_callF ?Bq0 ?Fq0 ?Xq0 ?Tq0 ?hkq0 ?hdq0 ?huq0 ?NLq0 ?h1q0 ?h2q0 ?h3q0 ?hodq0 ?hfq0 ?loq0 ?hlq0 ?_; (case Bq0 => ktr_unf); (case Fq0 => ktr_unf); (case Xq0 => ktr_unf); (case Tq0 => ktr_unf); (case hkq0 => ktr_unf); (case hdq0 => ktr_unf); (case huq0 => ktr_unf); (case NLq0 => ktr_unf); (case h1q0 => ktr_unf); (case h2q0 => ktr_unf); (case h3q0 => ktr_unf); (case hodq0 => ktr_unf); (case hfq0 => ktr_unf); (case loq0 => ktr_unf); (case hlq0 => ktr_unf); k_whole) | (refine' flag_callC ?Bq0 ?Fq0 ?Xq0 ?Tq0 ?hkq0 ?hdq0 ?huq0 ?NLq0 ?h1q0 ?h2q0 ?h3q0 ?hodq0 ?hfq0 ?loq0 ?hlq0 ?_; (case Bq0 => ktr_unf); (case Fq0 => ktr_unf); (case Xq0 => ktr_unf); (case Tq0 => ktr_unf); (case hkq0 => ktr_unf); (case hdq0 => ktr_unf); (case huq0 => ktr_unf); (case NLq0 => ktr_unf); (case h1q0 => ktr_unf); (case h2q0 => ktr_unf); (case h3q0 => ktr_unf); (case hodq0 => ktr_unf); (case hfq0 => ktr_unf); (case loq0 => ktr_unf); (case hlq0 => ktr_unf); k_whole)); intro h9 tk9 F9 N9; (try dsimp only); (try k_fold)) | (k_dflt (first | (refine' flag_callF ?Bq1 ?Fq1 ?Xq1 ?Tq1 ?hkq1 ?hdq1 ?huq1 ?NLq1 ?h1q1 ?h2q1 ?h3q1 ?hodq1 ?hfq1 ?loq1 ?hlq1 ?_; (case Bq1 => ktr_unf); (case Fq1 => ktr_unf); (case Xq1 => ktr_unf); (case Tq1 => ktr_unf); (case hkq1 => ktr_unf); (case hdq1 => ktr_unf); (case huq1 => ktr_unf); (case NLq1 => ktr_unf); (case h1q1 => ktr_unf); (case h2q1 => ktr_unf); (case h3q1 => ktr_unf); (case hodq1 => ktr_unf); (case hfq1 => ktr_unf); (case loq1 => ktr_unf); (case hlq1 => ktr_unf); k_whole) | (refine' flag_callC ?Bq1 ?Fq1 ?Xq1 ?Tq1 ?hkq1 ?hdq1 ?huq1 ?NLq1 ?h1q1 ?h2q1 ?h3q1 ?hodq1 ?hfq1 ?loq1 ?hlq1 ?_; (case Bq1 => ktr_unf); (case Fq1 => ktr_unf); (case Xq1 => ktr_unf); (case Tq1 => ktr_unf); (case hkq1 => ktr_unf); (case hdq1 => ktr_unf); (case huq1 => ktr_unf); (case NLq1 => ktr_unf); (case h1q1 => ktr_unf); (case h2q1 => ktr_unf); (case h3q1 => ktr_unf); (case hodq1 => ktr_unf); (case hfq1 => ktr_unf); (case loq1 => ktr_unf); (case hlq1 => ktr_unf); k_whole)); intro h9 tk9 F9 N9; (try dsimp only); (try k_fold)))
  exact True.intro
theorem on_callF {o dx d nd : Nat} {hsh : Int} {tv tx : Tok} {od : Obj} {kvs : List (Str × Value)} {D : List (PyData × PyData)} {x : Str} {b : Bool}
    (B : Below A₀ base outer h₀) (F : Fr h₀ L s.heap m) (X : (hd.heap_39 w.params).In h₀) (T : Top hd.view_39 LS mean mg mb h₀) (hk : cs.kind = .function)
    (hdp : dp + 2 < recursionLimit) (hu : un + 16 < cLine) (NL : News h₀ L s.heap led) (h1 : (o, optI dx) ∈ led) (h2 : (dx, optD hsh tv d nd) ∈ led) (h3 : (d, od) ∈ led) (hod : od.IsDictOf (PySem.strKind PySem.Challenge.rw_nz0133_01.row.prog w) kvs) (hf : FlatPairs PyData.str kvs D) (lo : (d == sysModules) = false) (hl : lookup (.str x) D = some (.bool b))
    (hret : ∀  h' tk', Fr h₀ L h' m → News h₀ L h' led → Q (.bool b) { s with heap := h', toks := tk' }) :
    wpAny (model PySem.Challenge.rw_nz0133_01.row.prog w) (ktrTop dp un gd cn cs L a ccd cl outer) (call (.ref 104) [.ref o, .str x tx]) Q E s := by
  have hmu : ∀ p ∈ [(o, optI dx), (dx, optD hsh tv d nd), (d, od)], p ∈ led := List.forall_mem_cons.mpr ⟨h1, List.forall_mem_cons.mpr ⟨h2, List.forall_mem_singleton.mpr h3⟩⟩
  refine wpAny_call ?_
  k_dflt (k_extra "ktr_enter")
  k_steps
  all_goals exact hret _ _ (by assumption) (led_same NL hmu (by assumption) (fun _ h => h) (by assumption) (by assumption))

theorem on_callC {o dx d nd : Nat} {hsh : Int} {tv tx : Tok} {od : Obj} {kvs : List (Str × Value)} {D : List (PyData × PyData)} {x : Str} {i : Int}
    (B : Below A₀ base outer h₀) (F : Fr h₀ L s.heap m) (X : (hd.heap_39 w.params).In h₀) (T : Top hd.view_39 LS mean mg mb h₀) (hk : cs.kind = .function)
    (hdp : dp + 2 < recursionLimit) (hu : un + 16 < cLine) (NL : News h₀ L s.heap led) (h1 : (o, optI dx) ∈ led) (h2 : (dx, optD hsh tv d nd) ∈ led) (h3 : (d, od) ∈ led) (hod : od.IsDictOf (PySem.strKind PySem.Challenge.rw_nz0133_01.row.prog w) kvs) (hf : FlatPairs PyData.str kvs D) (lo : (d == sysModules) = false) (hl : lookup (.str x) D = some (.int i))
    (hret : ∀  h' tk', Fr h₀ L h' m → News h₀ L h' led → Q (.bool false) { s with heap := h', toks := tk' }) :
    wpAny (model PySem.Challenge.rw_nz0133_01.row.prog w) (ktrTop dp un gd cn cs L a ccd cl outer) (call (.ref 104) [.ref o, .str x tx]) Q E s := by
  have hmu : ∀ p ∈ [(o, optI dx), (dx, optD hsh tv d nd), (d, od)], p ∈ led := List.forall_mem_cons.mpr ⟨h1, List.forall_mem_cons.mpr ⟨h2, List.forall_mem_singleton.mpr h3⟩⟩
  refine wpAny_call ?_
  k_dflt (k_extra "ktr_enter")
  k_steps
  all_goals exact hret _ _ (by assumption) (led_same NL hmu (by assumption) (fun _ h => h) (by assumption) (by assumption))

theorem text_callF {o dx d nd : Nat} {hsh : Int} {tv tx : Tok} {od : Obj} {kvs : List (Str × Value)} {D : List (PyData × PyData)} {x : Str} {b : Bool}
    (B : Below A₀ base outer h₀) (F : Fr h₀ L s.heap m) (X : (hd.heap_39 w.params).In h₀) (T : Top hd.view_39 LS mean mg mb h₀) (hk : cs.kind = .function)
    (hdp : dp + 2 < recursionLimit) (hu : un + 16 < cLine) (NL : News h₀ L s.heap led) (h1 : (o, optI dx) ∈ led) (h2 : (dx, optD hsh tv d nd) ∈ led) (h3 : (d, od) ∈ led) (hod : od.IsDictOf (PySem.strKind PySem.Challenge.rw_nz0133_01.row.prog w) kvs) (hf : FlatPairs PyData.str kvs D) (lo : (d == sysModules) = false) (hl : lookup (.str x) D = some (.bool b))
    (hret : ∀ t h' tk', Fr h₀ L h' m → News h₀ L h' led → Q (.str (if b then Str.ofString "true" else Str.ofString "false") t) { s with heap := h', toks := tk' }) :
    wpAny (model PySem.Challenge.rw_nz0133_01.row.prog w) (ktrTop dp un gd cn cs L a ccd cl outer) (call (.ref 132) [.ref o, .str x tx]) Q E s := by
  have hmu : ∀ p ∈ [(o, optI dx), (dx, optD hsh tv d nd), (d, od)], p ∈ led := List.forall_mem_cons.mpr ⟨h1, List.forall_mem_cons.mpr ⟨h2, List.forall_mem_singleton.mpr h3⟩⟩
  refine wpAny_call ?_
  k_dflt (k_extra "ktr_enter")
  k_steps
  · have hb : b = true := by assumption
    simp only [hb, eq_self, if_true] at hret
    exact hret _ _ _ (by assumption) (led_same NL hmu (by assumption) (fun _ h => h) (by assumption) (by assumption))
  · have hb : b = false := by assumption
    simp only [hb, Bool.false_eq_true, if_false] at hret
    exact hret _ _ _ (by assumption) (led_same NL hmu (by assumption) (fun _ h => h) (by assumption) (by assumption))


theorem text_callC {o dx d nd : Nat} {hsh : Int} {tv tx : Tok} {od : Obj} {kvs : List (Str × Value)} {D : List (PyData × PyData)} {x : Str} {i : Int}
    (B : Below A₀ base outer h₀) (F : Fr h₀ L s.heap m) (X : (hd.heap_39 w.params).In h₀) (T : Top hd.view_39 LS mean mg mb h₀) (hk : cs.kind = .function)
    (hdp : dp + 2 < recursionLimit) (hu : un + 16 < cLine) (NL : News h₀ L s.heap led) (h1 : (o, optI dx) ∈ led) (h2 : (dx, optD hsh tv d nd) ∈ led) (h3 : (d, od) ∈ led) (hod : od.IsDictOf (PySem.strKind PySem.Challenge.rw_nz0133_01.row.prog w) kvs) (hf : FlatPairs PyData.str kvs D) (lo : (d == sysModules) = false) (hl : lookup (.str x) D = some (.int i)) (h0 : 0 ≤ i) (h30 : i < 10 ^ 30)
    (hret : ∀ t h' tk', Fr h₀ L h' m → News h₀ L h' led → Q (.str (Str.ofString (toString i)) t) { s with heap := h', toks := tk' }) :
    wpAny (model PySem.Challenge.rw_nz0133_01.row.prog w) (ktrTop dp un gd cn cs L a ccd cl outer) (call (.ref 132) [.ref o, .str x tx]) Q E s := by
  have hmu : ∀ p ∈ [(o, optI dx), (dx, optD hsh tv d nd), (d, od)], p ∈ led := List.forall_mem_cons.mpr ⟨h1, List.forall_mem_cons.mpr ⟨h2, List.forall_mem_singleton.mpr h3⟩⟩
  refine wpAny_call ?_
  k_dflt (k_extra "ktr_enter")
  k_steps
  all_goals exact hret _ _ _ (by assumption) (led_same NL hmu (by assumption) (fun _ h => h) (by assumption) (by assumption))
end
end

section
theorem freshBase2 : True := by
  w_top off
  k_with_none
  exact True.intro
open PySem PySem.W PyProof.Rows PyProof.V PySem.Calls PySem.Spec
set_option maxRecDepth 100000
set_option maxHeartbeats 8000000
section
variable {prog : Program} {w : World} {A₀ A : Around} {s : Shared} {base h₀ : Heap} {outer : List Env} {L : Addr} {m mg mb : Str → Option Value} {env : Env} {led mu : List (Addr × Obj)} {K : Frag} {p : Program} {loose : List Str} {mean : ExcName → Option Value}
  {R : Result → Shared → Prop} {name qual : Str} {params : Arguments} {body : List Stmt} {scope : Scope} {dV kV doc pm cdv ct oc : Value} {an od : Option Addr} {osl : Array (Option Value)} {f cc : Addr} {args : Args} {binds : List (Str × Value)}

theorem code_superL (B : Below A₀ base outer h₀) (F : Fr h₀ L s.heap m) (X₀ : K.In h₀) (NL : News h₀ L s.heap led) (hmu : ∀ p ∈ mu, p ∈ led) (T : Top p loose mean mg mb h₀) (hA : A.frames = some (env :: outer)) (hf : env.frame = some L) (hke : env.scope.kind = .function)
    (ho : K.lookup f = some ⟨oc, od, .func (ksFn name qual params body scope dV kV doc pm an cdv ct cc), osl⟩) (hcd : codeIn K cdv qual = true) (hroom : A.depth < recursionLimit)
    (hbind : BindsTo s (ksFn name qual params body scope dV kV doc pm an cdv ct cc) args binds) (hloc : ∀ y ∈ binds, scope.names.lookup y.1 = some .local)
    (h : ∀ g L' h₁, Fr h₀ L g m → Fr g L' h₁ (fun y => binds.reverse.lookup y) → News g L' h₁ mu → Below A base (env :: outer) g → K.In g → Top p loose mean mg mb g → Frm led mu g → (∀ p ∈ mu, p.1 < L') →
      PySem.wpAt (model prog w) (A.deeper (ksEnv qual scope L' f cdv cc)) (.func body (ksEnv qual scope L' f cdv cc)) (execs body (ksEnv qual scope L' f cdv cc))
        (fun fl s' => LeaveK h₀ L m g R (match fl with | .ret v => v | _ => .none) s')
        (fun e s' => wpAny (model prog w) (A.deeper (ksEnv qual scope L' f cdv cc)) (leaving (ksEnv qual scope L' f cdv cc) e) (fun _ s'' => R (.error e) s'') (fun e' s'' => R (.error e') s'') s')
        { s with heap := h₁, toks := s.toks + binds.length })
    (hcell : ∀ x ∈ scope.names, x.2 ≠ .cell) (hco : scope.isCoroutine = false) (hgen : scope.isGenerator = false) (hk : scope.kind = .function) : codeAny (model prog w) A (.call (.ref f) args) R s := by
  have N : News h₀ L s.heap mu := fun p hp => NL p (hmu p hp)
  obtain ⟨FG, BG, st, lv⟩ := groundX (R := R) B F N hA hf hke
  refine ks_codeAny_call_defAt (fd := ksFn name qual params body scope dV kV doc pm an cdv ct cc) (body := body) (binds := binds) hroom ((X₀.keeps F.keep) _ _ ho) rfl (T.nolimit.keeps F.keep) (codeRec_of (X₀.keeps F.keep) hcd) rfl hbind hcell hloc
    (fun h₁ hns hk₁ => ?_) hco hgen hk
  have F₁ : Fr (hideAll s.heap (mu.map (·.1))) s.heap.objs.size h₁ (fun y => binds.reverse.lookup y) := ⟨hns, fun b o e => hk₁ b o (of_hideAll _ e), Nat.le_of_eq (hideAll_size _ _)⟩
  have N₁ : News (hideAll s.heap (mu.map (·.1))) s.heap.objs.size h₁ mu := fun q hq => ⟨hk₁ _ _ (N q hq).1, Nat.ne_of_lt (Heap.lt_size (N q hq).1), hideAll_none _ (List.mem_map_of_mem hq)⟩
  have fr : Frm led mu (hideAll s.heap (mu.map (·.1))) := fun q hq hn => hideAll_get _ (NL q hq).1 hn
  exact ks_wpAt_mono (h _ _ h₁ FG F₁ N₁ BG (X₀.keeps st) (T.keeps st) fr fun q hq => Heap.lt_size (N q hq).1) (fun fl s' hl => lv _ _ hl) fun _ _ y => y
end
end

section
theorem freshExc1 : True := by
  w_top off
  k_with_none
  exact True.intro
open PySem PySem.W PyProof.Rows PyProof.V PySem.Calls PySem.Spec
set_option maxRecDepth 100000
set_option maxHeartbeats 8000000
section
variable {M : Model} {A : Around} {E : Value → Shared → Prop} {env : Env} {K : Frag} {C : Addr}

/-- raising an instance of an own class, its dict made or not -/
theorem raiseStmt_inst {s : Shared} {x : Sem Value} {Q : Flow → Shared → Prop} (hsub : subIn K (.ref C) (.type "BaseException") = some true) (ht : typeIn K (.ref C) = some (.type "type")) (hh : A.handled = none)
    (h : wpAny M A x (fun v s₁ => ∃ e dd vs sl, v = .ref e ∧ K.In s₁.heap ∧ s₁.heap.get? e = some ⟨.ref C, dd, .fields vs, sl⟩ ∧ vs[1]? = some .none ∧ E (.ref e) s₁) E s) :
    wpAny M A (raiseStmt env (some x) none) Q E s := by
  unfold raiseStmt
  refine wpAny_bind (wpAny_mono h (fun v s₁ h₁ => ?_) fun _ _ x => x)
  obtain ⟨e, dd, vs, sl, rfl, X, he, h1, hE⟩ := h₁
  obtain ⟨hp, g, d, tk, os⟩ := s₁
  have hdt : (Obj.mk (.ref C) dd (.fields vs) sl).data = .fields vs := rfl
  have L1 := looks_subIn (M := M) X hsub
  have L2 := looks_typeIn (M := M) X ht
  unfold excFromValue isExcClass raisedInstance
  repeat (first | with_reducible refine wpAny_loadPart_at he ?_ | with_reducible refine Looks.at L1 ?_ | with_reducible refine Looks.at L2 ?_ | with_reducible refine wpAny_field he hdt h1 ?_ | wp_step)
  exact wpAny_raiseNew_none hh hE
end

section
variable {prog : Program} {w : World} {A : Around} {E : Value → Shared → Prop} {K : Frag} {C D x so : Addr}
theorem slot_wd_get : Slot "wrapper_descriptor" "__get__" "wrapper_descriptor.__get__" := .of (owner := "wrapper_descriptor") (n := "__get__") (by rw [typeLookup_type, builtinLookup_eq_fast]; kernel_rfl) (by decide +kernel) (by decide +kernel) (by decide +kernel)
  (by first | exact .inl (by decide +kernel) | exact .inr (by decide +kernel)) (by rw [isSubtype_type]; kernel_rfl)
theorem entry_wd_get : entryFor table "wrapper_descriptor.__get__" = some Builtin.«wrapper_descriptor.__get__» := entryFor_of_tree (by kernel_rfl)
theorem args_wd_get (a b c : Value) : argsOk "wrapper_descriptor.__get__" ⟨[a, b, c], []⟩ := by unfold argsOk; kernel_rfl
theorem type_ei : typeOf (.builtin "Exception.__init__") = pure (.type "wrapper_descriptor") := by show builtinType _ = _; rw [builtinType_eq_fast]; kernel_rfl

theorem check_wd_get {C x : Addr} : checkBuiltinCall "wrapper_descriptor.__get__" ⟨[.builtin "Exception.__init__", .ref x, .ref C], []⟩ = pure () := by kernel_rfl
theorem wd_owner : ".".intercalate ("Exception.__init__".cutAt '.').dropLast = "Exception" := by decide +kernel
theorem super_ga_init {h : Heap} {g : Array GenState} {d : Drawn} {t : Nat} {os : OsState} {l₀ l : List Value} {tk : Tok} {Q : Fin → Shared → Prop}
    (hso : h.get? so = some (ks_superObj D x C)) (hno : Looks (model prog w) h (opaqueClassAbove (.ref C)) none)
    (hC : Looks (model prog w) h (mroOf (.ref C)) l₀) (hl : (l₀.dropWhile (· != .ref D)).drop 1 = l) (X : K.In h)
    (hf : alongIn K "__init__" l = some (some (.builtin "Exception.__init__"))) (hxC : x ≠ C) {ox : Obj} (hx : h.get? x = some ox) (hxc : ox.cls = .ref C) (hi : Looks (model prog w) h (isSubtype (.ref C) (.type "Exception")) true)
    (hq : Q (.done (.ret (.ref h.objs.size))) ⟨h.push { cls := .type "method-wrapper", data := .fields #[.builtin "Exception.__init__", .ref x] }, g, d, t, os⟩) :
    wpAny (model prog w) A (Builtin.«super.__getattribute__» ⟨[.ref so, .str "__init__" tk], []⟩) Q E ⟨h, g, d, t, os⟩ := by
  have hlk := slot_wd_get.lookup
  have hty := type_ei
  have hne : (Value.ref x == Value.ref C) = false := by simp [hxC]
  have hdt : (ks_superObj D x C).data = .fields #[.ref D, .ref x, .ref C] := rfl
  have f0 : (#[.ref D, .ref x, .ref C] : Array Value)[0]? = some (.ref D) := rfl
  have f1 : (#[.ref D, .ref x, .ref C] : Array Value)[1]? = some (.ref x) := rfl
  have f2 : (#[.ref D, .ref x, .ref C] : Array Value)[2]? = some (.ref C) := rfl
  have hn : (("__init__" : Str) == ("__class__" : Str)) = false := by decide
  unfold Builtin.«super.__getattribute__»
  repeat (first
    | (with_reducible refine wpAny_field hso hdt f0 ?_) | (with_reducible refine wpAny_field hso hdt f1 ?_) | (with_reducible refine wpAny_field hso hdt f2 ?_)
    | (with_reducible refine ks_wpAny_notOpaque hno ?_)
    | (with_reducible refine Looks.at hC ?_; rw [hl])
    | (refine ks_forIn_along X (fun _ _ => rfl) rfl ?_ hf)
    | (with_reducible refine wpAny_of_eq hty ?_)
    | (with_reducible refine wpAny_of_eq hlk ?_)
    | (with_reducible refine ⟨_, rfl, ?_⟩)
    | (simp only [hn, hne, Bool.or_false, Bool.false_eq_true, if_false])
    | wp_step
    | dsimp only)
  refine codeAny_call_builtin slot_wd_get.plain entry_wd_get (wpAny_of_eq check_wd_get ?_)
  unfold Builtin.«wrapper_descriptor.__get__»
  repeat (first | (with_reducible refine wpAny_loadPart_at hx ?_; rw [hxc]) | wp_step | dsimp only)
  rw [wd_owner]
  refine Looks.at hi ?_
  repeat (first | wp_step | dsimp only)
  exact hq

theorem getMethod_super_init {h : Heap} {g : Array GenState} {d : Drawn} {t : Nat} {os : OsState} {l₀ l : List Value} {pl : Sem Bool} {Q : Value × List Value → Shared → Prop}
    (hso : h.get? so = some (ks_superObj D x C)) (hno : Looks (model prog w) h (opaqueClassAbove (.ref C)) none)
    (hC : Looks (model prog w) h (mroOf (.ref C)) l₀) (hl : (l₀.dropWhile (· != .ref D)).drop 1 = l) (X : K.In h)
    (hf : alongIn K "__init__" l = some (some (.builtin "Exception.__init__"))) (hxC : x ≠ C) {ox : Obj} (hx : h.get? x = some ox) (hxc : ox.cls = .ref C) (hi : Looks (model prog w) h (isSubtype (.ref C) (.type "Exception")) true)
    (hq : Q (.ref h.objs.size, []) ⟨h.push { cls := .type "method-wrapper", data := .fields #[.builtin "Exception.__init__", .ref x] }, g, d, t + 1, os⟩) :
    wpAny (model prog w) A (getMethod (.ref so) "__init__" pl) Q E ⟨h, g, d, t, os⟩ := by
  have hlk := F.ks_slot_super_ga.lookup
  have hcan := F.ks_canon_super_ga
  have hT : ∀ t', (⟨h, g, d, t', os⟩ : Shared).TypeIs (.ref so) "super" := fun _ => ⟨_, hso, rfl⟩
  unfold getMethod
  refine wpAny_bind (wpAny_specialOf (hT _) hlk ?_)
  show wpAny _ _ (if (Manifest.canonical "super.__getattribute__" != "object.__getattribute__") = true then _ else _) _ _ _
  rw [if_pos hcan]
  unfold getAttr getAttrBy
  refine wpAny_bind (wpAny_bind (wpAny_mkText (wpAny_holding (wpAny_bind (wpAny_typeOf (hT _) (wpAny_bind (wpAny_of_eq hlk ?_)))))))
  show wpAny _ _ (getAttrByItsOwn (.ref so) (.str "__init__" t) (.type "super") (.builtin "super.__getattribute__") true false) _ _ _
  unfold getAttrByItsOwn hookBefore callGetattribute boundAndCalled
  refine wpAny_bind (wpAny_of_eq (show (if onTheHeap (.type "super") then typeLookup (.type "super") "__getattr__" else pure none) = pure none from rfl) ?_)
  refine wpAny_bind (wpAny_attempt (wpAny_holding ?_))
  show wpAny _ _ (bindSpecial (.builtin "super.__getattribute__") (.ref so) >>= _) _ _ _
  refine wpAny_bind (wpAny_of_eq (F.ks_slot_super_ga.bind _) ?_)
  refine wpAny_mono (Q := fun v s' => v = .ref h.objs.size ∧ s' = ⟨h.push { cls := .type "method-wrapper", data := .fields #[.builtin "Exception.__init__", .ref x] }, g, d, t + 1, os⟩) (E := fun _ _ => False)
    (wpAny_call_entry F.ks_slot_super_ga (hT _) F.ks_entry_super_ga (super_ga_init hso hno hC hl X hf hxC hx hxc hi ⟨_, rfl, rfl, rfl⟩) (F.ks_gaArgs_super _ _)) (fun v s' hv => ?_) fun _ _ z => z.elim
  obtain ⟨rfl, rfl⟩ := hv
  exact wpAny_pure (wpAny_pure hq)

theorem bound_ei {M : Model} {x : Addr} {ox : Obj} {cd : ClassData} {y : Str} {ty : Tok} {Q : Unit → Shared → Prop} {h : Heap} {g : Array GenState} {d : Drawn} {t : Nat} {os : OsState} (X : K.In h) (hx : h.get? x = some ox) (hxc : ox.cls = .ref C) (hc : clsIn K C = some cd) (ht : typeIn K (.ref C) = some (.type "type")) (hq : Q () ⟨h, g, d, t, os⟩) :
    wpAny M A (checkBoundCall "Exception.__init__" ⟨[.ref x, .str y ty], []⟩) Q E ⟨h, g, d, t, os⟩ := by
  have hk : builtinKind "Exception.__init__" = some .slot := PySem.F.excBase_Exception.initKind
  simp only [checkBoundCall, hk, PySem.F.excBase_Exception.initRow]
  have hshort := PySem.F.excBase_Exception.noStar
  have L1 := looks_clsIn (M := M) X hc
  have L2 := looks_typeIn (M := M) X ht
  rw [if_pos (by decide)]
  unfold Bind.checkArgs
  repeat (first | (with_reducible refine wpAny_loadPart_at hx ?_; rw [hxc]) | with_reducible refine Looks.at L1 ?_ | with_reducible refine Looks.at L2 ?_ | wp_step | dsimp only)
  exact hq
theorem quiet_ei {x : Addr} {y : Str} {ty : Tok} : (Code.builtin "Exception.__init__" ⟨[.ref x, .str y ty], []⟩).quiet = true := plainId_quiet (by decide +kernel) _

theorem mw_init {q : Addr} {y : Str} {ty : Tok} {t0 : Addr} {v1 v2 v3 v4 v5 : Value} {h : Heap} {g : Array GenState} {d : Drawn} {t : Nat} {os : OsState} {R : Result → Shared → Prop}
    (X : K.In h) {cd : ClassData} (hc : clsIn K C = some cd) (ht : typeIn K (.ref C) = some (.type "type")) (hq : h.get? q = some { cls := .type "method-wrapper", data := .fields #[.builtin "Exception.__init__", .ref x] }) (he : h.get? x = some ⟨.ref C, none, .fields #[.ref t0, v1, v2, v3, v4, v5], #[]⟩)
    (hR : R (.ok (.ret .none)) ⟨(h.push { cls := .type "tuple", data := .seq #[.str y ty] }).update x (Obj.mapFields (·.setIfInBounds 0 (.ref h.objs.size))), g, d, t, os⟩) :
    codeAny (model prog w) A (.call (.ref q) ⟨[.str y ty], []⟩) R ⟨h, g, d, t, os⟩ := by
  refine codeAny_of_tree ?_
  show wpAny _ A.in1 (callAny (.ref q) ⟨[.str y ty], []⟩) _ _ _
  unfold callAny
  refine wpAny_bind (wpAny_load hq ?_)
  refine wpAny_bind (bound_ei X he rfl hc ht (wpAny_pure ⟨quiet_ei, ?_⟩))
  refine codeAny_builtin PySem.F.excBase_Exception.initEntry ?_
  unfold Builtin.«BaseException.__init__»
  repeat (first | with_reducible refine wpAny_loadPart_at he ?_ | wp_step | dsimp only)
  exact hR
end
end

section
theorem freshExc2 : True := by
  w_top off
  k_with_none
  exact True.intro
open PySem PySem.W PyProof.Rows PyProof.V PySem.Calls PySem.Spec Builtin Builtin.ObjectAttr
set_option maxRecDepth 100000
set_option maxHeartbeats 8000000
section
variable {prog : Program} {w : World} {A : Around} {E : Value → Shared → Prop} {K : Frag} {C D x so : Addr}

/-- the first attribute of an exception of an own class: its dict is made -/
theorem osa_first {h : Heap} {g : Array GenState} {d : Drawn} {t : Nat} {os : OsState} {vs : Array Value} {name : Str} {tk : Tok} {v : Value} {cd : ClassData} {R : Result → Shared → Prop}
    (X : K.In h) (hx : h.get? x = some ⟨.ref C, none, .fields vs, #[]⟩) (hc : clsIn K C = some cd) (hd : cd.hasDict = true) (hm : cd.mro = .ref C :: .ref D :: [.type "Exception", .type "BaseException", .type "object"])
    (hi : subIn K (.ref C) (.type "object") = some true) (ha : findIn K (.ref C) name = some none)
    (hR : R (.ok (.ret .none)) ⟨((h.push { cls := .type "dict", data := .dict #[] }).update x fun o => { o with dict := some h.objs.size }).update h.objs.size (Obj.putName name (PyData.keyHash w.params name) (.str name t) v), g, d, t + 1, os⟩) :
    codeAny (model prog w) A (.call (.builtin "object.__setattr__") ⟨[.ref x, .str name tk, v], []⟩) R ⟨h, g, d, t, os⟩ := by
  have SF := PySem.F.store_object
  have LT : Looks (model prog w) h (typeOf (.ref x)) (.ref C) := (Looks.ld hx).andThen .now
  have sub : Looks (model prog w) h (isInstance (.ref x) (.type "object")) true := LT.andThen (looks_subIn X hi)
  refine codeAny_call_builtin SF.slot.plain SF.entry (@check_slot (model prog w) _ _ ⟨h, g, d, t, os⟩ "object.__setattr__" "object" "__setattr__" (.ref x) [.str name tk, v] [] _ SF.kind SF.split sub (SF.args (.ref x) (.str name tk) v) ?_)
  have hmr : Looks (model prog w) h (mroOf (.ref C)) cd.mro := (looks_clsIn X hc).andThen .now
  rw [osa_eq, refuse_eq]
  refine wpAny_bind (wpAny_bind (LT.at (wpAny_bind (hmr.at ?_))))
  rw [hm, refuseLoop_ref, refuseLoop_ref, PySem.F.store_Exception.passes]
  refine wpAny_pure (wpAny_bind (LT.at (wpAny_bind ((looks_findIn X ha).at (wpAny_bind (wpAny_pure ?_))))))
  dsimp only
  unfold storeInOwnDict
  refine wpAny_bind (wpAny_pure ?_)
  rw [if_neg (by simp)]
  refine wpAny_bind ?_
  unfold ownDictForStores instanceDict
  refine wpAny_bind (wpAny_loadPart_at hx (wpAny_bind ((looks_clsIn X hc).at ?_)))
  rw [hd]
  have hpD : (h.push { cls := .type "dict", data := .dict #[] }).get? h.objs.size = some { cls := .type "dict", data := .dict #[] } := Heap.get?_push_size _ rfl
  have hpx : (h.push { cls := .type "dict", data := .dict #[] }).get? x = some ⟨.ref C, none, .fields vs, #[]⟩ := Heap.get?_push_of_some _ hx
  have hne : x ≠ h.objs.size := Nat.ne_of_lt (Heap.lt_size hx)
  have hu : ((h.push { cls := .type "dict", data := .dict #[] }).update x fun o => { o with dict := some h.objs.size }).get? h.objs.size = some { cls := .type "dict", data := .dict #[] } := (Heap.get?_update_ne _ _ _ _ (Ne.symm hne)).trans hpD
  refine wpAny_bind (wpAny_alloc (wpAny_bind (wpAny_update hpx (wpAny_pure ?_))))
  refine wpAny_bind (wpAny_pure (wpAny_bind ?_))
  unfold nsSet
  refine wpAny_bind (wpAny_bind (wpAny_askSetting (wpAny_pure (wpAny_bind (wpAny_mkText (wpAny_bind (wpAny_loadPart hu ?_)))))))
  dsimp only
  rw [aRefKeyMayBeTheName_at]
  rw [if_neg (by simp)]
  refine wpAny_updatePart hu ?_
  have D' : (((h.push { cls := .type "dict", data := .dict #[] }).update x fun o => { o with dict := some h.objs.size }).update h.objs.size (Obj.putName name (PyData.keyHash w.params name) (.str name t) v)).get? h.objs.size = some (dictOf [⟨PyData.keyHash w.params name, .str name t, v⟩] 1) := Heap.get?_update_self _ hu rfl
  refine wpAny_bind (wpAny_lookBehind D' (pastItsLine_dict (by rw [sizeLine_eq]; exact Nat.le_add_left 1 _)) ?_)
  exact wpAny_pure hR

noncomputable abbrev mwO (x : Addr) : Obj := { cls := .type "method-wrapper", data := .fields #[.builtin "Exception.__init__", .ref x] }
noncomputable abbrev excO (t : Addr) : Obj := { cls := .ref 60, data := .fields #[.ref t, .none, .none, .none, .bool false, .none] }
noncomputable abbrev excD (t dx : Addr) : Obj := { cls := .ref 60, dict := some dx, data := .fields #[.ref t, .none, .none, .none, .bool false, .none] }
noncomputable abbrev tupO (vs : List Value) : Obj := { cls := .type "tuple", data := .seq vs.toArray }
end

section
variable {prog : Program} {w : World} {A : Around} {E : Value → Shared → Prop} {s : Shared} {K : Frag} {h₀ : Heap} {L x so t : Addr} {m : Str → Option Value} {news rest : List (Addr × Obj)} {cd : ClassData} {name : Str} {v : Value}

theorem gm_super {pl : Sem Bool} {Q : Value × List Value → Shared → Prop} (F : Fr h₀ L s.heap m) (X₀ : K.In h₀) (N : News h₀ L s.heap news) (hso : (so, ks_superObj 40 x 60) ∈ news) (hx : (x, excO t) ∈ news)
    (hno : nsIn K cStatics "thirdparty.any" = some none) (hc : clsIn K 60 = some cd) (hf : alongIn K "__init__" ((cd.mro.dropWhile (· != .ref 40)).drop 1) = some (some (.builtin "Exception.__init__")))
    (hi : subIn K (.ref 60) (.type "Exception") = some true)
    (h : ∀ q h', Fr h₀ L h' m → News h₀ L h' ((q, mwO x) :: news) → (∀ p ∈ news, p.1 < q) → Q (.ref q, []) { s with heap := h', toks := s.toks + 1 }) :
    wpAny (model prog w) A (getMethod (.ref so) "__init__" pl) Q E s := by
  have X : K.In s.heap := X₀.keeps F.keep
  obtain ⟨hh, g, d, t, os⟩ := s
  have I : InstAt hh x (excO _) 60 none := ⟨(N _ hx).1, rfl, rfl, trivial⟩
  refine getMethod_super_init (N _ hso).1 (looks_opaque X hno) (l₀ := cd.mro) ?_ rfl X hf (ks_ne X I hc) (N _ hx).1 rfl (looks_subIn X hi) ?_
  · exact (looks_clsIn X hc).andThen .now
  · obtain ⟨F', N', l'⟩ := ks_newsPush (s := ⟨hh, g, d, t, os⟩) (o := mwO x) F N rfl (Heap.get?_push_at rfl rfl) (fun b o e => Heap.get?_push_of_some _ e)
    exact h _ _ F' N' l'

theorem call_mw {q : Addr} {y : Str} {ty : Tok} {Q : Value → Shared → Prop} (F : Fr h₀ L s.heap m) (X₀ : K.In h₀) (N : News h₀ L s.heap ((x, excO t) :: rest)) (hr : ∀ p ∈ rest, p.1 ≠ x) (hq : (q, mwO x) ∈ rest)
    (hc : clsIn K 60 = some cd) (ht : typeIn K (.ref 60) = some (.type "type"))
    (h : ∀ t' h', Fr h₀ L h' m → News h₀ L h' ((t', tupO [.str y ty]) :: (x, excO t') :: rest) → x < t' → (∀ p ∈ rest, p.1 < t') → L < t' → Q .none { s with heap := h' }) :
    wpAny (model prog w) A (call (.ref q) [.str y ty] []) Q E s := by
  have X : K.In s.heap := X₀.keeps F.keep
  refine wpAny_call ?_
  have N1 := News.push F N (tupO [.str y ty])
  have F1 := F.push (tupO [.str y ty])
  have hxl : x < s.heap.objs.size := Heap.lt_size (N (x, excO t) (.head _)).1
  obtain ⟨F2, N2⟩ := news_upd (pre := [(s.heap.objs.size, tupO [.str y ty])]) (post := rest) (d := x) (o := excO t) (o' := excO s.heap.objs.size) (f := Obj.mapFields (·.setIfInBounds 0 (.ref s.heap.objs.size))) F1 N1
    (fun p hp => by rw [List.mem_singleton.mp hp]; exact Nat.ne_of_gt hxl) hr rfl rfl
  have k := h _ _ F2 N2 hxl (fun p hp => Heap.lt_size (N p (.tail _ hp)).1) F.ns.lt
  have hq' := (N (q, mwO x) (.tail _ hq)).1
  have hx' := (N (x, excO t) (.head _)).1
  obtain ⟨hh, g, d, tk, os⟩ := s
  exact mw_init X hc ht hq' hx' k

theorem set_first {vs : Array Value} {Q : Unit → Shared → Prop} (F : Fr h₀ L s.heap m) (X₀ : K.In h₀) (N : News h₀ L s.heap ((x, ⟨.ref 60, none, .fields vs, #[]⟩) :: rest)) (hr : ∀ p ∈ rest, p.1 ≠ x)
    (hs : findIn K (.ref 60) "__setattr__" = some (some (.builtin "object.__setattr__"))) (hc : clsIn K 60 = some cd) (hd : cd.hasDict = true) (hm : cd.mro = .ref 60 :: .ref 40 :: [.type "Exception", .type "BaseException", .type "object"])
    (hi : subIn K (.ref 60) (.type "object") = some true) (ha : findIn K (.ref 60) name = some none)
    (h : ∀ dx h' tk, Fr h₀ L h' m → News h₀ L h' ((dx, dictOf [⟨PyData.keyHash w.params name, .str name tk, v⟩] 1) :: (x, ⟨.ref 60, some dx, .fields vs, #[]⟩) :: rest) → x < dx → (∀ p ∈ rest, p.1 < dx) → Q () { s with heap := h', toks := s.toks + 2 }) :
    wpAny (model prog w) A (setAttr (.ref x) name v) Q E s := by
  have X : K.In s.heap := X₀.keeps F.keep
  have I : InstAt s.heap x ⟨.ref 60, none, .fields vs, #[]⟩ 60 none := ⟨(N _ (.head _)).1, rfl, rfl, trivial⟩
  refine set_plain X I hs ?_
  have hxl : x < s.heap.objs.size := Heap.lt_size (N (x, ⟨.ref 60, none, .fields vs, #[]⟩) (.head _)).1
  have N1 := News.push F N { cls := .type "dict", data := .dict #[] }
  have F1 := F.push { cls := .type "dict", data := .dict #[] }
  obtain ⟨F2, N2⟩ := news_upd (pre := [(s.heap.objs.size, { cls := .type "dict", data := .dict #[] })]) (post := rest) (d := x) (o := ⟨.ref 60, none, .fields vs, #[]⟩) (o' := ⟨.ref 60, some s.heap.objs.size, .fields vs, #[]⟩) (f := fun o => { o with dict := some s.heap.objs.size }) F1 N1
    (fun p hp => by rw [List.mem_singleton.mp hp]; exact Nat.ne_of_gt hxl) hr rfl rfl
  obtain ⟨F3, N3⟩ := news_upd (pre := []) (post := (x, ⟨.ref 60, some s.heap.objs.size, .fields vs, #[]⟩) :: rest) (d := s.heap.objs.size) (o := { cls := .type "dict", data := .dict #[] }) (o' := dictOf [⟨PyData.keyHash w.params name, .str name (s.toks + 1), v⟩] 1) (f := Obj.putName name (PyData.keyHash w.params name) (.str name (s.toks + 1)) v) F2 N2
    (fun p hp => nomatch hp) (fun p hp => by
      rcases List.mem_cons.mp hp with rfl | hp
      · exact Nat.ne_of_lt hxl
      · exact Nat.ne_of_lt (Heap.lt_size (N p (.tail _ hp)).1)) rfl rfl
  have k := h _ _ _ F3 N3 hxl fun p hp => Heap.lt_size (N p (.tail _ hp)).1
  have hx' := (N (x, ⟨.ref 60, none, .fields vs, #[]⟩) (.head _)).1
  obtain ⟨hh, g, d, tk, os⟩ := s
  exact osa_first X hx' hc hd hm hi ha k
end

section
variable {M : Model} {A : Around} {E : Value → Shared → Prop} {s : Shared} {env : Env} {pos : Pos}
theorem looks_mw {q x : Addr} {h : Heap} (hq : h.get? q = some (mwO x)) : ∃ k, (k = Keeper.frame ∨ k = Keeper.machine ∨ k = Keeper.boundFrame) ∧ Looks M h (keeperOf (.ref q)) k :=
  ⟨.machine, .inr (.inl rfl), (Looks.ld (part := none) hq).andThen .now⟩
theorem callWith_mw {q x : Addr} {e : Expr} {rest : List Expr} {Q : Value → Shared → Prop}
    (h : wpAny M A (spliced (backTo pos (starEach (e :: rest) env))) (fun vs s₁ => s₁.heap.get? q = some (mwO x) ∧ wpAny M A (call (.ref q) ([] ++ vs)) Q E s₁) E s)
    (he : starEach (e :: rest) env = (false, eval e env) :: starEach rest env := by rfl) (hplain : (backTo pos (starEach rest env)).any (·.1) = false := by rfl) :
    wpAny M A (callWith pos (.ref q) [] (backTo pos (starEach (e :: rest) env)) []) Q E s := by
  rw [he] at h ⊢
  exact callWith_of (by show ((false || (backTo pos (starEach rest env)).any (·.1)) || false) = false; rw [hplain]; rfl) (fun h hq => looks_mw hq) (evalArgs_plain h)
end
end

section
theorem freshExcInit : True := by
  w_top off
  k_with_none
  exact True.intro
open PySem PySem.W PyProof.Rows PyProof.V PySem.Calls PySem.Spec
set_option maxRecDepth 100000
set_option maxHeartbeats 8000000
local macro_rules | `(tactic| ktr_unf) => `(tactic| first | k_asm | exact rfl | k_mem | ktr_room | ktr_units | k_updF | omega)

theorem sayExcInita : True := by
  k_with_none
  k_with "ktr_enter" => (first | ((refine' code_defL ?k1q0 ?k2q0 ?k3q0 ?k4q0 ?kMq0 ?k5q0 ?kAq0 ?kFq0 ?kKq0 ?k6q0 ?k7q0 ?k8q0 ?k9q0 ?kBq0 ?_ ?c2q0 ?c3q0 ?c4q0 ?c5q0; (case kAq0 => exact rfl); (case kFq0 => exact rfl); (case kKq0 => assumption); (case k1q0 => k_asm); (case k2q0 => k_asm); (case k3q0 => k_asm); (case k4q0 => k_asm); (case kMq0 => assumption); (case k5q0 => k_asm); (case k6q0 => k_is); (case k7q0 => k_is); (case k8q0 => ktr_room); (case k9q0 => exact BindsTo.of_eq rfl); (case c5q0 => decide); (case kBq0 => exact locs rfl); (case c2q0 => exact rfl); (case c3q0 => exact rfl); (case c4q0 => exact rfl); k_whole; intro g' L' h' FG' F' N' B' X' T' fr' l1; (try k_lt l1); (try dsimp only); (try k_fold))) | ((refine' code_defL ?k1q1 ?k2q1 ?k3q1 ?k4q1 ?kMq1 ?k5q1 ?kAq1 ?kFq1 ?kKq1 ?k6q1 ?k7q1 ?k8q1 ?k9q1 ?kBq1 ?_ ?c2q1 ?c3q1 ?c4q1 ?c5q1; (case kAq1 => exact rfl); (case kFq1 => exact rfl); (case kKq1 => assumption); (case k1q1 => k_asm); (case k2q1 => k_asm); (case k3q1 => k_asm); (case k4q1 => k_asm); (case kMq1 => assumption); (case k5q1 => k_asm); (case k6q1 => k_is); (case k7q1 => k_is); (case k8q1 => ktr_room); (case k9q1 => exact BindsTo.of_eq rfl); (case c5q1 => decide); (case kBq1 => exact locs rfl); (case c2q1 => exact rfl); (case c3q1 => exact rfl); (case c4q1 => exact rfl); k_whole; intro g' L' h' FG' F' N' B' X' T' fr' l1; (try k_lt l1); (try dsimp only); (try k_fold))))
  exact True.intro
theorem inst_exc {h₀ h : Heap} {L x C : Addr} {news : List (Addr × Obj)} {vs : Array Value} {sl : Array (Option Value)} (N : News h₀ L h news) (h1 : (x, (⟨.ref C, none, .fields vs, sl⟩ : Obj)) ∈ news) : InstAt h x ⟨.ref C, none, .fields vs, sl⟩ C none := ⟨(N _ h1).1, rfl, rfl, trivial⟩
local macro_rules | `(tactic| k_inst) => `(tactic| exact inst_exc (by k_asm) (by k_mem))
theorem news_back {h₀ h h' g : Heap} {L L' : Addr} {m' : Str → Option Value} {led mu mu' rest : List (Addr × Obj)} (kN : News h₀ L h' mu') (NL : News h₀ L h led) (fr : Frm led mu g) (F' : Fr g L' h' m') (hs : ∀ p ∈ rest, p ∈ led ∧ p.1 ∉ mu.map (·.1)) : News h₀ L h' (mu' ++ rest) := fun p hp =>
  (List.mem_append.mp hp).elim (kN p) fun hp => ⟨F'.keep _ _ (fr p (hs p hp).1 (hs p hp).2), (NL p (hs p hp).1).2⟩
theorem news_sub {h₀ h : Heap} {L : Addr} {l l' : List (Addr × Obj)} (N : News h₀ L h l) (hs : ∀ p ∈ l', p ∈ l) : News h₀ L h l' := fun p hp => N p (hs p hp)

section
variable {w : World} {mean : ExcName → Option Value} {mg mb : Str → Option Value} {dp un : Nat} {gd : Option (List Code)} {cn : Str} {cs : Scope} {a : Addr} {ccd : Value} {cl : List (Str × Addr)} {outer : List Env} {A₀ : Around} {base h₀ : Heap} {L : Addr} {m : Str → Option Value} {led : List (Addr × Obj)} {G : Obj → List (Addr × Obj)} {s : Shared} {Q E : Value → Shared → Prop}

theorem init_call {e t : Nat} {x : Str} {tx : Tok} {rest : List (Addr × Obj)} {R : Result → Shared → Prop}
    (B : Below A₀ base outer h₀) (F : Fr h₀ L s.heap m) (X : (hd.heap_39 w.params).In h₀) (T : Top hd.view_39 LS mean mg mb h₀) (hk : cs.kind = .function)
    (hdp : dp + 3 < recursionLimit) (NL : News h₀ L s.heap ((e, excO t) :: rest)) (hr : ∀ p ∈ rest, p.1 ≠ e)
    (hret : ∀ t' dx h' tk tk', Fr h₀ L h' m → News h₀ L h' ((dx, dictOf [⟨PyData.keyHash w.params (Str.ofString "what"), .str (Str.ofString "what") tk, .str x tx⟩] 1) :: (e, excD t' dx) :: (t', tupO [.str x tx]) :: rest) → e < t' → e < dx → t' < dx → (∀ p ∈ rest, p.1 < t') → R (.ok (.ret .none)) { s with heap := h', toks := tk' }) :
    codeAny (model PySem.Challenge.rw_nz0133_01.row.prog w) (ktrTop dp un gd cn cs L a ccd cl outer) (.call (.ref 30) ⟨[.ref e, .str x tx], []⟩) R s := by
  have hmu : ∀ p ∈ [(e, excO t)], p ∈ ((e, excO t) :: rest) := List.forall_mem_singleton.mpr (.head _)
  k_dflt (refine' code_superL ?k1 ?k2 ?k3 ?k4 ?kM ?k5 ?kA ?kF ?kK ?k6 ?k7 ?k8 ?k9 ?kB ?_ ?c1 ?c2 ?c3 ?c4; (case kA => exact rfl); (case kF => exact rfl); (case kK => assumption); (case k1 => k_asm); (case k2 => k_asm); (case k3 => k_asm); (case k4 => k_asm); (case kM => assumption); (case k5 => k_asm); (case k6 => k_is); (case k7 => k_is); (case k8 => ktr_room); (case k9 => exact BindsTo.of_eq rfl); (case kB => exact locs rfl); (case c1 => decide); (case c2 => exact rfl); (case c3 => exact rfl); (case c4 => exact rfl); intro g' L' h' FG' F' N' B' X' T' fr' l1; (try k_lt l1); (try dsimp only); (try k_fold))
  k_steps
  k_dflt (refine gm_super (by k_asm) (by k_asm) (by k_asm) (by k_mem) (by k_mem) (by k_is) (by k_is) (by kernel_rfl) (by k_is) ?_; intro q' h' F' N' l1; (try k_lt l1))
  dsimp only
  k_dflt (refine callWith_mw (x := e) ?_)
  k_steps
  · exact News.get (by k_asm) (by k_mem)
  refine call_mw (t := t) (rest := [(q', mwO e)]) (by k_asm) (by k_asm) (news_sub (l := [(q', mwO e), _, (e, excO t)]) (by k_asm) ?_) ?_ (.head _) (by k_is) (by k_is) ?_
  · intro p hp
    simp only [List.mem_cons, List.not_mem_nil, or_false] at hp ⊢
    rcases hp with rfl | rfl <;> simp
  · intro p hp
    rw [List.mem_singleton.mp hp]
    exact Nat.ne_of_gt l1.2
  intro t' h' F' N' l2 l3 l3L
  dsimp only
  k_steps
  k_dflt (refine set_first (x := e) (vs := #[.ref t', .none, .none, .none, .bool false, .none]) (rest := [(t', tupO [.str x tx])]) (by k_asm) (by k_asm) (news_sub (l := [(t', tupO [.str x tx]), (e, excO t'), _]) (by k_asm) ?_) ?_ (by k_is) (by k_is) rfl rfl (by k_is) (by k_is) ?_)
  · intro p hp
    simp only [List.mem_cons, List.not_mem_nil, or_false] at hp ⊢
    rcases hp with rfl | rfl <;> simp
  · intro p hp
    rw [List.mem_singleton.mp hp]
    exact Nat.ne_of_gt l2
  intro dx h' tkw F' N' l4 l5
  dsimp only
  k_steps
  exact hret t' dx _ _ _ (by assumption) (news_back (mu' := [(dx, dictOf [⟨PyData.keyHash w.params (Str.ofString "what"), .str (Str.ofString "what") tkw, .str x tx⟩] 1), (e, excD t' dx), (t', tupO [.str x tx])]) (by assumption) NL fr' F' fun p hp => ⟨.tail _ hp, by simpa using hr p hp⟩) l2 l4 (l5 _ (.head _)) fun p hp => Nat.lt_trans (Nat.lt_of_lt_of_le (Heap.lt_size (fr' p (.tail _ hp) (by simpa using hr p hp))) F'.above) l3L
end
end

section
theorem freshExc3 : True := by
  w_top off
  k_with_none
  exact True.intro
open PySem PySem.W PyProof.Rows PyProof.V PySem.Calls PySem.Spec Builtin
set_option maxRecDepth 100000
set_option maxHeartbeats 8000000
/-- what is asked of the class when an instance of it is made -/
structure MakesExc (M : Model) (h : Heap) (C : Addr) : Prop where
  obj : ∃ oc od cd sl, h.get? C = some ⟨oc, od, .cls cd, sl⟩ ∧ cd.abstract = false ∧ cd.hasDel = false ∧ cd.mro.isEmpty = false
  made : Looks M h (Bind.madeBy (.ref C)) (some "Exception.__new__")
  base : Looks M h (Bind.staticBase (.ref C)) (.ref C)
  self : Looks M h (isSubtype (.ref C) (.ref C)) true
  exc : Looks M h (isSubtype (.ref C) (.type "Exception")) true
  noAttr : Looks M h (isSubtype (.ref C) (.type "AttributeError")) false
  noName : Looks M h (isSubtype (.ref C) (.type "NameError")) false
  call : Looks M h (specialOf (.ref C) "__call__") (some (.builtin "type.__call__"))
  typ : Looks M h (isInstance (.ref C) (.type "type")) true
noncomputable def excMakesIn (K : Frag) (C : Addr) : Bool := match K.lookup C with
  | some ⟨_, _, .cls cd, sl⟩ => !cd.abstract && !cd.hasDel && (sl.toList[4]?).join == some (.builtin "Exception.__new__") && !cd.mro.isEmpty && cd.mro.contains (.ref C) && cd.mro.contains (.type "Exception") &&
      !cd.mro.contains (.type "AttributeError") && !cd.mro.contains (.type "NameError") && specialIn K (.ref C) "__call__" == some (some (.builtin "type.__call__")) && instIn K (.ref C) (.type "type") == some true
  | _ => false
theorem excMakes_of {K : Frag} {M : Model} {h : Heap} (X : K.In h) {C : Addr} (e : excMakesIn K C = true) : MakesExc M h C := by
  unfold excMakesIn at e
  split at e
  · rename_i oc od cd sl ho
    simp only [Bool.and_eq_true, Bool.not_eq_true', beq_iff_eq] at e
    obtain ⟨⟨⟨⟨⟨⟨⟨⟨⟨e1, e2⟩, e3⟩, e4⟩, e5⟩, e6⟩, e6a⟩, e6b⟩, e7⟩, e8⟩ := e
    have hc : clsIn K C = some cd := by unfold clsIn; rw [ho]
    have hm : Looks M h (mroOf (.ref C)) cd.mro := (looks_clsIn X hc).andThen .now
    obtain ⟨c, l, hl⟩ : ∃ c l, cd.mro = c :: l := by cases q : cd.mro with | nil => rw [q] at e4; cases e4 | cons c l => exact ⟨c, l, rfl⟩
    have made : Looks M h (Bind.madeBy (.ref C)) (some "Exception.__new__") := by
      intro A Q E s k q
      unfold Bind.madeBy
      refine wpAny_bind (hm A _ E s k ?_)
      rw [hl, List.forIn_cons]
      refine wpAny_bind (wpAny_bind (wpAny_bind (wpAny_bind (wpAny_loadPart (k _ _ (X _ _ ho)) (wpAny_pure ?_)))))
      dsimp only
      rw [← Array.getElem?_toList, e3]
      exact wpAny_pure (wpAny_pure (wpAny_pure q))
    have mem : ∀ {b : Value} {r : Bool}, cd.mro.contains b = r → Looks M h (isSubtype (.ref C) b) r := fun {b r} hb => looks_mroIn X (by unfold mroIn; rw [hc, Option.bind_some, if_neg (by rw [e4]; decide), hb])
    refine ⟨⟨oc, od, cd, sl, X _ _ ho, e1, e2, e4⟩, made, ?_, mem e5, mem e6, mem e6a, mem e6b, looks_specialIn X e7, looks_instIn X e8⟩
    intro A Q E s k q
    unfold Bind.staticBase
    refine wpAny_bind (hm A _ E s k ?_)
    rw [hl, List.forIn_cons]
    exact wpAny_bind (wpAny_bind (wpAny_bind (made A _ E s k (wpAny_pure (wpAny_pure (wpAny_pure q))))))
  · cases e

section
variable {prog : Program} {w : World} {A : Around} {K : Frag} {C : Addr} {R : Result → Shared → Prop} {h : Heap} {g : Array GenState} {d : Drawn} {t : Nat} {os : OsState}
theorem exc_new {y : Str} {ty : Tok} (Y : MakesExc (model prog w) h C)
    (hq : R (.ok (.ret (.ref (h.objs.size + 1)))) ⟨(h.push (tupO [.str y ty])).push ⟨.ref C, none, .fields #[.ref h.objs.size, .none, .none, .none, .bool false, .none], #[]⟩, g, d, t, os⟩) :
    codeAny (model prog w) A (.call (.builtin "Exception.__new__") ⟨[.ref C, .str y ty], []⟩) R ⟨h, g, d, t, os⟩ := by
  obtain ⟨⟨oc, od, cd, sl, hC, e1, e2, e4⟩, made, base, self, exc, nA, nN, call, typ⟩ := Y
  have FB := PySem.F.excBase_Exception
  have hstar := FB.noStar
  have here : Looks (model prog w) h (Bind.madeHere "BaseException.__new__" (.ref C)) () := base.andThen (made.andThen (Looks.of_pure (by simp only [Option.map_some, FB.canon, bne_self_eq_false, Bool.false_eq_true, if_false])))
  refine codeAny_call_builtin_code (Code.quiet_builtin _ FB.quiet) ?_
  simp only [checkBuiltinCall, FB.newKind, FB.newSplit, FB.newRow]
  repeat (first | simp only [bne_self_eq_false, Bool.false_eq_true, if_false] | lk)
  refine codeAny_builtinAt FB.entry ?_
  unfold Builtin.«BaseException.__new__»
  refine PySem.wpAt_bind ?_
  show PySem.wpAt _ _ _ (stack >>= _) _ _ _
  refine PySem.wpAt_bind (PySem.wpAt_stack fun p below => PySem.wpAt_of_wpAny ?_)
  have hends := FB.ends
  wp_walk
  refine PySem.wpAt_of_wpAny ?_
  rw [FB.owner]
  have isT : Looks (model prog w) h (isType (.ref C)) true := (Looks.ld hC).andThen .now
  repeat (first | simp only [e2, Bool.not_true, Bool.false_eq_true, if_false] | with_reducible refine Looks.at here ?_ | with_reducible refine Looks.at isT ?_ | with_reducible refine Looks.at exc ?_ | with_reducible refine Looks.at nA ?_ | with_reducible refine Looks.at nN ?_ | wp_step)
  rw [Heap.size_push]
  exact hq

theorem make_exc {y : Str} {ty : Tok} {f : Addr} (Y : MakesExc (model prog w) h C) (hi : Looks (model prog w) h (typeLookup (.ref C) "__init__") (some (.ref f))) (hb : ∀ self, Looks (model prog w) h (bindSpecial (.ref f) self) (.ref f, [self]))
    (hq : codeAny (model prog w) (A.under (.builtin "type.__call__" ⟨[.ref C, .str y ty], []⟩)) (.call (.ref f) ⟨[.ref (h.objs.size + 1), .str y ty], []⟩) (InitBack (h.objs.size + 1) R)
      ⟨(h.push (tupO [.str y ty])).push ⟨.ref C, none, .fields #[.ref h.objs.size, .none, .none, .none, .bool false, .none], #[]⟩, g, d, t, os⟩) :
    codeAny (model prog w) A (.call (.ref C) ⟨[.str y ty], []⟩) R ⟨h, g, d, t, os⟩ := by
  have Y' := Y
  obtain ⟨⟨oc, od, cd, sl, hC, e1, e2, e4⟩, made, base, self, exc, nA, nN, call, typ⟩ := Y
  refine codeAny_of_tree ?_
  show wpAny _ _ (callAny (.ref C) _) _ _ _
  refine nd_load hC ?_
  show wpAny _ _ (callAny.viaDunder (.ref C) _) _ _ _
  unfold callAny.viaDunder
  refine wpAny_bind (call.at ?_)
  dsimp only
  rw [tc_bind]
  refine wpAny_bind (wpAny_pure (wpAny_bind (wpAny_pure ?_)))
  refine wpAny_pure (a := PySem.Fin.again (.call (.builtin "type.__call__") ⟨[.ref C, .str y ty], []⟩)) (And.intro rfl ?_)
  refine codeAny_call_builtin_at (Code.quiet_builtin _ (by decide +kernel)) entry_typeCall (check_slot tc_kind tc_split typ (tc_args _ _ _) ?_)
  unfold Builtin.«type.__call__»
  have hm : Looks (model prog w) h (mroOf (.ref C)) cd.mro := ((Looks.ld (part := none) hC).andThen .now).andThen .now
  repeat (first | simp only [e4, Bool.false_eq_true, if_false] | with_reducible refine wpAny_call ?_ | lk)
  refine exc_new Y' ?_
  have k : ∀ b o, h.get? b = some o → ((h.push (tupO [.str y ty])).push ⟨.ref C, none, .fields #[.ref h.objs.size, .none, .none, .none, .bool false, .none], #[]⟩).get? b = some o := fun b o e => Heap.get?_push_of_some _ (Heap.get?_push_of_some _ e)
  have hx : ((h.push (tupO [.str y ty])).push ⟨.ref C, none, .fields #[.ref h.objs.size, .none, .none, .none, .bool false, .none], #[]⟩).get? (h.objs.size + 1) = some ⟨.ref C, none, .fields #[.ref h.objs.size, .none, .none, .none, .bool false, .none], #[]⟩ := Heap.get?_push_at (by simp only [Heap.size_push]) rfl
  have t1 : Looks (model prog w) ((h.push (tupO [.str y ty])).push ⟨.ref C, none, .fields #[.ref h.objs.size, .none, .none, .none, .bool false, .none], #[]⟩) (typeOf (.ref (h.objs.size + 1))) (.ref C) := (Looks.ld hx).andThen .now
  have s1 := self.keeps k
  have i1 := hi.keeps k
  have b1 := (hb (.ref (h.objs.size + 1))).keeps k
  unfold isInstance callSpecial? specialOf
  repeat (first | with_reducible refine wpAny_call ?_ | lk)
  refine codeAny_mono hq fun r s' z => ?_
  rcases r with e | (v | _ | _ | _) <;> first | exact z | exact z.elim | skip
  obtain ⟨rfl, z⟩ := z
  exact wpAny_pure (wpAny_pure z)
end
end

section
theorem freshExc4 : True := by
  w_top off
  k_with_none
  exact True.intro
open PySem PySem.W PyProof.Rows PyProof.V PySem.Calls PySem.Spec Builtin
set_option maxRecDepth 100000
set_option maxHeartbeats 8000000

section
variable {w : World} {mean : ExcName → Option Value} {mg mb : Str → Option Value} {dp un : Nat} {gd : Option (List Code)} {cn : Str} {cs : Scope} {a : Addr} {ccd : Value} {cl : List (Str × Addr)} {outer : List Env} {A₀ : Around} {base h₀ : Heap} {L : Addr} {m : Str → Option Value} {led : List (Addr × Obj)} {G : Obj → List (Addr × Obj)} {s : Shared} {Q E : Value → Shared → Prop}

theorem make_fault {x : Str} {tx : Tok}
    (B : Below A₀ base outer h₀) (F : Fr h₀ L s.heap m) (X : (hd.heap_39 w.params).In h₀) (T : Top hd.view_39 LS mean mg mb h₀) (hk : cs.kind = .function)
    (hdp : dp + 6 < recursionLimit) (NL : News h₀ L s.heap led)
    (hret : ∀ e dx t' h' tk tk', Fr h₀ L h' m → News h₀ L h' ((dx, dictOf [⟨PyData.keyHash w.params (Str.ofString "what"), .str (Str.ofString "what") tk, .str x tx⟩] 1) :: (e, excD t' dx) :: (t', tupO [.str x tx]) :: led) → (∀ p ∈ led, p.1 < e) → e < t' → t' < dx → Q (.ref e) { s with heap := h', toks := tk' }) :
    wpAny (model PySem.Challenge.rw_nz0133_01.row.prog w) (ktrTop dp un gd cn cs L a ccd cl outer) (call (.ref 60) [.str x tx]) Q E s := by
  have X' : (hd.heap_39 w.params).In s.heap := X.keeps F.keep
  refine wpAny_call ?_
  have N1 := NL.push F (tupO [.str x tx])
  have F1 := F.push (tupO [.str x tx])
  have N2 := News.push F1 N1 (excO s.heap.objs.size)
  have F2 := F1.push (excO s.heap.objs.size)
  have lt : ∀ p ∈ led, p.1 < s.heap.objs.size := fun p hp => Heap.lt_size (NL p hp).1
  rw [Heap.size_push] at N2
  have main : ∀ dp' un' gd', dp' + 3 < recursionLimit → codeAny (model PySem.Challenge.rw_nz0133_01.row.prog w) (ktrTop dp' un' gd' cn cs L a ccd cl outer) (.call (.ref 30) ⟨[.ref (s.heap.objs.size + 1), .str x tx], []⟩) (InitBack (s.heap.objs.size + 1) fun r s' => match r with | .ok (.ret v) => Q v s' | .ok _ => False | .error e => E e s') { s with heap := (s.heap.push (tupO [.str x tx])).push (excO s.heap.objs.size) } := fun dp' un' gd' hr' =>
    init_call (rest := led) B F2 X T hk hr' (fun p hp => N2 p (by rcases List.mem_cons.mp hp with rfl | hp; exact .head _; exact .tail _ (.tail _ hp))) (fun p hp => Nat.ne_of_lt (Nat.lt_succ_of_lt (lt p hp)))
      fun t' dx h' tk tk' F' N' l1 l2 l3 l4 => ⟨rfl, hret _ _ _ _ _ _ F' N' (fun p hp => Nat.lt_succ_of_lt (lt p hp)) l1 l3⟩
  obtain ⟨hh, g, d, tk, os⟩ := s
  exact make_exc (excMakes_of X' (by kernel_rfl)) (looks_findIn X' (by k_is)) (fun self => bind_fn X' self (by k_is)) (main (dp + 1) _ _ (by omega))

theorem Raise_eval {K : Frag} {A : Around} {env : Env} {x : Expr} {pos : Pos} {Q : Flow → Shared → Prop} (hsub : subIn K (.ref 60) (.type "BaseException") = some true) (ht : typeIn K (.ref 60) = some (.type "type")) (hh : A.handled = none)
    (h : wpAny (model PySem.Challenge.rw_nz0133_01.row.prog w) A (eval x env) (fun v s₁ => ∃ (e : Addr) (dd : Option Addr) (vs : Array Value) (sl : Array (Option Value)), v = Value.ref e ∧ K.In s₁.heap ∧ s₁.heap.get? e = some (Obj.mk (.ref 60) dd (.fields vs) sl) ∧ vs[1]? = some Value.none ∧ E (.ref e) s₁) E s) :
    wpAny (model PySem.Challenge.rw_nz0133_01.row.prog w) A (exec (.Raise (some x) none pos) env) Q E s := by
  rw [arm_exec_Raise]
  refine wpAny_bind (wpAny_standAt (raiseStmt_inst hsub ht hh (wpAny_bind (wpAny_mono h (fun v s₁ h₁ => wpAny_bind (wpAny_standAt (wpAny_pure h₁))) fun _ _ x => x))))
theorem Raise_evalX {K : Frag} {hg : Heap} {A : Around} {env : Env} {x : Expr} {pos : Pos} {Q : Flow → Shared → Prop} (_X : K.In hg) (hsub : subIn K (.ref 60) (.type "BaseException") = some true) (ht : typeIn K (.ref 60) = some (.type "type")) (hh : A.handled = none)
    (h : wpAny (model PySem.Challenge.rw_nz0133_01.row.prog w) A (eval x env) (fun v s₁ => ∃ (e : Addr) (dd : Option Addr) (vs : Array Value) (sl : Array (Option Value)), v = Value.ref e ∧ K.In s₁.heap ∧ s₁.heap.get? e = some (Obj.mk (.ref 60) dd (.fields vs) sl) ∧ vs[1]? = some Value.none ∧ E (.ref e) s₁) E s) :
    wpAny (model PySem.Challenge.rw_nz0133_01.row.prog w) A (exec (.Raise (some x) none pos) env) Q E s := Raise_eval hsub ht hh h
end
end

section
theorem freshMild : True := by
  w_top off
  k_with_none
  exact True.intro
open PySem PySem.W PyProof.Rows PyProof.V PySem.Calls PySem.Spec
set_option maxRecDepth 100000
set_option maxHeartbeats 8000000
/-- the third field of a record: an exception's context -/
noncomputable def fld2 (o : Obj) : Option Value := match o.data with
  | .fields vs => vs[2]?
  | _ => none
/-- no object loses its dict or its third field -/
noncomputable def Dicts (h h' : Heap) : Prop := ∀ b o, h.get? b = some o → ∃ o', h'.get? b = some o' ∧ o'.dict = o.dict ∧ fld2 o' = fld2 o
theorem Dicts.refl (h : Heap) : Dicts h h := fun _ o e => ⟨o, e, rfl, rfl⟩
theorem Dicts.trans {h₁ h₂ h₃ : Heap} (x : Dicts h₁ h₂) (y : Dicts h₂ h₃) : Dicts h₁ h₃ := fun b o e => by
  obtain ⟨o₁, e₁, d₁, c₁⟩ := x b o e
  obtain ⟨o₂, e₂, d₂, c₂⟩ := y b o₁ e₁
  exact ⟨o₂, e₂, d₂.trans d₁, c₂.trans c₁⟩
noncomputable def KeepD (f : Obj → Obj) : Prop := ∀ o, (f o).dict = o.dict ∧ (f o).isFreed = o.isFreed ∧ fld2 (f o) = fld2 o
theorem Dicts.update {h : Heap} {a : Addr} {f : Obj → Obj} (k : KeepD f) : Dicts h (h.update a f) := fun b o e => by
  by_cases q : a = b
  · subst q
    exact ⟨f o, Heap.get?_update_self f e ((k o).2.1.trans (Heap.get?_some_iff.mp e).2), (k o).1, (k o).2.2⟩
  · exact ⟨o, (Heap.get?_update_other _ _ q).trans e, rfl, rfl⟩
theorem Dicts.push {h : Heap} {o : Obj} : Dicts h (h.push o) := fun _ _ e => ⟨_, Heap.get?_push_of_some _ e, rfl, rfl⟩

noncomputable def Mild {α : Type} : Sem α → Prop
  | .pure _ | .raise _ | .unsupported _ | .finish _ | .register .. | .yield .. | .fork .. | .await .. => True
  | .rule _ k | .at _ k | .point _ k => Mild (k ())
  | .load _ _ k => ∀ o, Mild (k o)
  | .update _ _ f k => KeepD f ∧ Mild (k ())
  | .loadIfAlive _ k => ∀ o, Mild (k o)
  | .alloc _ k => ∀ a, Mild (k a)
  | .fresh k => ∀ t, Mild (k t)
  | .ask k => ∀ t, Mild (k t)
  | .choose _ _ k => ∀ t, Mild (k t)
  | .os _ _ k => ∀ t, Mild (k t)
  | .call .. | .resume .. => False
  | .handled _ k => ∀ t, Mild (k t)
  | .genState _ k => ∀ t, Mild (k t)
  | .newGen _ k => ∀ t, Mild (k t)
  | .stack k => ∀ t, Mild (k t)
  | .thread k => ∀ t, Mild (k t)

theorem Mild.bind {α β : Type} {m : Sem α} {f : α → Sem β} (x : Mild m) (y : ∀ a, Mild (f a)) : Mild (m >>= f) := by
  show Mild (m.bind f)
  induction m with
  | pure a => exact y a
  | raise | unsupported | finish | register | yield | fork | await => exact trivial
  | rule _ k ih | «at» _ k ih | point _ k ih => exact ih _ x
  | load _ _ k ih | loadIfAlive _ k ih | alloc _ k ih | fresh k ih | ask k ih | choose _ _ k ih | os _ _ k ih | handled _ k ih | genState _ k ih | newGen _ k ih | stack k ih | thread k ih => exact fun o => ih o (x o)
  | update _ _ f k ih => exact ⟨x.1, ih _ x.2⟩
  | call | resume => exact x.elim

theorem mild_wp {α : Type} {M : Model} {Γ : PySem.Ctx} {t : Sem α} (m : Mild t) : ∀ {Q : α → Pos → Shared → Prop} {E : Value → Pos → Shared → Prop} {p : Pos} {s : Shared} {h : Heap}, Dicts h s.heap → Sem.wp M Γ t Q E p s →
    Sem.wp M Γ t (fun a p' s' => Q a p' s' ∧ Dicts h s'.heap) E p s := by
  induction t with
  | pure a => exact fun d x => ⟨x, d⟩
  | raise => exact fun d x => x
  | unsupported | finish | register | yield | fork | await => exact fun _ x => x
  | rule _ k ih | «at» _ k ih | point _ k ih => exact fun d x => ih _ m d x
  | load _ _ k ih | genState _ k ih => exact fun d ⟨o, ho, x⟩ => ⟨o, ho, ih _ (m _) d x⟩
  | alloc _ k ih => exact fun d x => ih _ (m _) (d.trans Dicts.push) x
  | loadIfAlive _ k ih | fresh k ih | ask k ih | os _ _ k ih | handled _ k ih | newGen _ k ih | stack k ih | thread k ih => exact fun d x => ih _ (m _) d x
  | choose _ _ k ih => exact fun d ⟨n, x⟩ => ⟨n, ih _ (m _) d x⟩
  | update _ _ f k ih => exact fun d ⟨n, x⟩ => ⟨n, ih _ m.2 (d.trans (Dicts.update m.1)) x⟩
  | call | resume => exact m.elim

theorem mild_any {α : Type} {M : Model} {A : Around} {t : Sem α} {Q : α → Shared → Prop} {E : Value → Shared → Prop} {s : Shared} (m : Mild t) (x : wpAny M A t Q E s) :
    wpAny M A t (fun a s' => Q a s' ∧ Dicts s.heap s'.heap) E s := fun Γ p hΓ => mild_wp m (Dicts.refl _) (x Γ p hΓ)

theorem keepD_mapFields {i : Nat} (hi : i ≠ 2) (x : Value) : KeepD (Obj.mapFields (·.setIfInBounds i x)) := fun o => by
  obtain ⟨c, d, dt, sl⟩ := o
  cases dt <;> refine ⟨rfl, rfl, ?_⟩ <;> first | rfl | exact Array.getElem?_setIfInBounds_ne hi
theorem keepD_slots (f : Obj → Array (Option Value)) : KeepD (fun o => { o with slots := f o }) := fun o => by
  obtain ⟨c, d, dt, sl⟩ := o
  cases dt <;> exact ⟨rfl, rfl, rfl⟩
theorem mild_pure {α : Type} {a : α} : Mild (Pure.pure a : Sem α) := trivial
theorem mild_load {a : Addr} : Mild (load a) := fun _ => trivial
theorem mild_field {v : Value} {i : Nat} : Mild (field v i) := by
  unfold field fieldsOf
  refine Mild.bind ?_ fun _ => ?_
  · cases v <;> first | exact trivial | skip
    refine Mild.bind mild_load fun o => ?_
    cases o.data <;> exact trivial
  · split <;> exact trivial
theorem mild_setField {v x : Value} {i : Nat} (hi : i ≠ 2) : Mild (setField v i x) := by
  unfold setField
  cases v <;> first | exact trivial | skip
  dsimp only
  unfold updateField
  refine Mild.bind mild_load fun o => ?_
  cases o.data <;> first | exact trivial | skip
  dsimp only
  split
  · exact ⟨keepD_mapFields hi _, trivial⟩
  · exact trivial
theorem mild_stack {α : Type} {f : List (Code × Pos) → Sem α} (y : ∀ a, Mild (f a)) : Mild (stack >>= f) := Mild.bind (fun _ => trivial) y
theorem mild_setFlight {e : Value} {f : Option Addr} : Mild (setFlight e f) := by
  unfold setFlight
  refine Mild.bind mild_field fun tb => ?_
  split
  · exact mild_setField (by decide)
  · exact trivial
theorem mild_readyFrames : ∀ l : List Env, Mild (readyFrames l)
  | [] => trivial
  | env :: outer => by
    unfold readyFrames
    split
    · refine Mild.bind mild_load fun o => ?_
      split
      · exact trivial
      refine Mild.bind ?_ fun _ => Mild.bind ?_ fun _ => Mild.bind ⟨keepD_slots _, trivial⟩ fun _ => mild_readyFrames outer
      · unfold behindIsImport
        split
        · exact trivial
        split
        · exact trivial
        exact Mild.bind mild_field fun _ => trivial
      · unfold keptBack
        split
        · split
          · exact trivial
          · exact Mild.bind (Mild.bind (fun _ => trivial) fun _ => trivial) fun _ => trivial
        · exact trivial
    · exact trivial
theorem mild_frameOf {env : Env} : Mild (PySem.frameOf env) := by
  unfold PySem.frameOf
  refine Mild.bind (Mild.bind (fun _ => trivial) fun _ => trivial) fun l => Mild.bind ?_ fun r => ?_
  · cases (l.dropWhile fun x => x.frame != env.frame) with
    | nil => exact trivial
    | cons e o =>
      unfold frameObject
      exact Mild.bind (mild_readyFrames _) fun _ => trivial
  · cases r <;> exact trivial
theorem mild_noteFrame {e : Value} {env : Env} : Mild (noteFrame e env) := by
  unfold noteFrame
  have last : ∀ f head, Mild (do setField e 1 (← EntryCells.newEntry head (← PySem.frameOf env) .none (rawInt f) .none (← entryPlaceOf f (head != .none)))) := fun f head => by
    refine Mild.bind mild_frameOf fun _ => Mild.bind ?_ fun _ => Mild.bind ?_ fun _ => mild_setField (by decide)
    · unfold entryPlaceOf
      refine mild_stack fun acts => ?_
      split <;> exact trivial
    · unfold EntryCells.newEntry newFields newObj
      dsimp only
      have fin : ∀ c d, Mild (newObjAsIs (.type c) d) := fun c d => by
        unfold newObjAsIs
        exact Mild.bind (m := alloc _) (fun _ => trivial) fun _ => trivial
      split <;> split <;> first | exact fin _ _ | exact Mild.bind (m := unsupported _) trivial fun _ => fin _ _
  split
  · refine Mild.bind mild_field fun head => ?_
    dsimp only
    split
    · refine Mild.bind mild_field fun x => ?_
      split
      · exact trivial
      · exact Mild.bind (mild_setField (by decide)) fun _ => last _ _
    · exact last _ _
  · exact trivial
theorem mild_leaving {e : Value} {env : Env} : Mild (leaving env e) := Mild.bind mild_noteFrame fun _ => mild_setFlight
end

section
theorem freshExc5 : True := by
  w_top off
  k_with_none
  exact True.intro
open PySem PySem.W PyProof.Rows PyProof.V PySem.Calls PySem.Spec Builtin
set_option maxRecDepth 100000
set_option maxHeartbeats 8000000
/-- an exception with its own dict is on its way -/
noncomputable def RaisedD (base G : Heap) (l : List Env) (e : Addr) (t dx : Addr) (vs : List Value) (news : List (Addr × Obj)) (h : Heap) : Prop :=
  RaisedS base G l e (.ref 60) t vs news h ∧ ∃ oe, h.get? e = some oe ∧ oe.dict = some dx ∧ fld2 oe = some .none
theorem dict_on {h h' : Heap} {e dx : Addr} (x : ∃ oe, h.get? e = some oe ∧ oe.dict = some dx ∧ fld2 oe = some .none) (d : Dicts h h') : ∃ oe, h'.get? e = some oe ∧ oe.dict = some dx ∧ fld2 oe = some .none := by
  obtain ⟨oe, h1, h2, h2'⟩ := x
  obtain ⟨o', h3, h4, h5⟩ := d _ _ h1
  exact ⟨o', h3, h4.trans h2, h5.trans h2'⟩

section
variable {M : Model} {A : Around} {E : Value → Shared → Prop} {s' : Shared} {base g g₂ h : Heap} {outer : List Env} {L a e t dx : Addr} {m : Str → Option Value} {name : Str} {scope : Scope} {cd : Value} {Q : Unit → Shared → Prop} {led news : List (Addr × Obj)} {vs : List Value} {od : Obj}
theorem leave_raiseD (K : Below A base outer g) (F : Fr g L s'.heap m) (N : News g L s'.heap ((dx, od) :: (e, excD t dx) :: (t, tupO vs) :: led)) (he : ∀ p ∈ led, p.1 < e) (het : e < t) (htd : t < dx) 
    (hQ : ∀ h', RaisedD base g outer e t dx vs ((dx, od) :: led) h' → g.UpToSlots h' → Q () { s' with heap := h' }) (hk : scope.kind = .function) :
    wpAny M (A.deeper (envOf name scope L a cd)) (leaving (envOf name scope L a cd) (.ref e)) Q E s' := by
  have K' := K.push (name := name) (a := a) (cd := cd) F hk
  have ee : s'.heap.get? e = some (excD t dx) ∧ e ≠ L ∧ g.get? e = none := N (e, _) (.tail _ (.head _))
  have tt : s'.heap.get? t = some (tupO vs) ∧ t ≠ L ∧ g.get? t = none := N (t, _) (.tail _ (.tail _ (.head _)))
  have hin : ∀ env ∈ (envOf name scope L a cd :: outer), ∀ b, env.frame = some b → b ∈ e :: t :: (envOf name scope L a cd :: outer).filterMap (·.frame) := fun env he b hb => .tail _ (.tail _ (List.mem_filterMap.mpr ⟨env, he, hb⟩))
  have out : ∀ b o, g.get? b = some o → b ∉ outer.filterMap (·.frame) → b ∉ e :: t :: (envOf name scope L a cd :: outer).filterMap (·.frame) := fun b o q nm hm => by
    rcases List.mem_cons.mp hm with rfl | hm
    · rw [ee.2.2] at q; cases q
    rcases List.mem_cons.mp hm with rfl | hm
    · rw [tt.2.2] at q; cases q
    rcases kts_mem hm with z | z
    · rw [z, kts_self F] at q
      cases q
    · exact nm z
  have st : base.StaysIn (hideAll s'.heap (e :: t :: (envOf name scope L a cd :: outer).filterMap (·.frame))) := fun b o q => hideAll_get _ (K'.stays b o q) (out b o (K.stays b o q) fun hm => by
    rw [(K.frames.mem hm).1] at q; cases q)
  have sg : ∀ b o, g.get? b = some o → b ∉ outer.filterMap (·.frame) → (hideAll s'.heap (e :: t :: (envOf name scope L a cd :: outer).filterMap (·.frame))).get? b = some o := fun b o q nm => hideAll_get _ (F.keep b o q) (out b o q nm)
  have hl : ∀ q ∈ (dx, od) :: led, (hideAll s'.heap (e :: t :: (envOf name scope L a cd :: outer).filterMap (·.frame))).get? q.1 = some q.2 ∧ g.get? q.1 = none ∧ base.get? q.1 = none := fun q hq => by
    have hn : s'.heap.get? q.1 = some q.2 ∧ q.1 ≠ L ∧ g.get? q.1 = none := N q (by rcases List.mem_cons.mp hq with rfl | hq; exact .head _; exact .tail _ (.tail _ (.tail _ hq)))
    have ne : q.1 ≠ e ∧ q.1 ≠ t := by
      rcases List.mem_cons.mp hq with rfl | hq
      · exact ⟨Nat.ne_of_gt (Nat.lt_trans het htd), Nat.ne_of_gt htd⟩
      · exact ⟨Nat.ne_of_lt (he q hq), Nat.ne_of_lt (Nat.lt_trans (he q hq) het)⟩
    refine ⟨hideAll_get _ hn.1 fun hm => ?_, hn.2.2, fresh_of_stays K.stays hn.2.2⟩
    rcases List.mem_cons.mp hm with z | hm
    · exact ne.1 z
    rcases List.mem_cons.mp hm with z | hm
    · exact ne.2 z
    obtain ⟨env, he, hf⟩ := List.mem_filterMap.mp hm
    rcases List.mem_cons.mp he with rfl | he
    · exact hn.2.1 (Option.some.inj hf).symm
    · obtain ⟨o, ho, _⟩ := (K.frames.mem (List.mem_filterMap.mpr ⟨env, he, hf⟩)).2
      rw [hn.2.2] at ho; cases ho
  refine wpAny_mono (mild_any mild_leaving (wpAny_leaving_firstW (base := hideAll s'.heap (e :: t :: (envOf name scope L a cd :: outer).filterMap (·.frame))) (a0 := .ref t) K'.stack (funFrames_hide K'.frames hin) rfl ee.1 (fun b o q => of_hideAll _ q) (hideAll_none _ (.head _)) rfl rfl rfl
    (Q := fun _ s₁ => ∃ h', s₁ = { s' with heap := h' } ∧ Heap.LeftW (hideAll s'.heap (e :: t :: (envOf name scope L a cd :: outer).filterMap (·.frame))) (envOf name scope L a cd :: outer) e (.ref 60) (.ref t) s'.heap h') fun h' hL => ⟨h', rfl, hL⟩)) ?_ (fun _ _ y => y)
  rintro _ _ ⟨⟨h', rfl, k1, ⟨_, _, k2⟩, k3, k4⟩, hd⟩
  exact hQ h' ⟨⟨⟨_, st, sg, hl, ⟨k1, hideAll_none _ (.head _), k2, k3⟩, hideAll_none _ (.tail _ (.head _))⟩, Heap.TupAt.of_slots ⟨_, _, tt.1, rfl, rfl⟩ k4⟩, dict_on ⟨_, ee.1, rfl, rfl⟩ hd⟩ ((Heap.UpToSlots.of_keeps F.keep).trans k4)

/-- what of the ledger does not go to the callee comes back from its ground -/
theorem raised_rest {B G : Heap} {hx : Heap} {mu : List (Addr × Obj)} (K : Below A base outer g) (hBG : ∀ b o, G.get? b = some o → b ∉ (envOf name scope L a cd :: outer).filterMap (·.frame) → B.get? b = some o)
    (hl : ∀ q ∈ mu, B.get? q.1 = some q.2) (NL : News g L hx led) (hmu : ∀ p ∈ mu, p ∈ led) (fr : Frm led mu G) : ∀ q ∈ led, B.get? q.1 = some q.2 := fun q hq => by
  by_cases hm : q.1 ∈ mu.map (·.1)
  · obtain ⟨p, hp, e⟩ := List.mem_map.mp hm
    have h1 := (NL p (hmu p hp)).1
    have h2 := (NL q hq).1
    rw [e, h2] at h1
    have h3 := hl p hp
    rw [e] at h3
    rw [h3, Option.some.inj h1]
  · refine hBG _ _ (fr q hq hm) fun hm => ?_
    have hn := NL q hq
    rcases kts_mem hm with z | z
    · exact hn.2.1 z
    · obtain ⟨o, ho, _⟩ := (K.frames.mem z).2
      have := hn.2.2
      rw [ho] at this; cases this

theorem leave_onD {G hx : Heap} {mu : List (Addr × Obj)} (K : Below A base outer g) (F : Fr g L G m) (R : RaisedD base G (envOf name scope L a cd :: outer) e t dx vs ((dx, od) :: mu) s'.heap) (hsm : G.UpToSlots s'.heap)
    (NL : News g L hx led) (hmu : ∀ p ∈ mu, p ∈ led) (fr : Frm led mu G)
    (hQ : ∀ h', RaisedD base g outer e t dx vs ((dx, od) :: led) h' → g.UpToSlots h' → Q () { s' with heap := h' }) :
    wpAny M (A.deeper (envOf name scope L a cd)) (leaving (envOf name scope L a cd) (.ref e)) Q E s' := by
  obtain ⟨⟨⟨B, hB, hBG, hl, hfl, hnew⟩, htup⟩, hd⟩ := R
  have hl' := raised_rest K hBG (fun q hq => (hl q (.tail _ hq)).1) NL hmu fr
  refine wpAny_mono (mild_any mild_leaving (wpAny_leaves_onW (Q := fun _ s₁ => ∃ h', s₁ = { s' with heap := h' } ∧ Heap.FlyingW B outer e (.ref 60) (.ref t) h' ∧ s'.heap.UpToSlots h') (Around.frames_deeper K.stack) rfl hfl fun h' x1 x2 => ⟨h', rfl, x1, x2⟩)) ?_ (fun _ _ y => y)
  rintro _ _ ⟨⟨h', rfl, x1, x2⟩, d⟩
  refine hQ h' ⟨⟨⟨B, hB, fun b o q nm => hBG b o (F.keep b o q) (fun hm => ?_), fun q hq => ?_, x1, hnew⟩, htup.of_slots x2⟩, dict_on hd d⟩ ((Heap.UpToSlots.of_keeps F.keep).trans (hsm.trans x2))
  · rcases kts_mem hm with z | z
    · rw [z, kts_self F] at q
      cases q
    · exact nm z
  · rcases List.mem_cons.mp hq with rfl | hq
    · have z := hl _ (.head _)
      exact ⟨z.1, kts_none F.keep z.2.1, z.2.2⟩
    · exact ⟨hl' q hq, (NL q hq).2.2, fresh_of_stays K.stays (NL q hq).2.2⟩
end

theorem RaisedD.sub {base G h : Heap} {l : List Env} {e t dx : Addr} {vs : List Value} {n n' : List (Addr × Obj)} (R : RaisedD base G l e t dx vs n h) (hs : ∀ p ∈ n', p ∈ n) : RaisedD base G l e t dx vs n' h := by
  obtain ⟨⟨⟨B, hB, hBG, hl, hfl, hnew⟩, htup⟩, hd⟩ := R
  exact ⟨⟨⟨B, hB, hBG, fun q hq => hl q (hs q hq), hfl, hnew⟩, htup⟩, hd⟩
noncomputable abbrev whatD (w : World) (x : Str) (tk tx : Tok) : Obj := dictOf [⟨PyData.keyHash w.params (Str.ofString "what"), .str (Str.ofString "what") tk, .str x tx⟩] 1
/-- what a caller is told of a fault that comes out of a call of its own -/
noncomputable def Fault (w : World) (base h₀ : Heap) (L : Addr) (m : Str → Option Value) (l : List Env) (led : List (Addr × Obj)) (E : Value → Shared → Prop) (s : Shared) (msg : Str) : Prop :=
  ∀ mu G (e t dx : Addr) tk tx h' tk', (∀ p ∈ mu, p ∈ led) → Fr h₀ L G m → Frm led mu G → RaisedD base G l e t dx [.str msg tx] ((dx, whatD w msg tk tx) :: mu) h' → G.UpToSlots h' → E (.ref e) { s with heap := h', toks := tk' }

section
variable {prog : Program} {w : World} {A₀ : Around} {E : Value → Shared → Prop} {s' : Shared} {base g g₀ G : Heap} {outer : List Env} {L a e t C dx : Addr} {m : Str → Option Value} {name : Str} {scope : Scope} {cd : Value}
  {vs : List Value} {n : Str} {b₀ : Stmt} {suite : List Stmt} {pos np : Pos} {rest : List ExceptHandler} {Q : Flow → Shared → Prop} {led mu : List (Addr × Obj)} {KF : Frag} {hx : Heap} {od : Obj}
  {p : Program} {loose : List Str} {mean : ExcName → Option Value} {mg mb : Str → Option Value} {x : Str}
end
end

section
theorem freshExc6 : True := by
  w_top off
  k_with_none
  exact True.intro
open PySem PySem.W PyProof.Rows PyProof.V PySem.Calls PySem.Spec Builtin
set_option maxRecDepth 100000
set_option maxHeartbeats 400000
theorem kind_bga : builtinKind "BaseException.__getattribute__" = some .slot := by decide +kernel
theorem split_bga : splitId "BaseException.__getattribute__" = some ("BaseException", "__getattribute__") := by decide +kernel
section
variable {prog : Program} {w : World} {A : Around} {E : Value → Shared → Prop} {s : Shared} {K : Frag} {x C : Addr} {ox : Obj} {od : Option Obj} {name : Str} {expr : Bool} {Q : Value → Shared → Prop}
/-- an own attribute of an exception of an own class -/
theorem exc_get {v : Value} (X : K.In s.heap) (I : InstAt s.heap x ox C od) (hga : findIn K (.ref C) "__getattribute__" = some (some (.builtin "BaseException.__getattribute__"))) (hgt : findIn K (.ref C) "__getattr__" = some none)
    (hs : subIn K (.ref C) (.type "BaseException") = some true) (hf : findObj K C od name = some (.value v)) (hh : handedIn v = true) (h : Q v { s with toks := s.toks + 1 }) : wpAny (model prog w) A (getAttr (.ref x) name expr) Q E s := by
  obtain ⟨hp, g, d, t, os⟩ := s
  have L0 := I.type (M := model prog w)
  have L1 := looks_findIn (M := model prog w) X hga
  have L2 := looks_find (M := model prog w) X I hf
  have sub : Looks (model prog w) hp (isInstance (.ref x) (.type "BaseException")) true := L0.andThen (looks_subIn X hs)
  unfold getAttr getAttrBy
  refine wpAny_bind (wpAny_mkText (wpAny_holding (wpAny_bind (L0.at (wpAny_bind (L1.at ?_))))))
  dsimp only
  rw [if_neg (by simp [onTheHeap])]
  unfold getAttrByItsOwn
  refine wpAny_bind ((looks_findIn (M := model prog w) X hgt).at (wpAny_bind (wpAny_attempt (wpAny_holding ?_))))
  unfold callGetattribute
  rw [if_neg (by simp [onTheHeap])]
  unfold boundAndCalled
  rw [PySem.F.attr_Exception.ga.bind (.ref x)]
  refine wpAny_bind (wpAny_pure (wpAny_call ?_))
  refine codeAny_call_builtin PySem.F.attr_Exception.ga.plain PySem.F.entry_bexc_ga (@check_slot (model prog w) _ _ ⟨hp, g, d, t + 1, os⟩ "BaseException.__getattribute__" "BaseException" "__getattribute__" (.ref x) [.str name t] [] _ kind_bga split_bga sub (PySem.F.args_bexc_ga (.ref x) (.str name t)) ?_)
  refine wpAny_bind (wpAny_pure (wpAny_bind (wpAny_pure (wpAny_bind (L0.at (wpAny_bind (L2.at ?_)))))))
  refine wpAny_pure ?_
  show wpAny _ _ (handedOut v) _ _ _
  rw [handedOut_of hh]; exact wpAny_pure h
theorem exc_own {v : Value} {attr : Option Value} {es : List DictEntry} {n : Nat} {h₀ : Heap} {L : Addr} {m : Str → Option Value} (F : Fr h₀ L s.heap m) (X₀ : K.In h₀) (I : InstAt s.heap x ox C (some (dictOf es n))) (hga : findIn K (.ref C) "__getattribute__" = some (some (.builtin "BaseException.__getattribute__"))) (hgt : findIn K (.ref C) "__getattr__" = some none)
    (hs : subIn K (.ref C) (.type "BaseException") = some true) (hh : hasDictIn K C = true) (ha : findIn K (.ref C) name = some attr) (hn : noGet K attr = true) (hl : getL name es = some (some v)) (hv : handedIn v = true) (h : Q v { s with toks := s.toks + 1 }) :
    wpAny (model prog w) A (getAttr (.ref x) name expr) Q E s :=
  exc_get (X₀.keeps F.keep) I hga hgt hs (findObj_own hh ha hn (by rw [lookIn_dict, hl])) hv h
theorem inst_D {h h₀ : Heap} {L e dx : Addr} {ws : Array Value} {sl : Array (Option Value)} {o : Obj} {news : List (Addr × Obj)} (N : News h₀ L h news) (h1 : (e, (⟨.ref 60, some dx, .fields ws, sl⟩ : Obj)) ∈ news) (h2 : (dx, o) ∈ news) :
    InstAt h e ⟨.ref 60, some dx, .fields ws, sl⟩ 60 (some o) := ⟨(N _ h1).1, rfl, rfl, (N _ h2).1⟩
end
end

section
theorem freshVal : True := by
  w_top off
  k_with_none
  exact True.intro
open PySem PySem.W PyProof.Rows PyProof.V PySem.Calls PySem.Spec
set_option maxRecDepth 100000
set_option maxHeartbeats 400000
local macro_rules | `(tactic| ktr_unf) => `(tactic| first | k_asm | exact rfl | k_mem | ktr_room | ktr_units | k_updF | omega)
local macro_rules | `(tactic| ke_room) => `(tactic| ktr_units)
local macro_rules | `(tactic| ke_shaped) => `(tactic| assumption)
local macro_rules | `(tactic| ke_read) => `(tactic| exact Reads.keeps (Fr.keep (by k_asm)) (by assumption))
theorem sayVala : True := by
  k_with_none
  k_with "ktr_enter" => (first | ((refine' code_defL ?k1q0 ?k2q0 ?k3q0 ?k4q0 ?kMq0 ?k5q0 ?kAq0 ?kFq0 ?kKq0 ?k6q0 ?k7q0 ?k8q0 ?k9q0 ?kBq0 ?_ ?c2q0 ?c3q0 ?c4q0 ?c5q0; (case kAq0 => exact rfl); (case kFq0 => exact rfl); (case kKq0 => assumption); (case k1q0 => k_asm); (case k2q0 => k_asm); (case k3q0 => k_asm); (case k4q0 => k_asm); (case kMq0 => assumption); (case k5q0 => k_asm); (case k6q0 => k_is); (case k7q0 => k_is); (case k8q0 => ktr_room); (case k9q0 => exact BindsTo.of_eq rfl); (case c5q0 => decide); (case kBq0 => exact locs rfl); (case c2q0 => exact rfl); (case c3q0 => exact rfl); (case c4q0 => exact rfl); k_whole; intro g' L' h' FG' F' N' B' X' T' fr' l1; (try k_lt l1); (try dsimp only); (try k_fold))) | ((refine' code_defL ?k1q1 ?k2q1 ?k3q1 ?k4q1 ?kMq1 ?k5q1 ?kAq1 ?kFq1 ?kKq1 ?k6q1 ?k7q1 ?k8q1 ?k9q1 ?kBq1 ?_ ?c2q1 ?c3q1 ?c4q1 ?c5q1; (case kAq1 => exact rfl); (case kFq1 => exact rfl); (case kKq1 => assumption); (case k1q1 => k_asm); (case k2q1 => k_asm); (case k3q1 => k_asm); (case k4q1 => k_asm); (case kMq1 => assumption); (case k5q1 => k_asm); (case k6q1 => k_is); (case k7q1 => k_is); (case k8q1 => ktr_room); (case k9q1 => exact BindsTo.of_eq rfl); (case c5q1 => decide); (case kBq1 => exact locs rfl); (case c2q1 => exact rfl); (case c3q1 => exact rfl); (case c4q1 => exact rfl); k_whole; intro g' L' h' FG' F' N' B' X' T' fr' l1; (try k_lt l1); (try dsimp only); (try k_fold))))
  k_with "compareOp Eq none ref" => (k_here; k_dflt (refine eq_dataH Reads.none (by ke_read) (by rfl) (by ke_shaped) (by ke_room) ?_); ke_norm)
  exact True.intro
theorem len_app (a b : Str) : (a ++ b).length = a.length + b.length := by
  show (a.cps ++ b.cps).size = _
  rw [Array.size_append]; rfl
theorem room1 {x : Str} (hx : x.length ≤ 100) : x.length ≤ sizeLine := by rw [sizeLine_eq]; omega
theorem room2 {a x : Str} (ha : a.length ≤ 100) (hx : x.length ≤ 100) : (Str.empty ++ a ++ x).length ≤ sizeLine := by
  rw [sizeLine_eq, len_app, len_app]; have : Str.empty.length = 0 := rfl; omega
theorem room3 {a x b : Str} (ha : a.length ≤ 100) (hx : x.length ≤ 100) (hb : b.length ≤ 100) : (Str.empty ++ a ++ x ++ b).length ≤ sizeLine := by
  rw [sizeLine_eq, len_app, len_app, len_app]; have : Str.empty.length = 0 := rfl; omega
noncomputable abbrev msgF (x : Str) : Str := Str.empty ++ Str.ofString "the option :" ++ x ++ Str.ofString " is true or false"
noncomputable abbrev msgN (x : Str) : Str := Str.empty ++ Str.ofString "the option :" ++ x ++ Str.ofString " is a numeral"
noncomputable abbrev msgL (x : Str) : Str := Str.empty ++ Str.ofString "the option :" ++ x ++ Str.ofString " has to be told first of all"

section
variable {w : World} {mean : ExcName → Option Value} {mg mb : Str → Option Value} {dp un : Nat} {gd : Option (List Code)} {cn : Str} {cs : Scope} {a : Addr} {ccd : Value} {cl : List (Str × Addr)} {outer : List Env} {A₀ : Around} {base h₀ : Heap} {L : Addr} {m : Str → Option Value} {led : List (Addr × Obj)} {G : Obj → List (Addr × Obj)} {s : Shared} {Q E : Value → Shared → Prop}

theorem sayValb : True := by
  k_with "formatField str" => (refine formatField_str (hsz := room1 (by with_reducible assumption)) ?_; intro _ _; (try dsimp only))
  k_with "joinParts" => (first | (((with_reducible show wpAny _ _ (joinParts _ (evalEach [] _)) _ _ _); k_dflt (refine' joinParts_nil ?_ ?szq0); (case szq0 => (refine' room3 ?a1q0 ?a2q0 ?a3q0; (case a2q0 => with_reducible assumption); (case a1q0 => decide +kernel); (case a3q0 => decide +kernel))))) | (((with_reducible show wpAny _ _ (joinParts _ (evalEach [] _)) _ _ _); k_dflt (refine' joinParts_nil ?_ ?szq1); (case szq1 => (refine' room3 ?a1q1 ?a2q1 ?a3q1; (case a2q1 => with_reducible assumption); (case a1q1 => decide +kernel); (case a3q1 => decide +kernel))))))
  k_with "And" => (first | (((with_reducible show Str.length _ ≤ sizeLine ∧ _); refine' And.intro ?a0q0 ?_; (case a0q0 => (first | (refine' room3 ?a1q0 ?a2q0 ?a3q0; (case a2q0 => with_reducible assumption); (case a1q0 => decide +kernel); (case a3q0 => decide +kernel)) | (refine' room2 ?a1q0 ?a2q0; (case a2q0 => with_reducible assumption); (case a1q0 => decide +kernel)))))) | (((with_reducible show Str.length _ ≤ sizeLine ∧ _); refine' And.intro ?a0q1 ?_; (case a0q1 => (first | (refine' room3 ?a1q1 ?a2q1 ?a3q1; (case a2q1 => with_reducible assumption); (case a1q1 => decide +kernel); (case a3q1 => decide +kernel)) | (refine' room2 ?a1q1 ?a2q1; (case a2q1 => with_reducible assumption); (case a1q1 => decide +kernel)))))))
  k_with "call ref" => (k_here; (with_reducible show wpAny _ _ (call (Value.ref 111) _) _ _ _); first | (k_dflt (first | (refine' flag_callF ?Bq0 ?Fq0 ?Xq0 ?Tq0 ?hkq0 ?hdq0 ?huq0 ?NLq0 ?h1q0 ?h2q0 ?h3q0 ?hodq0 ?hfq0 ?loq0 ?hlq0 ?_; (case Bq0 => ktr_unf); (case Fq0 => ktr_unf); (case Xq0 => ktr_unf); (case Tq0 => ktr_unf); (case hkq0 => ktr_unf); (case hdq0 => ktr_unf); (case huq0 => ktr_unf); (case NLq0 => ktr_unf); (case h1q0 => ktr_unf); (case h2q0 => ktr_unf); (case h3q0 => ktr_unf); (case hodq0 => ktr_unf); (case hfq0 => ktr_unf); (case loq0 => ktr_unf); (case hlq0 => ktr_unf); k_whole) | (refine' flag_callC ?Bq0 ?Fq0 ?Xq0 ?Tq0 ?hkq0 ?hdq0 ?huq0 ?NLq0 ?h1q0 ?h2q0 ?h3q0 ?hodq0 ?hfq0 ?loq0 ?hlq0 ?_; (case Bq0 => ktr_unf); (case Fq0 => ktr_unf); (case Xq0 => ktr_unf); (case Tq0 => ktr_unf); (case hkq0 => ktr_unf); (case hdq0 => ktr_unf); (case huq0 => ktr_unf); (case NLq0 => ktr_unf); (case h1q0 => ktr_unf); (case h2q0 => ktr_unf); (case h3q0 => ktr_unf); (case hodq0 => ktr_unf); (case hfq0 => ktr_unf); (case loq0 => ktr_unf); (case hlq0 => ktr_unf); k_whole)); intro h9 tk9 F9 N9; (try dsimp only); (try k_fold)) | (k_dflt (first | (refine' flag_callF ?Bq1 ?Fq1 ?Xq1 ?Tq1 ?hkq1 ?hdq1 ?huq1 ?NLq1 ?h1q1 ?h2q1 ?h3q1 ?hodq1 ?hfq1 ?loq1 ?hlq1 ?_; (case Bq1 => ktr_unf); (case Fq1 => ktr_unf); (case Xq1 => ktr_unf); (case Tq1 => ktr_unf); (case hkq1 => ktr_unf); (case hdq1 => ktr_unf); (case huq1 => ktr_unf); (case NLq1 => ktr_unf); (case h1q1 => ktr_unf); (case h2q1 => ktr_unf); (case h3q1 => ktr_unf); (case hodq1 => ktr_unf); (case hfq1 => ktr_unf); (case loq1 => ktr_unf); (case hlq1 => ktr_unf); k_whole) | (refine' flag_callC ?Bq1 ?Fq1 ?Xq1 ?Tq1 ?hkq1 ?hdq1 ?huq1 ?NLq1 ?h1q1 ?h2q1 ?h3q1 ?hodq1 ?hfq1 ?loq1 ?hlq1 ?_; (case Bq1 => ktr_unf); (case Fq1 => ktr_unf); (case Xq1 => ktr_unf); (case Tq1 => ktr_unf); (case hkq1 => ktr_unf); (case hdq1 => ktr_unf); (case huq1 => ktr_unf); (case NLq1 => ktr_unf); (case h1q1 => ktr_unf); (case h2q1 => ktr_unf); (case h3q1 => ktr_unf); (case hodq1 => ktr_unf); (case hfq1 => ktr_unf); (case loq1 => ktr_unf); (case hlq1 => ktr_unf); k_whole)); intro h9 tk9 F9 N9; (try dsimp only); (try k_fold)))
  k_with "call ref" => (k_here; (with_reducible show wpAny _ _ (call (Value.ref 60) _) _ _ _); first | (k_dflt (refine' make_fault ?Bq0 ?Fq0 ?Xq0 ?Tq0 ?hkq0 ?hdq0 ?NLq0 ?_; (case Bq0 => ktr_unf); (case Fq0 => ktr_unf); (case Xq0 => ktr_unf); (case Tq0 => ktr_unf); (case hkq0 => ktr_unf); (case hdq0 => ktr_unf); (case NLq0 => ktr_unf); k_whole); intro e9 dx9 t9 h9 tk9 tk8 F9 N9 lt9 et9 td9; k_dflt (refine ⟨_, _, _, _, rfl, Frag.In.keeps (by k_asm) (Fr.keep F9), (N9 _ (.tail _ (.head _))).1, rfl, ?_⟩); (try dsimp only); (try k_fold)) | (k_dflt (refine' make_fault ?Bq1 ?Fq1 ?Xq1 ?Tq1 ?hkq1 ?hdq1 ?NLq1 ?_; (case Bq1 => ktr_unf); (case Fq1 => ktr_unf); (case Xq1 => ktr_unf); (case Tq1 => ktr_unf); (case hkq1 => ktr_unf); (case hdq1 => ktr_unf); (case NLq1 => ktr_unf); k_whole); intro e9 dx9 t9 h9 tk9 tk8 F9 N9 lt9 et9 td9; k_dflt (refine ⟨_, _, _, _, rfl, Frag.In.keeps (by k_asm) (Fr.keep F9), (N9 _ (.tail _ (.head _))).1, rfl, ?_⟩); (try dsimp only); (try k_fold)))
  k_with "leaving ref" => (k_here; first | (k_dflt (refine' leave_raiseD ?Kq0 ?Fq0 ?Nq0 ?heq0 ?hetq0 ?htdq0 ?_ ?hkq0; (case hkq0 => exact rfl); (case Kq0 => assumption); (case Nq0 => assumption); (case Fq0 => assumption); (case heq0 => assumption); (case hetq0 => assumption); (case htdq0 => assumption); k_whole); intro h8 R8 U8; (try dsimp only)) | (k_dflt (refine' leave_raiseD ?Kq1 ?Fq1 ?Nq1 ?heq1 ?hetq1 ?htdq1 ?_ ?hkq1; (case hkq1 => exact rfl); (case Kq1 => assumption); (case Nq1 => assumption); (case Fq1 => assumption); (case heq1 => assumption); (case hetq1 => assumption); (case htdq1 => assumption); k_whole); intro h8 R8 U8; (try dsimp only)))
  k_with "exec Raise some none" => (k_here; (with_reducible show wpAny _ _ (exec (Stmt.Raise (some _) none _) _) _ _ _); first | (k_dflt (refine' Raise_evalX ?h0q0 ?h1q0 ?h2q0 ?h3q0 ?_; (case h0q0 => assumption); (case h1q0 => k_is); (case h2q0 => k_is); (case h3q0 => exact rfl); k_whole)) | (k_dflt (refine' Raise_evalX ?h0q1 ?h1q1 ?h2q1 ?h3q1 ?_; (case h0q1 => assumption); (case h1q1 => k_is); (case h2q1 => k_is); (case h3q1 => exact rfl); k_whole)))
  exact True.intro
theorem val_flag {o dx d nd : Nat} {hsh : Int} {tv tx : Tok} {od : Obj} {kvs : List (Str × Value)} {D : List (PyData × PyData)} {x : Str} {b : Bool} {ia : Nat} {k : Str} {t1 : Tok} {v2 : Value} {d2 : PyData}
    (B : Below A₀ base outer h₀) (F : Fr h₀ L s.heap m) (X : (hd.heap_39 w.params).In h₀) (T : Top hd.view_39 LS mean mg mb h₀) (hk : cs.kind = .function)
    (hdp : dp + 10 < recursionLimit) (hu : un + 300 < cLine) (NL : News h₀ L s.heap led) (h1 : (o, optI dx) ∈ led) (h2 : (dx, optD hsh tv d nd) ∈ led) (h3 : (d, od) ∈ led) (hod : od.IsDictOf (PySem.strKind PySem.Challenge.rw_nz0133_01.row.prog w) kvs) (hf : FlatPairs PyData.str kvs D) (lo : (d == sysModules) = false) (hl : lookup (.str x) D = some (.bool b)) (hi : (ia, tupO [.str k t1, v2]) ∈ led) (hv : ∀ g, Frm led [(o, optI dx), (dx, optD hsh tv d nd), (d, od), (ia, tupO [.str k t1, v2])] g → ∃ as, Reads g v2 d2 as) (hsh9 : SeqAt.shaped (.tuple [.str k, d2]) = true) (hx : x.length ≤ 100)
    (ht : (k == Str.ofString "sym" && d2.eqv (PyData.str (Str.ofString "true"))) = true → ∀ h' tk', Fr h₀ L h' m → News h₀ L h' led → Q (.bool true) { s with heap := h', toks := tk' })
    (hfl : (k == Str.ofString "sym" && d2.eqv (PyData.str (Str.ofString "true"))) = false → (k == Str.ofString "sym" && d2.eqv (PyData.str (Str.ofString "false"))) = true → ∀ h' tk', Fr h₀ L h' m → News h₀ L h' led → Q (.bool false) { s with heap := h', toks := tk' })
    (hexc : (k == Str.ofString "sym" && d2.eqv (PyData.str (Str.ofString "true"))) = false → (k == Str.ofString "sym" && d2.eqv (PyData.str (Str.ofString "false"))) = false → Fault w base h₀ L m (envX cn cs L a ccd cl :: outer) led E s (msgF x)) :
    wpAny (model PySem.Challenge.rw_nz0133_01.row.prog w) (ktrTop dp un gd cn cs L a ccd cl outer) (call (.ref 118) [.ref o, .str x tx, .ref ia]) Q E s := by
  have hmu : ∀ p ∈ [(o, optI dx), (dx, optD hsh tv d nd), (d, od), (ia, tupO [.str k t1, v2])], p ∈ led := List.forall_mem_cons.mpr ⟨h1, List.forall_mem_cons.mpr ⟨h2, List.forall_mem_cons.mpr ⟨h3, List.forall_mem_singleton.mpr hi⟩⟩⟩
  refine wpAny_call ?_
  k_dflt (k_extra "ktr_enter")
  rename Frm _ _ _ => fr9
  obtain ⟨as9, hv9⟩ := hv _ fr9
  k_steps
  · exact ht (by assumption) _ _ (by assumption) (led_same NL hmu (by assumption) (fun _ h => .tail _ h) (by assumption) (by assumption))
  · exact hfl (by assumption) (by assumption) _ _ (by assumption) (led_same NL hmu (by assumption) (fun _ h => .tail _ (.tail _ h)) (by assumption) (by assumption))
  · exact hexc (by assumption) (by assumption) _ _ _ _ _ _ _ _ _ hmu (by assumption) (by assumption) (RaisedD.sub (by assumption) (fun _ h => by rcases List.mem_cons.mp h with rfl | h; exact .head _; exact .tail _ (.tail _ <| .tail _ <| h))) (by assumption)

theorem val_flagN {o dx d nd : Nat} {hsh : Int} {tv tx : Tok} {od : Obj} {kvs : List (Str × Value)} {D : List (PyData × PyData)} {x : Str} {b : Bool}
    (B : Below A₀ base outer h₀) (F : Fr h₀ L s.heap m) (X : (hd.heap_39 w.params).In h₀) (T : Top hd.view_39 LS mean mg mb h₀) (hk : cs.kind = .function)
    (hdp : dp + 10 < recursionLimit) (hu : un + 300 < cLine) (NL : News h₀ L s.heap led) (h1 : (o, optI dx) ∈ led) (h2 : (dx, optD hsh tv d nd) ∈ led) (h3 : (d, od) ∈ led) (hod : od.IsDictOf (PySem.strKind PySem.Challenge.rw_nz0133_01.row.prog w) kvs) (hf : FlatPairs PyData.str kvs D) (lo : (d == sysModules) = false) (hl : lookup (.str x) D = some (.bool b)) (hx : x.length ≤ 100)
    (hexc : Fault w base h₀ L m (envX cn cs L a ccd cl :: outer) led E s (msgF x)) :
    wpAny (model PySem.Challenge.rw_nz0133_01.row.prog w) (ktrTop dp un gd cn cs L a ccd cl outer) (call (.ref 118) [.ref o, .str x tx, .none]) Q E s := by
  have hmu : ∀ p ∈ [(o, optI dx), (dx, optD hsh tv d nd), (d, od)], p ∈ led := List.forall_mem_cons.mpr ⟨h1, List.forall_mem_cons.mpr ⟨h2, List.forall_mem_singleton.mpr h3⟩⟩
  refine wpAny_call ?_
  k_dflt (k_extra "ktr_enter")
  k_steps
  exact hexc _ _ _ _ _ _ _ _ _ hmu (by assumption) (by assumption) (RaisedD.sub (by assumption) (fun _ h => by rcases List.mem_cons.mp h with rfl | h; exact .head _; exact .tail _ (.tail _ <| .tail _ <| h))) (by assumption)

theorem val_countN {o dx d nd : Nat} {hsh : Int} {tv tx : Tok} {od : Obj} {kvs : List (Str × Value)} {D : List (PyData × PyData)} {x : Str} {i : Int} 
    (B : Below A₀ base outer h₀) (F : Fr h₀ L s.heap m) (X : (hd.heap_39 w.params).In h₀) (T : Top hd.view_39 LS mean mg mb h₀) (hk : cs.kind = .function)
    (hdp : dp + 10 < recursionLimit) (hu : un + 300 < cLine) (NL : News h₀ L s.heap led) (h1 : (o, optI dx) ∈ led) (h2 : (dx, optD hsh tv d nd) ∈ led) (h3 : (d, od) ∈ led) (hod : od.IsDictOf (PySem.strKind PySem.Challenge.rw_nz0133_01.row.prog w) kvs) (hf : FlatPairs PyData.str kvs D) (lo : (d == sysModules) = false) (hl : lookup (.str x) D = some (.int i)) (hx : x.length ≤ 100)
    (hexc : Fault w base h₀ L m (envX cn cs L a ccd cl :: outer) led E s (msgN x)) :
    wpAny (model PySem.Challenge.rw_nz0133_01.row.prog w) (ktrTop dp un gd cn cs L a ccd cl outer) (call (.ref 118) [.ref o, .str x tx, .none]) Q E s := by
  have hmu : ∀ p ∈ [(o, optI dx), (dx, optD hsh tv d nd), (d, od)], p ∈ led := List.forall_mem_cons.mpr ⟨h1, List.forall_mem_cons.mpr ⟨h2, List.forall_mem_singleton.mpr h3⟩⟩
  refine wpAny_call ?_
  k_dflt (k_extra "ktr_enter")
  k_steps
  exact hexc _ _ _ _ _ _ _ _ _ hmu (by assumption) (by assumption) (RaisedD.sub (by assumption) (fun _ h => by rcases List.mem_cons.mp h with rfl | h; exact .head _; exact .tail _ (h))) (by assumption)

theorem val_countK {o dx d nd : Nat} {hsh : Int} {tv tx : Tok} {od : Obj} {kvs : List (Str × Value)} {D : List (PyData × PyData)} {x : Str} {i : Int} {ia : Nat} {k : Str} {t1 : Tok} {v2 : Value}
    (B : Below A₀ base outer h₀) (F : Fr h₀ L s.heap m) (X : (hd.heap_39 w.params).In h₀) (T : Top hd.view_39 LS mean mg mb h₀) (hk : cs.kind = .function)
    (hdp : dp + 10 < recursionLimit) (hu : un + 300 < cLine) (NL : News h₀ L s.heap led) (h1 : (o, optI dx) ∈ led) (h2 : (dx, optD hsh tv d nd) ∈ led) (h3 : (d, od) ∈ led) (hod : od.IsDictOf (PySem.strKind PySem.Challenge.rw_nz0133_01.row.prog w) kvs) (hf : FlatPairs PyData.str kvs D) (lo : (d == sysModules) = false) (hl : lookup (.str x) D = some (.int i)) (hx : x.length ≤ 100) (hi : (ia, tupO [.str k t1, v2]) ∈ led) (hkn : (k == Str.ofString "num") = false)
    (hexc : Fault w base h₀ L m (envX cn cs L a ccd cl :: outer) led E s (msgN x)) :
    wpAny (model PySem.Challenge.rw_nz0133_01.row.prog w) (ktrTop dp un gd cn cs L a ccd cl outer) (call (.ref 118) [.ref o, .str x tx, .ref ia]) Q E s := by
  have hmu : ∀ p ∈ [(o, optI dx), (dx, optD hsh tv d nd), (d, od), (ia, tupO [.str k t1, v2])], p ∈ led := List.forall_mem_cons.mpr ⟨h1, List.forall_mem_cons.mpr ⟨h2, List.forall_mem_cons.mpr ⟨h3, List.forall_mem_singleton.mpr hi⟩⟩⟩
  refine wpAny_call ?_
  k_dflt (k_extra "ktr_enter")
  k_steps
  · exact hexc _ _ _ _ _ _ _ _ _ hmu (by assumption) (by assumption) (RaisedD.sub (by assumption) (fun _ h => by rcases List.mem_cons.mp h with rfl | h; exact .head _; exact .tail _ (h))) (by assumption)
  · rename (k != Str.ofString "num") = false => q9
    rw [bne, hkn] at q9; cases q9

theorem val_countI {o dx d nd : Nat} {hsh : Int} {tv tx : Tok} {od : Obj} {kvs : List (Str × Value)} {D : List (PyData × PyData)} {x : Str} {i : Int} {ia : Nat} {t1 t2 : Tok} {j : Int}
    (B : Below A₀ base outer h₀) (F : Fr h₀ L s.heap m) (X : (hd.heap_39 w.params).In h₀) (T : Top hd.view_39 LS mean mg mb h₀) (hk : cs.kind = .function)
    (hdp : dp + 10 < recursionLimit) (hu : un + 300 < cLine) (NL : News h₀ L s.heap led) (h1 : (o, optI dx) ∈ led) (h2 : (dx, optD hsh tv d nd) ∈ led) (h3 : (d, od) ∈ led) (hod : od.IsDictOf (PySem.strKind PySem.Challenge.rw_nz0133_01.row.prog w) kvs) (hf : FlatPairs PyData.str kvs D) (lo : (d == sysModules) = false) (hl : lookup (.str x) D = some (.int i)) (hx : x.length ≤ 100) (hi : (ia, tupO [.str (Str.ofString "num") t1, .int j t2]) ∈ led)
    (hret : 0 ≤ j → ∀ h' tk', Fr h₀ L h' m → News h₀ L h' led → Q (.int j t2) { s with heap := h', toks := tk' }) (hexc : j < 0 → Fault w base h₀ L m (envX cn cs L a ccd cl :: outer) led E s (msgN x)) :
    wpAny (model PySem.Challenge.rw_nz0133_01.row.prog w) (ktrTop dp un gd cn cs L a ccd cl outer) (call (.ref 118) [.ref o, .str x tx, .ref ia]) Q E s := by
  have hmu : ∀ p ∈ [(o, optI dx), (dx, optD hsh tv d nd), (d, od), (ia, tupO [.str (Str.ofString "num") t1, .int j t2])], p ∈ led := List.forall_mem_cons.mpr ⟨h1, List.forall_mem_cons.mpr ⟨h2, List.forall_mem_cons.mpr ⟨h3, List.forall_mem_singleton.mpr hi⟩⟩⟩
  refine wpAny_call ?_
  k_dflt (k_extra "ktr_enter")
  k_steps
  · exact hexc (by omega) _ _ _ _ _ _ _ _ _ hmu (by assumption) (by assumption) (RaisedD.sub (by assumption) (fun _ h => by rcases List.mem_cons.mp h with rfl | h; exact .head _; exact .tail _ (h))) (by assumption)
  · exact hret (by omega) _ _ (by assumption) (led_same NL hmu (by assumption) (fun _ h => h) (by assumption) (by assumption))
end
end

section
theorem freshItem : True := by
  w_top off
  k_with_none
  exact True.intro
open PySem PySem.W PyProof.Rows PyProof.V PySem.Calls PySem.Spec
set_option maxRecDepth 100000
set_option maxHeartbeats 400000
/-- what an option can be told -/
inductive Itm where
  | none | sym (y : Str) | num (i : Int) | dec (i : Int) | txt | lst
noncomputable abbrev sy : Str := Str.ofString "sym"
noncomputable abbrev tru : Str := Str.ofString "true"
noncomputable abbrev fls : Str := Str.ofString "false"
noncomputable def Itm.At (led : List (Addr × Obj)) : Itm → Value → Prop
  | .none, v => v = .none
  | .sym y, v => PyData.strOk y = true ∧ ∃ (a : Nat) (t1 t2 : Tok), v = .ref a ∧ (a, tupO [.str sy t1, .str y t2]) ∈ led
  | .num i, v => ∃ (a : Nat) (t1 t2 : Tok), v = .ref a ∧ (a, tupO [.str (Str.ofString "num") t1, .int i t2]) ∈ led
  | .dec i, v => ∃ (a b : Nat) (t1 t2 t3 : Tok), v = .ref a ∧ (a, tupO [.str (Str.ofString "dec") t1, .ref b]) ∈ led ∧ (b, tupO [.int i t2, .int 1 t3]) ∈ led
  | .txt, v => ∃ (a : Nat) (t1 t2 : Tok), v = .ref a ∧ (a, tupO [.str (Str.ofString "str") t1, .str tru t2]) ∈ led
  | .lst, v => ∃ (a b c : Nat) (t1 t2 t3 : Tok), v = .ref a ∧ (a, tupO [.str (Str.ofString "list") t1, .ref b]) ∈ led ∧ (b, tupO [.ref c]) ∈ led ∧ (c, tupO [.str sy t2, .str tru t3]) ∈ led
theorem Itm.At.sub {led led' : List (Addr × Obj)} {it : Itm} {v : Value} (h : it.At led v) (hs : ∀ p ∈ led, p ∈ led') : it.At led' v := by
  cases it with
  | none => exact h
  | sym y => obtain ⟨o, a, t1, t2, e, m⟩ := h; exact ⟨o, a, t1, t2, e, hs _ m⟩
  | num y => obtain ⟨a, t1, t2, e, m⟩ := h; exact ⟨a, t1, t2, e, hs _ m⟩
  | dec i => obtain ⟨a, b, t1, t2, t3, e, m, m'⟩ := h; exact ⟨a, b, t1, t2, t3, e, hs _ m, hs _ m'⟩
  | txt => obtain ⟨a, t1, t2, e, m⟩ := h; exact ⟨a, t1, t2, e, hs _ m⟩
  | lst => obtain ⟨a, b, c, t1, t2, t3, e, m, m', m''⟩ := h; exact ⟨a, b, c, t1, t2, t3, e, hs _ m, hs _ m', hs _ m''⟩
noncomputable def Itm.flag : Itm → Option Bool
  | .sym y => if y = tru then some true else if y = fls then some false else .none
  | _ => .none
noncomputable def Itm.count : Itm → Option Int
  | .num i => if i < 0 then .none else some i
  | _ => .none

section
variable {h₀ h : Heap} {L : Addr} {led : List (Addr × Obj)}
theorem apart {a b : Addr} {oa ob : Obj} (NL : News h₀ L h led) (ha : (a, oa) ∈ led) (hb : (b, ob) ∈ led) (hne : oa ≠ ob) : a ≠ b := fun e => hne (by
  have x := (NL _ ha).1
  have y := (NL _ hb).1
  rw [e] at x
  exact Option.some.inj (x.symm.trans y))
end
--GEN

section
variable {w : World} {mean : ExcName → Option Value} {mg mb : Str → Option Value} {dp un : Nat} {gd : Option (List Code)} {cn : Str} {cs : Scope} {a : Addr} {ccd : Value} {cl : List (Str × Addr)} {outer : List Env} {A₀ : Around} {base h₀ : Heap} {L : Addr} {m : Str → Option Value} {led : List (Addr × Obj)} {G : Obj → List (Addr × Obj)} {s : Shared} {Q E : Value → Shared → Prop}

theorem tup_rest {o dx d nd ia b b' : Nat} {hsh : Int} {tv t1 : Tok} {od : Obj} {kvs : List (Str × Value)} {k : Str} {xs : List Value} (NL : News h₀ L s.heap led) (h1 : (o, optI dx) ∈ led) (h2 : (dx, optD hsh tv d nd) ∈ led) (h3 : (d, od) ∈ led) (hod : od.IsDictOf (PySem.strKind PySem.Challenge.rw_nz0133_01.row.prog w) kvs)
    (hi : (ia, tupO [.str k t1, .ref b']) ∈ led) (hb : (b, tupO xs) ∈ led) (hne : xs ≠ [.str k t1, .ref b']) (g : Heap) (fr : Frm led [(o, optI dx), (dx, optD hsh tv d nd), (d, od), (ia, tupO [.str k t1, .ref b'])] g) : g.get? b = some (tupO xs) := by
  refine fr (b, tupO xs) hb fun hm => ?_
  have dd : od ≠ tupO xs := fun e => by
    rw [e] at hod
    obtain ⟨_, _, ⟨hd, _⟩, _⟩ := hod
    exact absurd hd (by first | (intro z; cases z; done) | (show ¬ (Value.type "tuple" = Value.type "dict"); intro z; injection z with z; revert z; decide) | (show ¬ (Value.type "dict" = Value.type "tuple"); intro z; injection z with z; revert z; decide))
  simp only [List.map_cons, List.map_nil, List.mem_cons, List.not_mem_nil, or_false] at hm
  rcases hm with e | e | e | e
  · exact apart NL h1 hb (fun q => by have := congrArg Obj.cls q; exact absurd this (by intro z; cases z)) e.symm
  · exact apart NL h2 hb (fun q => by have := congrArg Obj.cls q; exact absurd this (by show ¬ (Value.type "dict" = Value.type "tuple"); intro z; injection z with z; revert z; decide)) e.symm
  · exact apart NL h3 hb dd e.symm
  · exact apart NL hi hb (fun q => hne (by have := congrArg Obj.data q; injection this with z _; exact by have := congrArg Array.toList z; simpa using this.symm)) e.symm

theorem str_eqv (y z : Str) : (PyData.str y).eqv (.str z) = decide (y = z) := by
  rw [Bool.eq_iff_iff]; simp [PyData.eqv]
theorem nkey (k : String) (h : (Str.ofString k == sy) = false) (b : Bool) : (Str.ofString k == sy && b) = false := by rw [h]; rfl

theorem value_flag {o dx d nd : Nat} {hsh : Int} {tv tx : Tok} {od : Obj} {kvs : List (Str × Value)} {D : List (PyData × PyData)} {x : Str} {v : Value} {it : Itm} {b : Bool}
    (B : Below A₀ base outer h₀) (F : Fr h₀ L s.heap m) (X : (hd.heap_39 w.params).In h₀) (T : Top hd.view_39 LS mean mg mb h₀) (hk : cs.kind = .function)
    (hdp : dp + 10 < recursionLimit) (hu : un + 300 < cLine) (NL : News h₀ L s.heap led) (h1 : (o, optI dx) ∈ led) (h2 : (dx, optD hsh tv d nd) ∈ led) (h3 : (d, od) ∈ led) (hod : od.IsDictOf (PySem.strKind PySem.Challenge.rw_nz0133_01.row.prog w) kvs) (hf : FlatPairs PyData.str kvs D) (lo : (d == sysModules) = false) (hl : lookup (.str x) D = some (.bool b)) (hx : x.length ≤ 100) (hi : it.At led v)
    (hok : ∀ r, it.flag = some r → ∀ (_ : Tok) h' tk', Fr h₀ L h' m → News h₀ L h' led → Q (.bool r) { s with heap := h', toks := tk' })
    (hexc : it.flag = none → Fault w base h₀ L m (envX cn cs L a ccd cl :: outer) led E s (msgF x)) :
    wpAny (model PySem.Challenge.rw_nz0133_01.row.prog w) (ktrTop dp un gd cn cs L a ccd cl outer) (call (.ref 118) [.ref o, .str x tx, v]) Q E s := by
  cases it with
  | none => obtain rfl := hi; exact val_flagN B F X T hk hdp hu NL h1 h2 h3 hod hf lo hl hx (hexc rfl)
  | sym y =>
    obtain ⟨hy, ia, t1, t2, rfl, mi⟩ := hi
    refine val_flag B F X T hk hdp hu NL h1 h2 h3 hod hf lo hl mi (fun _ _ => ⟨_, Reads.str _ _⟩) (by simp [SeqAt.shaped, PyData.canLay0, PyData.canLayAll0, PyData.depth, PyData.depthAll, hy]; decide +kernel) hx (fun q => hok true ?_ 0) (fun q q' => hok false ?_ 0) (fun q q' => hexc ?_)
    · rw [beq_self_eq_true, Bool.true_and, str_eqv, decide_eq_true_eq] at q
      simp [Itm.flag, q]
    · rw [beq_self_eq_true, Bool.true_and, str_eqv] at q q'
      have := of_decide_eq_true q'
      have n := of_decide_eq_false q
      simp only [Itm.flag, if_neg n, if_pos this]
    · rw [beq_self_eq_true, Bool.true_and, str_eqv] at q q'
      have n' := of_decide_eq_false q'
      have n := of_decide_eq_false q
      simp only [Itm.flag, if_neg n, if_neg n']
  | num i =>
    obtain ⟨ia, t1, t2, rfl, mi⟩ := hi
    exact val_flag B F X T hk hdp hu NL h1 h2 h3 hod hf lo hl mi (fun _ _ => ⟨_, Reads.int _ _⟩) (by simp [SeqAt.shaped, PyData.canLay0, PyData.canLayAll0, PyData.depth, PyData.depthAll]; decide +kernel) hx (fun q => by rw [nkey "num" (by decide +kernel)] at q; cases q) (fun _ q => by rw [nkey "num" (by decide +kernel)] at q; cases q) (fun _ _ => hexc rfl)
  | txt =>
    obtain ⟨ia, t1, t2, rfl, mi⟩ := hi
    exact val_flag B F X T hk hdp hu NL h1 h2 h3 hod hf lo hl mi (fun _ _ => ⟨_, Reads.str _ _⟩) (by simp [SeqAt.shaped, PyData.canLay0, PyData.canLayAll0, PyData.depth, PyData.depthAll]; decide +kernel) hx (fun q => by rw [nkey "str" (by decide +kernel)] at q; cases q) (fun _ q => by rw [nkey "str" (by decide +kernel)] at q; cases q) (fun _ _ => hexc rfl)
  | dec i =>
    obtain ⟨ia, ib, t1, t2, t3, rfl, mi, mb⟩ := hi
    exact val_flag B F X T hk hdp hu NL h1 h2 h3 hod hf lo hl mi (fun g fr => ⟨_, reads_tuple_at (tup_rest NL h1 h2 h3 hod mi mb (by intro z; cases z) g fr) rfl rfl (.cons (.int _ _) (.cons (.int _ _) .nil))⟩) (by simp [SeqAt.shaped, PyData.canLay0, PyData.canLayAll0, PyData.depth, PyData.depthAll]; decide +kernel) hx (fun q => by rw [nkey "dec" (by decide +kernel)] at q; cases q) (fun _ q => by rw [nkey "dec" (by decide +kernel)] at q; cases q) (fun _ _ => hexc rfl)
  | lst =>
    obtain ⟨ia, ib, ic, t1, t2, t3, rfl, mi, mb, mc⟩ := hi
    exact val_flag B F X T hk hdp hu NL h1 h2 h3 hod hf lo hl mi (fun g fr => ⟨_, reads_tuple_at (tup_rest NL h1 h2 h3 hod mi mb (by intro z; cases z) g fr) rfl rfl (.cons (reads_tuple_at (tup_rest NL h1 h2 h3 hod mi mc (by intro z; injection z with _ z; injection z with z; cases z) g fr) rfl rfl (.cons (.str _ _) (.cons (.str _ _) .nil))) .nil)⟩) (by simp [SeqAt.shaped, PyData.canLay0, PyData.canLayAll0, PyData.depth, PyData.depthAll]; decide +kernel) hx (fun q => by rw [nkey "list" (by decide +kernel)] at q; cases q) (fun _ q => by rw [nkey "list" (by decide +kernel)] at q; cases q) (fun _ _ => hexc rfl)

theorem value_count {o dx d nd : Nat} {hsh : Int} {tv tx : Tok} {od : Obj} {kvs : List (Str × Value)} {D : List (PyData × PyData)} {x : Str} {v : Value} {it : Itm} {i : Int}
    (B : Below A₀ base outer h₀) (F : Fr h₀ L s.heap m) (X : (hd.heap_39 w.params).In h₀) (T : Top hd.view_39 LS mean mg mb h₀) (hk : cs.kind = .function)
    (hdp : dp + 10 < recursionLimit) (hu : un + 300 < cLine) (NL : News h₀ L s.heap led) (h1 : (o, optI dx) ∈ led) (h2 : (dx, optD hsh tv d nd) ∈ led) (h3 : (d, od) ∈ led) (hod : od.IsDictOf (PySem.strKind PySem.Challenge.rw_nz0133_01.row.prog w) kvs) (hf : FlatPairs PyData.str kvs D) (lo : (d == sysModules) = false) (hl : lookup (.str x) D = some (.int i)) (hx : x.length ≤ 100) (hi : it.At led v)
    (hok : ∀ r, it.count = some r → ∀ t h' tk', Fr h₀ L h' m → News h₀ L h' led → Q (.int r t) { s with heap := h', toks := tk' })
    (hexc : it.count = none → Fault w base h₀ L m (envX cn cs L a ccd cl :: outer) led E s (msgN x)) :
    wpAny (model PySem.Challenge.rw_nz0133_01.row.prog w) (ktrTop dp un gd cn cs L a ccd cl outer) (call (.ref 118) [.ref o, .str x tx, v]) Q E s := by
  cases it with
  | none => obtain rfl := hi; exact val_countN B F X T hk hdp hu NL h1 h2 h3 hod hf lo hl hx (hexc rfl)
  | sym y => obtain ⟨hy, ia, t1, t2, rfl, mi⟩ := hi; exact val_countK B F X T hk hdp hu NL h1 h2 h3 hod hf lo hl hx mi (by decide +kernel) (hexc rfl)
  | num i =>
    obtain ⟨ia, t1, t2, rfl, mi⟩ := hi
    refine val_countI B F X T hk hdp hu NL h1 h2 h3 hod hf lo hl hx mi (fun q => hok i ?_ _) (fun q => hexc ?_) <;> simp only [Itm.count]
    · rw [if_neg (by omega)]
    · rw [if_pos q]
  | txt => obtain ⟨ia, t1, t2, rfl, mi⟩ := hi; exact val_countK B F X T hk hdp hu NL h1 h2 h3 hod hf lo hl hx mi (by decide +kernel) (hexc rfl)
  | dec i => obtain ⟨ia, ib, t1, t2, t3, rfl, mi, mb⟩ := hi; exact val_countK B F X T hk hdp hu NL h1 h2 h3 hod hf lo hl hx mi (by decide +kernel) (hexc rfl)
  | lst => obtain ⟨ia, ib, ic, t1, t2, t3, rfl, mi, mb, mc⟩ := hi; exact val_countK B F X T hk hdp hu NL h1 h2 h3 hod hf lo hl hx mi (by decide +kernel) (hexc rfl)
end
end

section
theorem freshBase3 : True := by
  w_top off
  k_with_none
  exact True.intro
open PySem PySem.W PyProof.Rows PyProof.V PySem.Calls PySem.Spec
set_option maxRecDepth 100000
set_option maxHeartbeats 400000
section
variable {prog : Program} {w : World} {A₀ A : Around} {s : Shared} {base h₀ : Heap} {outer : List Env} {L : Addr} {m mg mb : Str → Option Value} {env : Env} {led mu : List (Addr × Obj)} {K : Frag} {p : Program} {loose : List Str} {mean : ExcName → Option Value}
  {R : Result → Shared → Prop} {name qual : Str} {params : Arguments} {body : List Stmt} {scope : Scope} {dV kV doc pm cdv ct oc : Value} {an od : Option Addr} {osl : Array (Option Value)} {f : Addr} {args : Args} {binds : List (Str × Value)}
/-- a def called with a part of the ledger; all of the ledger lies below its frame -/
theorem code_defN (B : Below A₀ base outer h₀) (F : Fr h₀ L s.heap m) (X₀ : K.In h₀) (NL : News h₀ L s.heap led) (hmu : ∀ p ∈ mu, p ∈ led) (T : Top p loose mean mg mb h₀)
    (hA : A.frames = some (env :: outer)) (hf : env.frame = some L) (hke : env.scope.kind = .function)
    (ho : K.lookup f = some ⟨oc, od, .func (fnOf name qual params body scope dV kV doc pm an cdv ct), osl⟩) (hcd : codeIn K cdv qual = true) (hroom : A.depth < recursionLimit)
    (hbind : BindsTo s (fnOf name qual params body scope dV kV doc pm an cdv ct) args binds) (hloc : ∀ y ∈ binds, scope.names.lookup y.1 = some .local)
    (h : ∀ g L' h₁, Fr h₀ L g m → Fr g L' h₁ (fun y => binds.reverse.lookup y) → News g L' h₁ mu → Below A base (env :: outer) g → K.In g → Top p loose mean mg mb g → Frm led mu g → (∀ q ∈ mu, q.1 < L') → (∀ q ∈ led, q.1 < L') →
      wpAny (model prog w) (A.deeper (envOf qual scope L' f cdv)) (execs body (envOf qual scope L' f cdv))
        (fun fl s' => LeaveK h₀ L m g R (match fl with | .ret v => v | _ => .none) s')
        (fun e s' => wpAny (model prog w) (A.deeper (envOf qual scope L' f cdv)) (leaving (envOf qual scope L' f cdv) e) (fun _ s'' => R (.error e) s'') (fun e' s'' => R (.error e') s'') s')
        { s with heap := h₁, toks := s.toks + binds.length })
    (hco : scope.isCoroutine = false) (hgen : scope.isGenerator = false) (hk : scope.kind = .function)
    (hcell : ∀ x ∈ scope.names, x.2 ≠ .cell) : codeAny (model prog w) A (.call (.ref f) args) R s := by
  have N : News h₀ L s.heap mu := fun p hp => NL p (hmu p hp)
  obtain ⟨FG, BG, st, lv⟩ := groundX (R := R) B F N hA hf hke
  refine codeAny_call_def (fd := fnOf name qual params body scope dV kV doc pm an cdv ct) (body := body) (binds := binds) hroom ((X₀.keeps F.keep) _ _ ho) rfl (T.nolimit.keeps F.keep) (codeRec_of (X₀.keeps F.keep) hcd) rfl hbind hcell hloc
    (fun h₁ hns hk₁ => ?_) hco hgen hk
  have F₁ : Fr (hideAll s.heap (mu.map (·.1))) s.heap.objs.size h₁ (fun y => binds.reverse.lookup y) := ⟨hns, fun b o e => hk₁ b o (of_hideAll _ e), Nat.le_of_eq (hideAll_size _ _)⟩
  have N₁ : News (hideAll s.heap (mu.map (·.1))) s.heap.objs.size h₁ mu := fun q hq => ⟨hk₁ _ _ (N q hq).1, Nat.ne_of_lt (Heap.lt_size (N q hq).1), hideAll_none _ (List.mem_map_of_mem hq)⟩
  have fr : Frm led mu (hideAll s.heap (mu.map (·.1))) := fun q hq hn => hideAll_get _ (NL q hq).1 hn
  exact wpAny_mono (h _ _ h₁ FG F₁ N₁ BG (X₀.keeps st) (T.keeps st) fr (fun q hq => Heap.lt_size (N q hq).1) (fun q hq => Heap.lt_size (NL q hq).1)) (fun fl s' hl => lv _ _ hl) fun _ _ y => y
end
section
variable {h₀ h h' g : Heap} {L L' : Addr} {m' : Str → Option Value} {led mu mu' nw : List (Addr × Obj)}
/-- behind a call that made objects -/
theorem led_new (NL : News h₀ L h led) (hmu : ∀ p ∈ mu, p ∈ led) (kN : News h₀ L h' mu') (hs : ∀ p ∈ mu, p ∈ mu') (hn : ∀ p ∈ nw, p ∈ mu') (fr : Frm led mu g) (F' : Fr g L' h' m') : News h₀ L h' (nw ++ led) := fun q hq => by
  rcases List.mem_append.mp hq with hq | hq
  · exact kN q (hn q hq)
  · exact led_same NL hmu kN hs fr F' q hq
theorem new_ne {l : Addr} {o : Obj} {rest : List (Addr × Obj)} (fr : Frm led mu g) (N : News g L' h' ((l, o) :: rest)) (hne : ∀ q ∈ mu, @Ne Nat q.1 l) : ∀ p ∈ led, @Ne Nat p.1 l := fun q hq e => by
  by_cases hm : q.1 ∈ mu.map (·.1)
  · obtain ⟨p, hp, e'⟩ := List.mem_map.mp hm
    exact hne p hp (e'.trans e)
  · have x1 := fr q hq hm
    have x2 := (N (l, o) (.head _)).2.2
    dsimp only at x2
    rw [e, x2] at x1; cases x1
theorem new_neM {l : Addr} {o : Obj} (fr : Frm led mu g) (N : News g L' h' mu') (hm : (l, o) ∈ mu') (hne : ∀ q ∈ mu, @Ne Nat q.1 l) : ∀ p ∈ led, @Ne Nat p.1 l :=
  new_ne fr (N := fun p hp => N p (by rcases List.mem_cons.mp hp with rfl | hp; exact hm; exact hp)) hne
noncomputable def AllNe (l : Nat) : List (Addr × Obj) → Prop
  | [] => True
  | p :: r => @Ne Nat p.1 l ∧ AllNe l r
theorem allNe_of {l : Nat} : ∀ {n : List (Addr × Obj)}, (∀ p ∈ n, @Ne Nat p.1 l) → AllNe l n
  | [], _ => trivial
  | _ :: _, h => ⟨h _ (.head _), allNe_of fun p hp => h p (.tail _ hp)⟩
theorem allNe_all {l : Nat} : ∀ {n : List (Addr × Obj)}, AllNe l n → ∀ p ∈ n, @Ne Nat p.1 l
  | [], _ => fun _ h => nomatch h
  | _ :: _, h => List.forall_mem_cons.mpr ⟨h.1, allNe_all h.2⟩
theorem led_new1 {l : Addr} {o : Obj} {rest : List (Addr × Obj)} (NL : News h₀ L h led) (hmu : ∀ p ∈ mu, p ∈ led) (kN : News h₀ L h' ((l, o) :: rest)) (hs : ∀ p ∈ mu, p ∈ rest) (fr : Frm led mu g) (F' : Fr g L' h' m') : News h₀ L h' ((l, o) :: led) :=
  led_new (nw := [(l, o)]) NL hmu kN (fun p hp => .tail _ (hs p hp)) (List.forall_mem_singleton.mpr (.head _)) fr F'
end
end

section
theorem freshItemD : True := by
  w_top off
  k_with_none
  exact True.intro
open PySem PySem.W PyProof.Rows PyProof.V PySem.Calls PySem.Spec
set_option maxRecDepth 100000
set_option maxHeartbeats 400000
noncomputable def Itm.dat : Itm → PyData
  | .none => .none
  | .sym y => .tuple [.str sy, .str y]
  | .num i => .tuple [.str (Str.ofString "num"), .int i]
  | .dec i => .tuple [.str (Str.ofString "dec"), .tuple [.int i, .int 1]]
  | .txt => .tuple [.str (Str.ofString "str"), .str tru]
  | .lst => .tuple [.str (Str.ofString "list"), .tuple [.tuple [.str sy, .str tru]]]
theorem Itm.At.reads {h₀ h : Heap} {L : Addr} {led : List (Addr × Obj)} {it : Itm} {v : Value} (hi : it.At led v) (N : News h₀ L h led) : ∃ as, Reads h v it.dat as := by
  cases it with
  | none => obtain rfl := hi; exact ⟨_, .none⟩
  | sym y => obtain ⟨_, a, t1, t2, rfl, m⟩ := hi; exact ⟨_, reads_tuple_at (N.get m) rfl rfl (.cons (.str _ _) (.cons (.str _ _) .nil))⟩
  | num i => obtain ⟨a, t1, t2, rfl, m⟩ := hi; exact ⟨_, reads_tuple_at (N.get m) rfl rfl (.cons (.str _ _) (.cons (.int _ _) .nil))⟩
  | dec i => obtain ⟨a, b, t1, t2, t3, rfl, m, m'⟩ := hi; exact ⟨_, reads_tuple_at (N.get m) rfl rfl (.cons (.str _ _) (.cons (reads_tuple_at (N.get m') rfl rfl (.cons (.int _ _) (.cons (.int _ _) .nil))) .nil))⟩
  | txt => obtain ⟨a, t1, t2, rfl, m⟩ := hi; exact ⟨_, reads_tuple_at (N.get m) rfl rfl (.cons (.str _ _) (.cons (.str _ _) .nil))⟩
  | lst => obtain ⟨a, b, c, t1, t2, t3, rfl, m, m', m''⟩ := hi; exact ⟨_, reads_tuple_at (N.get m) rfl rfl (.cons (.str _ _) (.cons (reads_tuple_at (N.get m') rfl rfl (.cons (reads_tuple_at (N.get m'') rfl rfl (.cons (.str _ _) (.cons (.str _ _) .nil))) .nil)) .nil))⟩
theorem Itm.At.ok {led : List (Addr × Obj)} {it : Itm} {v : Value} (hi : it.At led v) : it.dat.canLay0 = true := by
  cases it with
  | sym y => obtain ⟨hy, _⟩ := hi; simp [Itm.dat, PyData.canLay0, PyData.canLayAll0, hy]; decide +kernel
  | none | num | dec | txt | lst => simp [Itm.dat, PyData.canLay0, PyData.canLayAll0]; try decide +kernel
theorem Itm.depth_le (it : Itm) : it.dat.depth ≤ 10 := by
  cases it <;> simp [Itm.dat, PyData.depth, PyData.depthAll]
noncomputable def twoD : List PyData := [.tuple [.str sy, .str tru], .tuple [.str sy, .str fls]]
theorem two_any (it : Itm) : (twoD.any fun y => PyData.eqv y it.dat) = it.flag.isSome := by
  cases it with
  | sym y =>
    simp only [twoD, Itm.dat, List.any_cons, List.any_nil, Bool.or_false, Itm.flag]
    by_cases h1 : y = tru
    · subst h1; rw [if_pos rfl]; decide +kernel
    · rw [if_neg h1]
      by_cases h2 : y = fls
      · subst h2; rw [if_pos rfl]; decide +kernel
      · rw [if_neg h2]
        simp [PyData.eqv, PyData.eqvAll, Ne.symm h1, Ne.symm h2]
  | none => decide +kernel
  | num i =>
    simp only [twoD, Itm.dat, List.any_cons, List.any_nil, Bool.or_false, Itm.flag]
    simp [PyData.eqv, PyData.eqvAll]
  | dec i =>
    simp only [twoD, Itm.dat, List.any_cons, List.any_nil, Bool.or_false, Itm.flag]
    simp [PyData.eqv, PyData.eqvAll]
  | txt => decide +kernel
  | lst => decide +kernel
section
variable {prog : Program} {w : World} {A : Around} {E : Value → Shared → Prop} {s : Shared} {h₀ : Heap} {L : Addr} {news : List (Addr × Obj)} {it : Itm} {v : Value} {D b1 b2 : Addr} {t1 t2 t3 t4 : Tok} {Q : Value → Shared → Prop}
theorem item_notin (N : News h₀ L s.heap news) (hi : it.At news v) (hD : (D, tupO [.ref b1, .ref b2]) ∈ news) (h1 : (b1, tupO [.str sy t1, .str tru t2]) ∈ news) (h2 : (b2, tupO [.str sy t3, .str fls t4]) ∈ news)
    (hu : A.units + 64 < cLine) (h : Q (.bool it.flag.isNone) s) : wpAny (model prog w) A (compareOp .NotIn v (.ref D)) Q E s := by
  obtain ⟨as, ra⟩ := hi.reads N
  have rc : ∃ bs, Reads s.heap (.ref D) (.tuple twoD) bs := ⟨_, reads_tuple_at (N.get hD) rfl rfl (.cons (reads_tuple_at (N.get h1) rfl rfl (.cons (.str _ _) (.cons (.str _ _) .nil))) (.cons (reads_tuple_at (N.get h2) rfl rfl (.cons (.str _ _) (.cons (.str _ _) .nil))) .nil))⟩
  obtain ⟨bs, rc⟩ := rc
  refine SeqAt.notIn_tuple_reads rc ra (by decide +kernel) hi.ok ?_ (by rw [two_any, show (!it.flag.isSome) = it.flag.isNone by cases it.flag <;> rfl]; exact h)
  have := Nat.min_le_right (PyData.depthAll twoD) it.dat.depth
  have := it.depth_le
  omega
theorem item_notin_T (N : News h₀ L s.heap news) (hi : it.At news v) (hD : (D, tupO [.ref b1, .ref b2]) ∈ news) (h1 : (b1, tupO [.str sy t1, .str tru t2]) ∈ news) (h2 : (b2, tupO [.str sy t3, .str fls t4]) ∈ news)
    (hu : A.units + 64 < cLine) (hf : it.flag = none) (h : Q (.bool true) s) : wpAny (model prog w) A (compareOp .NotIn v (.ref D)) Q E s := item_notin N hi hD h1 h2 hu (by rw [hf]; exact h)
theorem sym_notin {y : Str} {ia : Addr} {t5 t6 : Tok} (N : News h₀ L s.heap news) (hy : y = tru ∨ y = fls) (hi : (ia, tupO [.str sy t5, .str y t6]) ∈ news) (hD : (D, tupO [.ref b1, .ref b2]) ∈ news) (h1 : (b1, tupO [.str sy t1, .str tru t2]) ∈ news) (h2 : (b2, tupO [.str sy t3, .str fls t4]) ∈ news)
    (hu : A.units + 64 < cLine) (h : Q (.bool false) s) : wpAny (model prog w) A (compareOp .NotIn (.ref ia) (.ref D)) Q E s := by
  have hk : PyData.strOk y = true := by rcases hy with rfl | rfl <;> decide +kernel
  have hf : ∃ r, (Itm.sym y).flag = some r := by rcases hy with rfl | rfl <;> exact ⟨_, rfl⟩
  obtain ⟨r, hf⟩ := hf
  refine item_notin (it := .sym y) N ⟨hk, ia, t5, t6, rfl, hi⟩ hD h1 h2 hu (by rw [hf]; exact h)
end
/-- the names that may be told late -/
noncomputable def lateL : List Str := [Str.ofString "print-success", Str.ofString "reproducible-resource-limit", Str.ofString "verbosity"]
end

section
theorem freshPut : True := by
  w_top off
  k_with_none
  exact True.intro
open PySem PySem.W PyProof.Rows PyProof.V PySem.Calls PySem.Spec
set_option maxRecDepth 100000
set_option maxHeartbeats 400000
local macro_rules | `(tactic| ktr_unf) => `(tactic| first | k_asm | exact rfl | k_mem | ktr_room | ktr_units | k_updF | omega)
theorem sayPuta : True := by
  k_with_none
  k_with "ktr_enter" => (first | ((refine' code_defL ?k1q0 ?k2q0 ?k3q0 ?k4q0 ?kMq0 ?k5q0 ?kAq0 ?kFq0 ?kKq0 ?k6q0 ?k7q0 ?k8q0 ?k9q0 ?kBq0 ?_ ?c2q0 ?c3q0 ?c4q0 ?c5q0; (case kAq0 => exact rfl); (case kFq0 => exact rfl); (case kKq0 => assumption); (case k1q0 => k_asm); (case k2q0 => k_asm); (case k3q0 => k_asm); (case k4q0 => k_asm); (case kMq0 => assumption); (case k5q0 => k_asm); (case k6q0 => k_is); (case k7q0 => k_is); (case k8q0 => ktr_room); (case k9q0 => exact BindsTo.of_eq rfl); (case c5q0 => decide); (case kBq0 => exact locs rfl); (case c2q0 => exact rfl); (case c3q0 => exact rfl); (case c4q0 => exact rfl); k_whole; intro g' L' h' FG' F' N' B' X' T' fr' l1; (try k_lt l1); (try dsimp only); (try k_fold))) | ((refine' code_defL ?k1q1 ?k2q1 ?k3q1 ?k4q1 ?kMq1 ?k5q1 ?kAq1 ?kFq1 ?kKq1 ?k6q1 ?k7q1 ?k8q1 ?k9q1 ?kBq1 ?_ ?c2q1 ?c3q1 ?c4q1 ?c5q1; (case kAq1 => exact rfl); (case kFq1 => exact rfl); (case kKq1 => assumption); (case k1q1 => k_asm); (case k2q1 => k_asm); (case k3q1 => k_asm); (case k4q1 => k_asm); (case kMq1 => assumption); (case k5q1 => k_asm); (case k6q1 => k_is); (case k7q1 => k_is); (case k8q1 => ktr_room); (case k9q1 => exact BindsTo.of_eq rfl); (case c5q1 => decide); (case kBq1 => exact locs rfl); (case c2q1 => exact rfl); (case c3q1 => exact rfl); (case c4q1 => exact rfl); k_whole; intro g' L' h' FG' F' N' B' X' T' fr' l1; (try k_lt l1); (try dsimp only); (try k_fold))))
  exact True.intro
theorem swap_mem {d : Addr} {od od' : Obj} {p : Addr × Obj} : ∀ {A B : List (Addr × Obj)}, p ∈ A ++ (d, od) :: B → p.1 ≠ d → p ∈ A ++ (d, od') :: B := fun {A B} h hn => by
  rcases List.mem_append.mp h with h | h
  · exact List.mem_append_left _ h
  · rcases List.mem_cons.mp h with rfl | h
    · exact absurd rfl hn
    · exact List.mem_append_right _ (.tail _ h)
theorem roomD {D : List (PyData × PyData)} (h : D.length ≤ 100) : D.length ≤ sizeLine := by rw [sizeLine_eq]; omega
noncomputable def earlyL : List Str := [Str.ofString "produce-models", Str.ofString "produce-unsat-cores", Str.ofString "minimal-unsat-cores", Str.ofString "produce-unsat-assumptions", Str.ofString "produce-proofs", Str.ofString "produce-assertions", Str.ofString "produce-assignments", Str.ofString "random-seed"]
noncomputable def strsOf : List Value → Option (List Str)
  | [] => some []
  | .str x _ :: r => (strsOf r).map (x :: ·)
  | _ => none
theorem strsOf_are : ∀ {vs : List Value} {ss : List Str}, strsOf vs = some ss → StrsAre vs ss
  | [], _, h => by cases h; exact .nil
  | .str x t :: r, ss, h => by
    obtain ⟨y, hy, rfl⟩ := Option.map_eq_some_iff.mp h
    exact .cons _ t (strsOf_are hy)
noncomputable def strTupIn (K : Frag) (a : Addr) : Option (List Str) := match K.lookup a with
  | some ⟨.type c, _, .seq vs _, _⟩ => if c == "tuple" then strsOf vs.toList else none
  | _ => none
theorem strTup_of {K : Frag} {h : Heap} {a : Addr} {ss : List Str} (X : K.In h) (e : strTupIn K a = some ss) : ∃ vs : Array Value, IsTup h a vs ∧ StrsAre vs.toList ss := by
  unfold strTupIn at e
  split at e
  · rename_i c od vs n sl ho
    split at e
    · rename_i hc
      have := beq_iff_eq.mp hc
      subst this
      exact ⟨vs, ⟨_, X _ _ ho, rfl, n, rfl⟩, strsOf_are e⟩
    · cases e
  · cases e
theorem Itm.At.sub3 {led : List (Addr × Obj)} {it : Itm} {v : Value} {p q r : Addr × Obj} (h : it.At [p, q, r] v) (hp : p ∈ led) (hq : q ∈ led) (hr : r ∈ led) : it.At led v := h.sub (List.forall_mem_cons.mpr ⟨hp, List.forall_mem_cons.mpr ⟨hq, List.forall_mem_singleton.mpr hr⟩⟩)
theorem early_in {w : World} : strTupIn (hd.heap_39 w.params) 76 = some earlyL := by kernel_rfl

section
variable {w : World} {mean : ExcName → Option Value} {mg mb : Str → Option Value} {dp un : Nat} {gd : Option (List Code)} {cn : Str} {cs : Scope} {a : Addr} {ccd : Value} {cl : List (Str × Addr)} {outer : List Env} {A₀ : Around} {base h₀ : Heap} {L : Addr} {m : Str → Option Value} {led : List (Addr × Obj)} {G : Obj → List (Addr × Obj)} {s : Shared} {Q E : Value → Shared → Prop}

theorem sayPutb : True := by
  k_with "formatField str" => (refine formatField_str (hsz := room1 (by with_reducible assumption)) ?_; intro _ _; (try dsimp only))
  k_with "joinParts" => (first | (((with_reducible show wpAny _ _ (joinParts _ (evalEach [] _)) _ _ _); k_dflt (refine' joinParts_nil ?_ ?szq0); (case szq0 => (refine' room3 ?a1q0 ?a2q0 ?a3q0; (case a2q0 => with_reducible assumption); (case a1q0 => decide +kernel); (case a3q0 => decide +kernel))))) | (((with_reducible show wpAny _ _ (joinParts _ (evalEach [] _)) _ _ _); k_dflt (refine' joinParts_nil ?_ ?szq1); (case szq1 => (refine' room3 ?a1q1 ?a2q1 ?a3q1; (case a2q1 => with_reducible assumption); (case a1q1 => decide +kernel); (case a3q1 => decide +kernel))))))
  k_with "And" => (first | (((with_reducible show Str.length _ ≤ sizeLine ∧ _); refine' And.intro ?a0q0 ?_; (case a0q0 => (first | (refine' room3 ?a1q0 ?a2q0 ?a3q0; (case a2q0 => with_reducible assumption); (case a1q0 => decide +kernel); (case a3q0 => decide +kernel)) | (refine' room2 ?a1q0 ?a2q0; (case a2q0 => with_reducible assumption); (case a1q0 => decide +kernel)))))) | (((with_reducible show Str.length _ ≤ sizeLine ∧ _); refine' And.intro ?a0q1 ?_; (case a0q1 => (first | (refine' room3 ?a1q1 ?a2q1 ?a3q1; (case a2q1 => with_reducible assumption); (case a1q1 => decide +kernel); (case a3q1 => decide +kernel)) | (refine' room2 ?a1q1 ?a2q1; (case a2q1 => with_reducible assumption); (case a1q1 => decide +kernel)))))))
  k_with "setItem ref str" => (k_here; first | (k_dflt (refine' setItem_K PyProof.V.same_str (strKind_is _ _ _ _) ?vq0 ?Fq0 ?Nq0 ?Uq0 ?dq0 ?fq0 ?_ ?zq0; (case Fq0 => k_asm); (case Nq0 => k_asm); (case Uq0 => k_updF); (case dq0 => k_asm); (case fq0 => k_asm); (case zq0 => (refine' roomD ?_; with_reducible assumption)); (case vq0 => k_flat)); intro h' o' F' N' hd' hf'; (try dsimp only at N'); (try k_sweep)) | (k_dflt (refine' setItem_K PyProof.V.same_str (strKind_is _ _ _ _) ?vq1 ?Fq1 ?Nq1 ?Uq1 ?dq1 ?fq1 ?_ ?zq1; (case Fq1 => k_asm); (case Nq1 => k_asm); (case Uq1 => k_updF); (case dq1 => k_asm); (case fq1 => k_asm); (case zq1 => (refine' roomD ?_; with_reducible assumption)); (case vq1 => k_flat)); intro h' o' F' N' hd' hf'; (try dsimp only at N'); (try k_sweep)))
  k_with "compareOp In str ref" => (k_here; (with_reducible show wpAny _ _ (compareOp CmpOp.In _ (Value.ref 76)) _ _ _); k_dflt (refine in_tuple_strs (Fr.tup (by assumption) (by assumption)) (by assumption) ?_))
  k_with "call ref" => (k_here; (with_reducible show wpAny _ _ (call (Value.ref 60) _) _ _ _); first | (k_dflt (refine' make_fault ?Bq0 ?Fq0 ?Xq0 ?Tq0 ?hkq0 ?hdq0 ?NLq0 ?_; (case Bq0 => ktr_unf); (case Fq0 => ktr_unf); (case Xq0 => ktr_unf); (case Tq0 => ktr_unf); (case hkq0 => ktr_unf); (case hdq0 => ktr_unf); (case NLq0 => ktr_unf); k_whole); intro e9 dx9 t9 h9 tk9 tk8 F9 N9 lt9 et9 td9; k_dflt (refine ⟨_, _, _, _, rfl, Frag.In.keeps (by k_asm) (Fr.keep F9), (N9 _ (.tail _ (.head _))).1, rfl, ?_⟩); (try dsimp only); (try k_fold)) | (k_dflt (refine' make_fault ?Bq1 ?Fq1 ?Xq1 ?Tq1 ?hkq1 ?hdq1 ?NLq1 ?_; (case Bq1 => ktr_unf); (case Fq1 => ktr_unf); (case Xq1 => ktr_unf); (case Tq1 => ktr_unf); (case hkq1 => ktr_unf); (case hdq1 => ktr_unf); (case NLq1 => ktr_unf); k_whole); intro e9 dx9 t9 h9 tk9 tk8 F9 N9 lt9 et9 td9; k_dflt (refine ⟨_, _, _, _, rfl, Frag.In.keeps (by k_asm) (Fr.keep F9), (N9 _ (.tail _ (.head _))).1, rfl, ?_⟩); (try dsimp only); (try k_fold)))
  k_with "leaving ref" => (k_here; first | (k_dflt (refine' leave_raiseD ?Kq0 ?Fq0 ?Nq0 ?heq0 ?hetq0 ?htdq0 ?_ ?hkq0; (case hkq0 => exact rfl); (case Kq0 => assumption); (case Nq0 => assumption); (case Fq0 => assumption); (case heq0 => assumption); (case hetq0 => assumption); (case htdq0 => assumption); k_whole); intro h8 R8 U8; (try dsimp only)) | (k_dflt (refine' leave_raiseD ?Kq1 ?Fq1 ?Nq1 ?heq1 ?hetq1 ?htdq1 ?_ ?hkq1; (case hkq1 => exact rfl); (case Kq1 => assumption); (case Nq1 => assumption); (case Fq1 => assumption); (case heq1 => assumption); (case hetq1 => assumption); (case htdq1 => assumption); k_whole); intro h8 R8 U8; (try dsimp only)))
  k_with "exec Raise some none" => (k_here; (with_reducible show wpAny _ _ (exec (Stmt.Raise (some _) none _) _) _ _ _); first | (k_dflt (refine' Raise_evalX ?h0q0 ?h1q0 ?h2q0 ?h3q0 ?_; (case h0q0 => assumption); (case h1q0 => k_is); (case h2q0 => k_is); (case h3q0 => exact rfl); k_whole)) | (k_dflt (refine' Raise_evalX ?h0q1 ?h1q1 ?h2q1 ?h3q1 ?_; (case h0q1 => assumption); (case h1q1 => k_is); (case h2q1 => k_is); (case h3q1 => exact rfl); k_whole)))
  k_with "call ref" => (k_here; (with_reducible show wpAny _ _ (call (Value.ref 118) _) _ _ _); first | (k_dflt (first | (refine' value_flag ?Bq0 ?Fq0 ?Xq0 ?Tq0 ?hkq0 ?hdq0 ?huq0 ?NLq0 ?h1q0 ?h2q0 ?h3q0 ?hodq0 ?hfq0 ?loq0 ?hlq0 ?hxq0 ?hiq0 ?hokq0 ?hexcq0; (case Bq0 => ktr_unf); (case Fq0 => ktr_unf); (case Xq0 => ktr_unf); (case Tq0 => ktr_unf); (case hkq0 => ktr_unf); (case hdq0 => ktr_unf); (case huq0 => ktr_unf); (case NLq0 => ktr_unf); (case h1q0 => ktr_unf); (case h2q0 => ktr_unf); (case h3q0 => ktr_unf); (case hodq0 => ktr_unf); (case hfq0 => ktr_unf); (case loq0 => ktr_unf); (case hlq0 => ktr_unf); (case hxq0 => ktr_unf); (case hiq0 => exact Itm.At.sub3 (by assumption) (by k_mem) (by k_mem) (by k_mem))) | (refine' value_count ?Bq0 ?Fq0 ?Xq0 ?Tq0 ?hkq0 ?hdq0 ?huq0 ?NLq0 ?h1q0 ?h2q0 ?h3q0 ?hodq0 ?hfq0 ?loq0 ?hlq0 ?hxq0 ?hiq0 ?hokq0 ?hexcq0; (case Bq0 => ktr_unf); (case Fq0 => ktr_unf); (case Xq0 => ktr_unf); (case Tq0 => ktr_unf); (case hkq0 => ktr_unf); (case hdq0 => ktr_unf); (case huq0 => ktr_unf); (case NLq0 => ktr_unf); (case h1q0 => ktr_unf); (case h2q0 => ktr_unf); (case h3q0 => ktr_unf); (case hodq0 => ktr_unf); (case hfq0 => ktr_unf); (case loq0 => ktr_unf); (case hlq0 => ktr_unf); (case hxq0 => ktr_unf); (case hiq0 => exact Itm.At.sub3 (by assumption) (by k_mem) (by k_mem) (by k_mem)))); (case' hokq0 => (k_whole; intro r9 hr9 u9 h9 tk9 F9 N9; (try dsimp only); (try k_fold))); (case' hexcq0 => (k_whole; intro hn9 mu9 G9 e9 t9 dx9 tk9 tx9 h9 tk8 hmu9 F9 fr9 R9 U9; (try dsimp only)))) | (k_dflt (first | (refine' value_flag ?Bq1 ?Fq1 ?Xq1 ?Tq1 ?hkq1 ?hdq1 ?huq1 ?NLq1 ?h1q1 ?h2q1 ?h3q1 ?hodq1 ?hfq1 ?loq1 ?hlq1 ?hxq1 ?hiq1 ?hokq1 ?hexcq1; (case Bq1 => ktr_unf); (case Fq1 => ktr_unf); (case Xq1 => ktr_unf); (case Tq1 => ktr_unf); (case hkq1 => ktr_unf); (case hdq1 => ktr_unf); (case huq1 => ktr_unf); (case NLq1 => ktr_unf); (case h1q1 => ktr_unf); (case h2q1 => ktr_unf); (case h3q1 => ktr_unf); (case hodq1 => ktr_unf); (case hfq1 => ktr_unf); (case loq1 => ktr_unf); (case hlq1 => ktr_unf); (case hxq1 => ktr_unf); (case hiq1 => exact Itm.At.sub3 (by assumption) (by k_mem) (by k_mem) (by k_mem))) | (refine' value_count ?Bq1 ?Fq1 ?Xq1 ?Tq1 ?hkq1 ?hdq1 ?huq1 ?NLq1 ?h1q1 ?h2q1 ?h3q1 ?hodq1 ?hfq1 ?loq1 ?hlq1 ?hxq1 ?hiq1 ?hokq1 ?hexcq1; (case Bq1 => ktr_unf); (case Fq1 => ktr_unf); (case Xq1 => ktr_unf); (case Tq1 => ktr_unf); (case hkq1 => ktr_unf); (case hdq1 => ktr_unf); (case huq1 => ktr_unf); (case NLq1 => ktr_unf); (case h1q1 => ktr_unf); (case h2q1 => ktr_unf); (case h3q1 => ktr_unf); (case hodq1 => ktr_unf); (case hfq1 => ktr_unf); (case loq1 => ktr_unf); (case hlq1 => ktr_unf); (case hxq1 => ktr_unf); (case hiq1 => exact Itm.At.sub3 (by assumption) (by k_mem) (by k_mem) (by k_mem)))); (case' hokq1 => (k_whole; intro r9 hr9 u9 h9 tk9 F9 N9; (try dsimp only); (try k_fold))); (case' hexcq1 => (k_whole; intro hn9 mu9 G9 e9 t9 dx9 tk9 tx9 h9 tk8 hmu9 F9 fr9 R9 U9; (try dsimp only)))))
  k_with "leaving ref" => (k_here; first | (k_dflt (refine' leave_onD ?Kq0 ?Fq0 ?Rq0 ?hsmq0 ?NLq0 ?hmuq0 ?frq0 ?_; (case Rq0 => assumption); (case Kq0 => assumption); (case Fq0 => assumption); (case hsmq0 => assumption); (case hmuq0 => assumption); (case frq0 => assumption); (case NLq0 => assumption); k_whole); intro h8 R8 U8; (try dsimp only)) | (k_dflt (refine' leave_onD ?Kq1 ?Fq1 ?Rq1 ?hsmq1 ?NLq1 ?hmuq1 ?frq1 ?_; (case Rq1 => assumption); (case Kq1 => assumption); (case Fq1 => assumption); (case hsmq1 => assumption); (case hmuq1 => assumption); (case frq1 => assumption); (case NLq1 => assumption); k_whole); intro h8 R8 U8; (try dsimp only)))
  exact True.intro
theorem put_flag {o dx d nd : Nat} {hsh : Int} {tv tx : Tok} {od : Obj} {kvs : List (Str × Value)} {D : List (PyData × PyData)} {x : Str} {v : Value} {it : Itm} {a1 a2 a3 : Nat} {o1 o2 o3 : Obj} {bg : Bool} {b : Bool}
    (B : Below A₀ base outer h₀) (F : Fr h₀ L s.heap m) (X : (hd.heap_39 w.params).In h₀) (T : Top hd.view_39 LS mean mg mb h₀) (hk : cs.kind = .function)
    (hdp : dp + 20 < recursionLimit) (hu : un + 400 < cLine) (NL : News h₀ L s.heap led) (h1 : (o, optI dx) ∈ led) (h2 : (dx, optD hsh tv d nd) ∈ led) (h3 : (d, od) ∈ led) (hod : od.IsDictOf (PySem.strKind PySem.Challenge.rw_nz0133_01.row.prog w) kvs) (hf : FlatPairs PyData.str kvs D) (lo : (d == sysModules) = false) (hl : lookup (.str x) D = some (.bool b)) (hx : x.length ≤ 100) (hi : it.At [(a1, o1), (a2, o2), (a3, o3)] v) (h4 : (a1, o1) ∈ led) (h5 : (a2, o2) ∈ led) (h6 : (a3, o3) ∈ led) (hD : D.length ≤ 100) (U : UpdF d od led G) (n1 : @Ne Nat o d) (n2 : @Ne Nat dx d) (n4 : @Ne Nat a1 d) (n5 : @Ne Nat a2 d) (n6 : @Ne Nat a3 d)
    (hok : ∀ r, it.flag = some r → (bg && (earlyL.any fun y => y == x)) = false → ∀ od' kvs' h' tk', od'.IsDictOf (PySem.strKind PySem.Challenge.rw_nz0133_01.row.prog w) kvs' → FlatPairs PyData.str kvs' (putD (.str x) (.bool r) D) → Fr h₀ L h' m → News h₀ L h' (G od') → Q .none { s with heap := h', toks := tk' })
    (hbad : it.flag = none → Fault w base h₀ L m (envX cn cs L a ccd cl :: outer) led E s (msgF x)) (hlate : ∀ r, it.flag = some r → bg = true → (earlyL.any fun y => y == x) = true → Fault w base h₀ L m (envX cn cs L a ccd cl :: outer) led E s (msgL x)) :
    wpAny (model PySem.Challenge.rw_nz0133_01.row.prog w) (ktrTop dp un gd cn cs L a ccd cl outer) (call (.ref 125) [.ref o, .str x tx, v, .bool bg]) Q E s := by
  have hmu : ∀ p ∈ [(o, optI dx), (dx, optD hsh tv d nd), (d, od), (a1, o1), (a2, o2), (a3, o3)], p ∈ led := List.forall_mem_cons.mpr ⟨h1, List.forall_mem_cons.mpr ⟨h2, List.forall_mem_cons.mpr ⟨h3, List.forall_mem_cons.mpr ⟨h4, List.forall_mem_cons.mpr ⟨h5, List.forall_mem_singleton.mpr h6⟩⟩⟩⟩⟩
  refine wpAny_call ?_
  k_dflt (k_extra "ktr_enter")
  rename (hd.heap_39 w.params).In _ => X9
  obtain ⟨vs9, tE9, sE9⟩ := strTup_of X9 early_in
  k_steps
  · exact hbad (by assumption) _ _ _ _ _ _ _ _ _ hmu (by assumption) (by assumption) (by assumption) (by assumption)
  · exact hlate _ (by assumption) (by assumption) (by assumption) _ _ _ _ _ _ _ _ _ hmu (by assumption) (by assumption) (by assumption) (by assumption)
  · have q1 : bg = true := by assumption
    have q2 : (earlyL.any fun y => y == x) = false := by assumption
    exact hok _ (by assumption) (by rw [q1, q2]; rfl) _ _ _ _ (by assumption) (by assumption) (by assumption) (led_upd NL U hmu (by assumption) (.tail _ (.tail _ (.head _))) (fun p hp hn => swap_mem (A := [(o, optI dx), (dx, optD hsh tv d nd)]) hp hn) (by simp) (by assumption) (by assumption))
  · have q1 : bg = false := by assumption
    exact hok _ (by assumption) (by rw [q1]; rfl) _ _ _ _ (by assumption) (by assumption) (by assumption) (led_upd NL U hmu (by assumption) (.tail _ (.tail _ (.head _))) (fun p hp hn => swap_mem (A := [(o, optI dx), (dx, optD hsh tv d nd)]) hp hn) (by simp) (by assumption) (by assumption))

theorem put_count {o dx d nd : Nat} {hsh : Int} {tv tx : Tok} {od : Obj} {kvs : List (Str × Value)} {D : List (PyData × PyData)} {x : Str} {v : Value} {it : Itm} {a1 a2 a3 : Nat} {o1 o2 o3 : Obj} {bg : Bool} {i : Int}
    (B : Below A₀ base outer h₀) (F : Fr h₀ L s.heap m) (X : (hd.heap_39 w.params).In h₀) (T : Top hd.view_39 LS mean mg mb h₀) (hk : cs.kind = .function)
    (hdp : dp + 20 < recursionLimit) (hu : un + 400 < cLine) (NL : News h₀ L s.heap led) (h1 : (o, optI dx) ∈ led) (h2 : (dx, optD hsh tv d nd) ∈ led) (h3 : (d, od) ∈ led) (hod : od.IsDictOf (PySem.strKind PySem.Challenge.rw_nz0133_01.row.prog w) kvs) (hf : FlatPairs PyData.str kvs D) (lo : (d == sysModules) = false) (hl : lookup (.str x) D = some (.int i)) (hx : x.length ≤ 100) (hi : it.At [(a1, o1), (a2, o2), (a3, o3)] v) (h4 : (a1, o1) ∈ led) (h5 : (a2, o2) ∈ led) (h6 : (a3, o3) ∈ led) (hD : D.length ≤ 100) (U : UpdF d od led G) (n1 : @Ne Nat o d) (n2 : @Ne Nat dx d) (n4 : @Ne Nat a1 d) (n5 : @Ne Nat a2 d) (n6 : @Ne Nat a3 d)
    (hok : ∀ r, it.count = some r → (bg && (earlyL.any fun y => y == x)) = false → ∀ od' kvs' h' tk', od'.IsDictOf (PySem.strKind PySem.Challenge.rw_nz0133_01.row.prog w) kvs' → FlatPairs PyData.str kvs' (putD (.str x) (.int r) D) → Fr h₀ L h' m → News h₀ L h' (G od') → Q .none { s with heap := h', toks := tk' })
    (hbad : it.count = none → Fault w base h₀ L m (envX cn cs L a ccd cl :: outer) led E s (msgN x)) (hlate : ∀ r, it.count = some r → bg = true → (earlyL.any fun y => y == x) = true → Fault w base h₀ L m (envX cn cs L a ccd cl :: outer) led E s (msgL x)) :
    wpAny (model PySem.Challenge.rw_nz0133_01.row.prog w) (ktrTop dp un gd cn cs L a ccd cl outer) (call (.ref 125) [.ref o, .str x tx, v, .bool bg]) Q E s := by
  have hmu : ∀ p ∈ [(o, optI dx), (dx, optD hsh tv d nd), (d, od), (a1, o1), (a2, o2), (a3, o3)], p ∈ led := List.forall_mem_cons.mpr ⟨h1, List.forall_mem_cons.mpr ⟨h2, List.forall_mem_cons.mpr ⟨h3, List.forall_mem_cons.mpr ⟨h4, List.forall_mem_cons.mpr ⟨h5, List.forall_mem_singleton.mpr h6⟩⟩⟩⟩⟩
  refine wpAny_call ?_
  k_dflt (k_extra "ktr_enter")
  rename (hd.heap_39 w.params).In _ => X9
  obtain ⟨vs9, tE9, sE9⟩ := strTup_of X9 early_in
  k_steps
  · exact hbad (by assumption) _ _ _ _ _ _ _ _ _ hmu (by assumption) (by assumption) (by assumption) (by assumption)
  · exact hlate _ (by assumption) (by assumption) (by assumption) _ _ _ _ _ _ _ _ _ hmu (by assumption) (by assumption) (by assumption) (by assumption)
  · have q1 : bg = true := by assumption
    have q2 : (earlyL.any fun y => y == x) = false := by assumption
    exact hok _ (by assumption) (by rw [q1, q2]; rfl) _ _ _ _ (by assumption) (by assumption) (by assumption) (led_upd NL U hmu (by assumption) (.tail _ (.tail _ (.head _))) (fun p hp hn => swap_mem (A := [(o, optI dx), (dx, optD hsh tv d nd)]) hp hn) (by simp) (by assumption) (by assumption))
  · have q1 : bg = false := by assumption
    exact hok _ (by assumption) (by rw [q1]; rfl) _ _ _ _ (by assumption) (by assumption) (by assumption) (led_upd NL U hmu (by assumption) (.tail _ (.tail _ (.head _))) (fun p hp hn => swap_mem (A := [(o, optI dx), (dx, optD hsh tv d nd)]) hp hn) (by simp) (by assumption) (by assumption))
end
end

section
theorem freshDue : True := by
  w_top off
  k_with_none
  exact True.intro
open PySem PySem.W PyProof.Rows PyProof.V PySem.Calls PySem.Spec
set_option maxRecDepth 100000
set_option maxHeartbeats 400000
local macro_rules | `(tactic| ktr_unf) => `(tactic| first | k_asm | exact rfl | k_mem | ktr_room | ktr_units | k_updF | omega)
theorem sayDuea : True := by
  k_with_none
  k_with "ktr_enter" => (first | ((refine' code_defN ?k1q0 ?k2q0 ?k3q0 ?k4q0 ?kMq0 ?k5q0 ?kAq0 ?kFq0 ?kKq0 ?k6q0 ?k7q0 ?k8q0 ?k9q0 ?kBq0 ?_ ?c2q0 ?c3q0 ?c4q0 ?c5q0; (case kAq0 => exact rfl); (case kFq0 => exact rfl); (case kKq0 => assumption); (case k1q0 => k_asm); (case k2q0 => k_asm); (case k3q0 => k_asm); (case k4q0 => k_asm); (case kMq0 => assumption); (case k5q0 => k_asm); (case k6q0 => k_is); (case k7q0 => k_is); (case k8q0 => ktr_room); (case k9q0 => exact BindsTo.of_eq rfl); (case c5q0 => decide); (case kBq0 => exact locs rfl); (case c2q0 => exact rfl); (case c3q0 => exact rfl); (case c4q0 => exact rfl); k_whole; intro g' L' h' FG' F' N' B' X' T' fr' l1 l2; (try k_lt l1); (try dsimp only); (try k_fold))) | ((refine' code_defN ?k1q1 ?k2q1 ?k3q1 ?k4q1 ?kMq1 ?k5q1 ?kAq1 ?kFq1 ?kKq1 ?k6q1 ?k7q1 ?k8q1 ?k9q1 ?kBq1 ?_ ?c2q1 ?c3q1 ?c4q1 ?c5q1; (case kAq1 => exact rfl); (case kFq1 => exact rfl); (case kKq1 => assumption); (case k1q1 => k_asm); (case k2q1 => k_asm); (case k3q1 => k_asm); (case k4q1 => k_asm); (case kMq1 => assumption); (case k5q1 => k_asm); (case k6q1 => k_is); (case k7q1 => k_is); (case k8q1 => ktr_room); (case k9q1 => exact BindsTo.of_eq rfl); (case c5q1 => decide); (case kBq1 => exact locs rfl); (case c2q1 => exact rfl); (case c3q1 => exact rfl); (case c4q1 => exact rfl); k_whole; intro g' L' h' FG' F' N' B' X' T' fr' l1 l2; (try k_lt l1); (try dsimp only); (try k_fold))))
  exact True.intro
theorem words_T {x : Str} {ss : List Str} (hx : x ∈ ss) : KTD.inWords x ss = true := by
  rw [← KTD.any_words, List.any_eq_true]; exact ⟨x, hx, by simp⟩
theorem words_F {x : Str} {ss : List Str} (hx : x ∉ ss) : KTD.inWords x ss = false := by
  rw [← KTD.any_words, List.any_eq_false]; intro y hy e; exact hx ((beq_iff_eq.mp e) ▸ hy)
theorem flags_in {w : World} : KTD.datLooks (fun b => (hd.heap_39 w.params).lookup b) (.words flagsL) (.ref 147) = true := by kernel_rfl
theorem counts_in {w : World} : KTD.datLooks (fun b => (hd.heap_39 w.params).lookup b) (.words countsL) (.ref 148) = true := by kernel_rfl
theorem flag_or {x : Str} (hx : x ∈ namesL) : x ∈ flagsL ∨ x ∈ countsL := List.mem_append.mp hx
section
variable {w : World} {A : Around} {E : Value → Shared → Prop} {s : Shared} {g : Heap} {L : Addr} {m : Str → Option Value} {x : Str} {tx : Tok} {Q : Value → Shared → Prop}
theorem in_flags_T (X : (hd.heap_39 w.params).In g) (F : Fr g L s.heap m) (hx : x ∈ flagsL) (h : Q (.bool true) s) : wpAny (model PySem.Challenge.rw_nz0133_01.row.prog w) A (compareOp .In (.str x tx) (.ref 147)) Q E s :=
  KTD.in_words (kt_words_in X flags_in) F.keep (by rw [words_T hx]; exact h)
theorem in_flags_F (X : (hd.heap_39 w.params).In g) (F : Fr g L s.heap m) (hx : x ∈ countsL) (h : Q (.bool false) s) : wpAny (model PySem.Challenge.rw_nz0133_01.row.prog w) A (compareOp .In (.str x tx) (.ref 147)) Q E s :=
  KTD.in_words (kt_words_in X flags_in) F.keep (by rw [words_F (flag_not hx)]; exact h)
theorem late_early : ∀ x ∈ namesL, (!(lateL.any fun y => y == x)) = (earlyL.any fun y => y == x) := by decide +kernel
theorem notin_late {l : Addr} {t1 t2 t3 : Tok} {n : Nat} {news : List (Addr × Obj)} (F : Fr g L s.heap m) (N : News g L s.heap news) (hl : (l, PySem.W.listOf #[.str (Str.ofString "print-success") t1, .str (Str.ofString "reproducible-resource-limit") t2, .str (Str.ofString "verbosity") t3] n) ∈ news) (hx : x ∈ namesL)
    (h : Q (.bool (earlyL.any fun y => y == x)) s) : wpAny (model PySem.Challenge.rw_nz0133_01.row.prog w) A (compareOp .NotIn (.str x tx) (.ref l)) Q E s :=
  notin_list_strs (ys := lateL) (N.isList hl) (.cons _ _ (.cons _ _ (.cons _ _ .nil))) (by rw [late_early x hx]; exact h)
end

section
variable {w : World} {mean : ExcName → Option Value} {mg mb : Str → Option Value} {dp un : Nat} {gd : Option (List Code)} {cn : Str} {cs : Scope} {a : Addr} {ccd : Value} {cl : List (Str × Addr)} {outer : List Env} {A₀ : Around} {base h₀ : Heap} {L : Addr} {m : Str → Option Value} {led : List (Addr × Obj)} {G : Obj → List (Addr × Obj)} {s : Shared} {Q E : Value → Shared → Prop}

theorem sayDueb : True := by
  k_with "compareOp In str ref" => (k_here; (with_reducible show wpAny _ _ (compareOp CmpOp.In _ (Value.ref 147)) _ _ _); first | (k_dflt (first | (refine' in_flags_T ?Xq0 ?Fq0 ?hxq0 ?_; (case Xq0 => assumption); (case Fq0 => assumption); (case hxq0 => with_reducible assumption)) | (refine' in_flags_F ?Xq0 ?Fq0 ?hxq0 ?_; (case Xq0 => assumption); (case Fq0 => assumption); (case hxq0 => with_reducible assumption)))) | (k_dflt (first | (refine' in_flags_T ?Xq1 ?Fq1 ?hxq1 ?_; (case Xq1 => assumption); (case Fq1 => assumption); (case hxq1 => with_reducible assumption)) | (refine' in_flags_F ?Xq1 ?Fq1 ?hxq1 ?_; (case Xq1 => assumption); (case Fq1 => assumption); (case hxq1 => with_reducible assumption)))))
  exact True.intro
theorem late_call (B : Below A₀ base outer h₀) (F : Fr h₀ L s.heap m) (X : (hd.heap_39 w.params).In h₀) (T : Top hd.view_39 LS mean mg mb h₀) (hk : cs.kind = .function)
    (hdp : dp + 2 < recursionLimit) (hu : un + 20 < cLine) (NL : News h₀ L s.heap led)
    (hret : ∀ l n t1 t2 t3 h' tk', Fr h₀ L h' m → News h₀ L h' ((l, PySem.W.listOf #[.str (Str.ofString "print-success") t1, .str (Str.ofString "reproducible-resource-limit") t2, .str (Str.ofString "verbosity") t3] n) :: led) → (∀ p ∈ led, @Ne Nat p.1 l) → Q (.ref l) { s with heap := h', toks := tk' }) :
    wpAny (model PySem.Challenge.rw_nz0133_01.row.prog w) (ktrTop dp un gd cn cs L a ccd cl outer) (call (.ref 155) []) Q E s := by
  have hmu : ∀ p ∈ ([] : List (Addr × Obj)), p ∈ led := fun _ h => nomatch h
  refine wpAny_call ?_
  k_dflt (k_extra "ktr_enter")
  k_steps
  exact hret _ _ _ _ _ _ _ (by assumption) (led_new1 NL hmu (by assumption) (List.forall_mem_nil _) (by assumption) (by assumption)) (new_ne (by assumption) (by assumption) (List.forall_mem_nil _))

theorem sayDuec : True := by
  k_with "call ref" => (k_here; (with_reducible show wpAny _ _ (call (Value.ref 155) _) _ _ _); first | (k_dflt (refine' late_call ?Bq0 ?Fq0 ?Xq0 ?Tq0 ?hkq0 ?hdq0 ?huq0 ?NLq0 ?_; (case Bq0 => ktr_unf); (case Fq0 => ktr_unf); (case Xq0 => ktr_unf); (case Tq0 => ktr_unf); (case hkq0 => ktr_unf); (case hdq0 => ktr_unf); (case huq0 => ktr_unf); (case NLq0 => ktr_unf); k_whole); intro l9 n9 t91 t92 t93 h9 tk9 F9 N9 ne9; (try (replace ne9 := allNe_of ne9; simp only [AllNe, and_true] at ne9)); (try dsimp only); (try k_fold)) | (k_dflt (refine' late_call ?Bq1 ?Fq1 ?Xq1 ?Tq1 ?hkq1 ?hdq1 ?huq1 ?NLq1 ?_; (case Bq1 => ktr_unf); (case Fq1 => ktr_unf); (case Xq1 => ktr_unf); (case Tq1 => ktr_unf); (case hkq1 => ktr_unf); (case hdq1 => ktr_unf); (case huq1 => ktr_unf); (case NLq1 => ktr_unf); k_whole); intro l9 n9 t91 t92 t93 h9 tk9 F9 N9 ne9; (try (replace ne9 := allNe_of ne9; simp only [AllNe, and_true] at ne9)); (try dsimp only); (try k_fold)))
  k_with "compareOp NotIn str ref" => (k_here; first | (k_dflt (refine' notin_late ?Fq0 ?Nq0 ?hlq0 ?hxq0 ?_; (case Fq0 => k_asm); (case Nq0 => k_asm); (case hlq0 => k_mem); (case hxq0 => with_reducible assumption))) | (k_dflt (refine' notin_late ?Fq1 ?Nq1 ?hlq1 ?hxq1 ?_; (case Fq1 => k_asm); (case Nq1 => k_asm); (case hlq1 => k_mem); (case hxq1 => with_reducible assumption))))
  k_with "compareOp NotIn" => (k_here; first | (k_dflt (first | (refine' item_notin_T ?Nq0 ?hiq0 ?hDq0 ?h1q0 ?h2q0 ?huq0 ?hfq0 ?_; (case Nq0 => k_asm); (case hDq0 => k_mem); (case h1q0 => k_mem); (case h2q0 => k_mem); (case huq0 => ktr_units); (case hfq0 => with_reducible assumption); (case hiq0 => exact Itm.At.sub3 (by with_reducible assumption) (by k_mem) (by k_mem) (by k_mem))) | (refine' sym_notin ?Nq0 ?hyq0 ?hiq0 ?hDq0 ?h1q0 ?h2q0 ?huq0 ?_; (case Nq0 => k_asm); (case hDq0 => k_mem); (case h1q0 => k_mem); (case h2q0 => k_mem); (case hiq0 => k_mem); (case huq0 => ktr_units); (case hyq0 => with_reducible assumption)))) | (k_dflt (first | (refine' item_notin_T ?Nq1 ?hiq1 ?hDq1 ?h1q1 ?h2q1 ?huq1 ?hfq1 ?_; (case Nq1 => k_asm); (case hDq1 => k_mem); (case h1q1 => k_mem); (case h2q1 => k_mem); (case huq1 => ktr_units); (case hfq1 => with_reducible assumption); (case hiq1 => exact Itm.At.sub3 (by with_reducible assumption) (by k_mem) (by k_mem) (by k_mem))) | (refine' sym_notin ?Nq1 ?hyq1 ?hiq1 ?hDq1 ?h1q1 ?h2q1 ?huq1 ?_; (case Nq1 => k_asm); (case hDq1 => k_mem); (case h1q1 => k_mem); (case h2q1 => k_mem); (case hiq1 => k_mem); (case huq1 => ktr_units); (case hyq1 => with_reducible assumption)))))
  exact True.intro
theorem due_flagN {x : Str} {tx : Tok} {bg : Bool} {v : Value} {it : Itm} {a1 a2 a3 : Nat} {o1 o2 o3 : Obj}
    (B : Below A₀ base outer h₀) (F : Fr h₀ L s.heap m) (X : (hd.heap_39 w.params).In h₀) (T : Top hd.view_39 LS mean mg mb h₀) (hk : cs.kind = .function)
    (hdp : dp + 10 < recursionLimit) (hu : un + 300 < cLine) (NL : News h₀ L s.heap led) (hx : x ∈ flagsL) (hn : x ∈ namesL) (hi : it.At [(a1, o1), (a2, o2), (a3, o3)] v) (h4 : (a1, o1) ∈ led) (h5 : (a2, o2) ∈ led) (h6 : (a3, o3) ∈ led) (hf : it.flag = none)
    (hret : ∀ ra t h' tk', Fr h₀ L h' m → News h₀ L h' ((ra, tupO [.none, .str (Str.ofString "true or false") t]) :: led) → (∀ p ∈ led, @Ne Nat p.1 ra) → Q (.ref ra) { s with heap := h', toks := tk' }) :
    wpAny (model PySem.Challenge.rw_nz0133_01.row.prog w) (ktrTop dp un gd cn cs L a ccd cl outer) (call (.ref 176) [.str x tx, v, .bool bg]) Q E s := by
  have hmu : ∀ p ∈ [(a1, o1), (a2, o2), (a3, o3)], p ∈ led := List.forall_mem_cons.mpr ⟨h4, List.forall_mem_cons.mpr ⟨h5, List.forall_mem_singleton.mpr h6⟩⟩
  refine wpAny_call ?_
  k_dflt (k_extra "ktr_enter")
  k_steps
  all_goals exact hret _ _ _ _ (by assumption) (led_new1 NL hmu (by assumption) (by k_sub) (by assumption) (by assumption)) (new_ne (by assumption) (by assumption) (by (refine allNe_all ?_); first | exact trivial | ((simp only [AllNe, and_true]); omega)))

theorem due_flagT {x : Str} {tx : Tok} {bg : Bool} {a1 : Nat} {y : Str} {t5 t6 : Tok}
    (B : Below A₀ base outer h₀) (F : Fr h₀ L s.heap m) (X : (hd.heap_39 w.params).In h₀) (T : Top hd.view_39 LS mean mg mb h₀) (hk : cs.kind = .function)
    (hdp : dp + 10 < recursionLimit) (hu : un + 300 < cLine) (NL : News h₀ L s.heap led) (hx : x ∈ flagsL) (hn : x ∈ namesL) (h4 : (a1, tupO [.str sy t5, .str y t6]) ∈ led) (hy : y = tru ∨ y = fls)
    (hret : ∀ ra t h' tk', Fr h₀ L h' m → News h₀ L h' ((ra, tupO [.bool (y == tru), .str (if bg && (earlyL.any fun y => y == x) then Str.ofString "first of all" else Str.ofString "") t]) :: led) → (∀ p ∈ led, @Ne Nat p.1 ra) → Q (.ref ra) { s with heap := h', toks := tk' }) :
    wpAny (model PySem.Challenge.rw_nz0133_01.row.prog w) (ktrTop dp un gd cn cs L a ccd cl outer) (call (.ref 176) [.str x tx, .ref a1, .bool bg]) Q E s := by
  have hmu : ∀ p ∈ [(a1, tupO [.str sy t5, .str y t6])], p ∈ led := List.forall_mem_singleton.mpr h4
  refine wpAny_call ?_
  k_dflt (k_extra "ktr_enter")
  k_steps
  · have e9 : (if bg && (earlyL.any fun y => y == x) then Str.ofString "first of all" else Str.ofString "") = Str.ofString "first of all" := by
      rw [show bg = true by assumption, show (earlyL.any fun y => y == x) = true by assumption]; rfl
    rw [e9] at hret
    exact hret _ _ _ _ (by assumption) (led_new1 NL hmu (by assumption) (by k_sub) (by assumption) (by assumption)) (new_ne (by assumption) (by assumption) (by (refine allNe_all ?_); first | exact trivial | ((simp only [AllNe, and_true]); omega)))
  · have e9 : (if bg && (earlyL.any fun y => y == x) then Str.ofString "first of all" else Str.ofString "") = Str.ofString "" := by
      rw [show bg = true by assumption, show (earlyL.any fun y => y == x) = false by assumption]; rfl
    rw [e9] at hret
    exact hret _ _ _ _ (by assumption) (led_new1 NL hmu (by assumption) (by k_sub) (by assumption) (by assumption)) (new_ne (by assumption) (by assumption) (by (refine allNe_all ?_); first | exact trivial | ((simp only [AllNe, and_true]); omega)))
  · have e9 : (if bg && (earlyL.any fun y => y == x) then Str.ofString "first of all" else Str.ofString "") = Str.ofString "" := by
      rw [show bg = false by assumption]; rfl
    rw [e9] at hret
    exact hret _ _ _ _ (by assumption) (led_new1 NL hmu (by assumption) (by k_sub) (by assumption) (by assumption)) (new_ne (by assumption) (by assumption) (by (refine allNe_all ?_); first | exact trivial | ((simp only [AllNe, and_true]); omega)))

theorem due_countN {x : Str} {tx : Tok} {bg : Bool} 
    (B : Below A₀ base outer h₀) (F : Fr h₀ L s.heap m) (X : (hd.heap_39 w.params).In h₀) (T : Top hd.view_39 LS mean mg mb h₀) (hk : cs.kind = .function)
    (hdp : dp + 10 < recursionLimit) (hu : un + 300 < cLine) (NL : News h₀ L s.heap led) (hx : x ∈ countsL) (hn : x ∈ namesL)
    (hret : ∀ ra t h' tk', Fr h₀ L h' m → News h₀ L h' ((ra, tupO [.none, .str (Str.ofString "a numeral") t]) :: led) → (∀ p ∈ led, @Ne Nat p.1 ra) → Q (.ref ra) { s with heap := h', toks := tk' }) :
    wpAny (model PySem.Challenge.rw_nz0133_01.row.prog w) (ktrTop dp un gd cn cs L a ccd cl outer) (call (.ref 176) [.str x tx, .none, .bool bg]) Q E s := by
  have hmu : ∀ p ∈ ([] : List (Addr × Obj)), p ∈ led := List.forall_mem_nil _
  refine wpAny_call ?_
  k_dflt (k_extra "ktr_enter")
  k_steps
  all_goals exact hret _ _ _ _ (by assumption) (led_new1 NL hmu (by assumption) (List.forall_mem_nil _) (by assumption) (by assumption)) (new_ne (by assumption) (by assumption) (by (refine allNe_all ?_); first | exact trivial | ((simp only [AllNe, and_true]); omega)))

theorem due_countK {x : Str} {tx : Tok} {bg : Bool} {a1 : Nat} {k : Str} {t5 : Tok} {v2 : Value}
    (B : Below A₀ base outer h₀) (F : Fr h₀ L s.heap m) (X : (hd.heap_39 w.params).In h₀) (T : Top hd.view_39 LS mean mg mb h₀) (hk : cs.kind = .function)
    (hdp : dp + 10 < recursionLimit) (hu : un + 300 < cLine) (NL : News h₀ L s.heap led) (hx : x ∈ countsL) (hn : x ∈ namesL) (h4 : (a1, tupO [.str k t5, v2]) ∈ led) (hkn : (k == Str.ofString "num") = false)
    (hret : ∀ ra t h' tk', Fr h₀ L h' m → News h₀ L h' ((ra, tupO [.none, .str (Str.ofString "a numeral") t]) :: led) → (∀ p ∈ led, @Ne Nat p.1 ra) → Q (.ref ra) { s with heap := h', toks := tk' }) :
    wpAny (model PySem.Challenge.rw_nz0133_01.row.prog w) (ktrTop dp un gd cn cs L a ccd cl outer) (call (.ref 176) [.str x tx, .ref a1, .bool bg]) Q E s := by
  have hmu : ∀ p ∈ [(a1, tupO [.str k t5, v2])], p ∈ led := List.forall_mem_singleton.mpr h4
  refine wpAny_call ?_
  k_dflt (k_extra "ktr_enter")
  k_steps
  · exact hret _ _ _ _ (by assumption) (led_new1 NL hmu (by assumption) (by k_sub) (by assumption) (by assumption)) (new_ne (by assumption) (by assumption) (by (refine allNe_all ?_); first | exact trivial | ((simp only [AllNe, and_true]); omega)))
  · rename (k != Str.ofString "num") = false => q9
    rw [bne, hkn] at q9; cases q9

theorem due_countI {x : Str} {tx : Tok} {bg : Bool} {a1 : Nat} {j : Int} {t5 t6 : Tok}
    (B : Below A₀ base outer h₀) (F : Fr h₀ L s.heap m) (X : (hd.heap_39 w.params).In h₀) (T : Top hd.view_39 LS mean mg mb h₀) (hk : cs.kind = .function)
    (hdp : dp + 10 < recursionLimit) (hu : un + 300 < cLine) (NL : News h₀ L s.heap led) (hx : x ∈ countsL) (hn : x ∈ namesL) (h4 : (a1, tupO [.str (Str.ofString "num") t5, .int j t6]) ∈ led)
    (hbad : j < 0 → ∀ ra t h' tk', Fr h₀ L h' m → News h₀ L h' ((ra, tupO [.none, .str (Str.ofString "a numeral") t]) :: led) → (∀ p ∈ led, @Ne Nat p.1 ra) → Q (.ref ra) { s with heap := h', toks := tk' })
    (hret : 0 ≤ j → ∀ ra t h' tk', Fr h₀ L h' m → News h₀ L h' ((ra, tupO [.int j t6, .str (if bg && (earlyL.any fun y => y == x) then Str.ofString "first of all" else Str.ofString "") t]) :: led) → (∀ p ∈ led, @Ne Nat p.1 ra) → Q (.ref ra) { s with heap := h', toks := tk' }) :
    wpAny (model PySem.Challenge.rw_nz0133_01.row.prog w) (ktrTop dp un gd cn cs L a ccd cl outer) (call (.ref 176) [.str x tx, .ref a1, .bool bg]) Q E s := by
  have hmu : ∀ p ∈ [(a1, tupO [.str (Str.ofString "num") t5, .int j t6])], p ∈ led := List.forall_mem_singleton.mpr h4
  refine wpAny_call ?_
  k_dflt (k_extra "ktr_enter")
  k_steps
  · exact hbad (by assumption) _ _ _ _ (by assumption) (led_new1 NL hmu (by assumption) (by k_sub) (by assumption) (by assumption)) (new_ne (by assumption) (by assumption) (by (refine allNe_all ?_); first | exact trivial | ((simp only [AllNe, and_true]); omega)))
  · have e9 : (if bg && (earlyL.any fun y => y == x) then Str.ofString "first of all" else Str.ofString "") = Str.ofString "first of all" := by
      rw [show bg = true by assumption, show (earlyL.any fun y => y == x) = true by assumption]; rfl
    rw [e9] at hret
    exact hret (by omega) _ _ _ _ (by assumption) (led_new1 NL hmu (by assumption) (by k_sub) (by assumption) (by assumption)) (new_ne (by assumption) (by assumption) (by (refine allNe_all ?_); first | exact trivial | ((simp only [AllNe, and_true]); omega)))
  · have e9 : (if bg && (earlyL.any fun y => y == x) then Str.ofString "first of all" else Str.ofString "") = Str.ofString "" := by
      rw [show bg = true by assumption, show (earlyL.any fun y => y == x) = false by assumption]; rfl
    rw [e9] at hret
    exact hret (by omega) _ _ _ _ (by assumption) (led_new1 NL hmu (by assumption) (by k_sub) (by assumption) (by assumption)) (new_ne (by assumption) (by assumption) (by (refine allNe_all ?_); first | exact trivial | ((simp only [AllNe, and_true]); omega)))
  · have e9 : (if bg && (earlyL.any fun y => y == x) then Str.ofString "first of all" else Str.ofString "") = Str.ofString "" := by
      rw [show bg = false by assumption]; rfl
    rw [e9] at hret
    exact hret (by omega) _ _ _ _ (by assumption) (led_new1 NL hmu (by assumption) (by k_sub) (by assumption) (by assumption)) (new_ne (by assumption) (by assumption) (by (refine allNe_all ?_); first | exact trivial | ((simp only [AllNe, and_true]); omega)))

theorem due_flag {x : Str} {tx : Tok} {bg : Bool} {v : Value} {it : Itm} {a1 a2 a3 : Nat} {o1 o2 o3 : Obj}
    (B : Below A₀ base outer h₀) (F : Fr h₀ L s.heap m) (X : (hd.heap_39 w.params).In h₀) (T : Top hd.view_39 LS mean mg mb h₀) (hk : cs.kind = .function)
    (hdp : dp + 10 < recursionLimit) (hu : un + 300 < cLine) (NL : News h₀ L s.heap led) (hx : x ∈ flagsL) (hn : x ∈ namesL) (hi : it.At [(a1, o1), (a2, o2), (a3, o3)] v) (h4 : (a1, o1) ∈ led) (h5 : (a2, o2) ∈ led) (h6 : (a3, o3) ∈ led)
    (hok : ∀ r, it.flag = some r → (bg && (earlyL.any fun y => y == x)) = false → ∀ ra t h' tk', Fr h₀ L h' m → News h₀ L h' ((ra, tupO [.bool r, .str (Str.ofString "") t]) :: led) → (∀ p ∈ led, @Ne Nat p.1 ra) → Q (.ref ra) { s with heap := h', toks := tk' })
    (hbad : it.flag = none → ∀ ra t h' tk', Fr h₀ L h' m → News h₀ L h' ((ra, tupO [.none, .str (Str.ofString "true or false") t]) :: led) → (∀ p ∈ led, @Ne Nat p.1 ra) → Q (.ref ra) { s with heap := h', toks := tk' })
    (hlate : ∀ r, it.flag = some r → (bg && (earlyL.any fun y => y == x)) = true → ∀ ra t h' tk', Fr h₀ L h' m → News h₀ L h' ((ra, tupO [.bool r, .str (Str.ofString "first of all") t]) :: led) → (∀ p ∈ led, @Ne Nat p.1 ra) → Q (.ref ra) { s with heap := h', toks := tk' }) :
    wpAny (model PySem.Challenge.rw_nz0133_01.row.prog w) (ktrTop dp un gd cn cs L a ccd cl outer) (call (.ref 176) [.str x tx, v, .bool bg]) Q E s := by
  cases hfl : it.flag with
  | none => exact due_flagN B F X T hk hdp hu NL hx hn hi h4 h5 h6 hfl (hbad hfl)
  | some r =>
    cases it with
    | sym y =>
      obtain ⟨hy, ia, t1, t2, rfl, mi⟩ := hi.sub3 h4 h5 h6
      have hyy : (y = tru ∨ y = fls) ∧ (y == tru) = r := by
        simp only [Itm.flag] at hfl
        by_cases e1 : y = tru
        · rw [if_pos e1] at hfl; exact ⟨.inl e1, by rw [e1]; cases hfl; decide +kernel⟩
        · rw [if_neg e1] at hfl
          by_cases e2 : y = fls
          · rw [if_pos e2] at hfl; exact ⟨.inr e2, by rw [e2]; cases hfl; decide +kernel⟩
          · rw [if_neg e2] at hfl; cases hfl
      refine due_flagT B F X T hk hdp hu NL hx hn mi hyy.1 ?_
      rw [hyy.2]
      cases hc : (bg && (earlyL.any fun y => y == x)) with
      | true => exact fun ra t => hlate r hfl hc ra t
      | false => exact fun ra t => hok r hfl hc ra t
    | none | num | dec | txt | lst => cases hfl

theorem due_count {x : Str} {tx : Tok} {bg : Bool} {v : Value} {it : Itm} {a1 a2 a3 : Nat} {o1 o2 o3 : Obj}
    (B : Below A₀ base outer h₀) (F : Fr h₀ L s.heap m) (X : (hd.heap_39 w.params).In h₀) (T : Top hd.view_39 LS mean mg mb h₀) (hk : cs.kind = .function)
    (hdp : dp + 10 < recursionLimit) (hu : un + 300 < cLine) (NL : News h₀ L s.heap led) (hx : x ∈ countsL) (hn : x ∈ namesL) (hi : it.At [(a1, o1), (a2, o2), (a3, o3)] v) (h4 : (a1, o1) ∈ led) (h5 : (a2, o2) ∈ led) (h6 : (a3, o3) ∈ led)
    (hok : ∀ r, it.count = some r → (bg && (earlyL.any fun y => y == x)) = false → ∀ ra t ti h' tk', Fr h₀ L h' m → News h₀ L h' ((ra, tupO [.int r ti, .str (Str.ofString "") t]) :: led) → (∀ p ∈ led, @Ne Nat p.1 ra) → Q (.ref ra) { s with heap := h', toks := tk' })
    (hbad : it.count = none → ∀ ra t h' tk', Fr h₀ L h' m → News h₀ L h' ((ra, tupO [.none, .str (Str.ofString "a numeral") t]) :: led) → (∀ p ∈ led, @Ne Nat p.1 ra) → Q (.ref ra) { s with heap := h', toks := tk' })
    (hlate : ∀ r, it.count = some r → (bg && (earlyL.any fun y => y == x)) = true → ∀ ra t ti h' tk', Fr h₀ L h' m → News h₀ L h' ((ra, tupO [.int r ti, .str (Str.ofString "first of all") t]) :: led) → (∀ p ∈ led, @Ne Nat p.1 ra) → Q (.ref ra) { s with heap := h', toks := tk' }) :
    wpAny (model PySem.Challenge.rw_nz0133_01.row.prog w) (ktrTop dp un gd cn cs L a ccd cl outer) (call (.ref 176) [.str x tx, v, .bool bg]) Q E s := by
  have hi' := hi.sub3 h4 h5 h6
  cases it with
  | none => obtain rfl := hi; exact due_countN B F X T hk hdp hu NL hx hn (hbad rfl)
  | sym y => obtain ⟨hy, ia, t1, t2, rfl, mi⟩ := hi'; exact due_countK B F X T hk hdp hu NL hx hn mi (by decide +kernel) (hbad rfl)
  | num i =>
    obtain ⟨ia, t1, t2, rfl, mi⟩ := hi'
    refine due_countI B F X T hk hdp hu NL hx hn mi (fun q => hbad ?_) (fun q => ?_)
    · simp only [Itm.count]; rw [if_pos q]
    · have hfl : (Itm.num i).count = some i := by simp only [Itm.count]; rw [if_neg (by omega)]
      cases hc : (bg && (earlyL.any fun y => y == x)) with
      | true => exact fun ra t => hlate i hfl hc ra t _
      | false => exact fun ra t => hok i hfl hc ra t _
  | txt => obtain ⟨ia, t1, t2, rfl, mi⟩ := hi'; exact due_countK B F X T hk hdp hu NL hx hn mi (by decide +kernel) (hbad rfl)
  | dec i => obtain ⟨ia, ib, t1, t2, t3, rfl, mi, mb⟩ := hi'; exact due_countK B F X T hk hdp hu NL hx hn mi (by decide +kernel) (hbad rfl)
  | lst => obtain ⟨ia, ib, ic, t1, t2, t3, rfl, mi, mb, mc⟩ := hi'; exact due_countK B F X T hk hdp hu NL hx hn mi (by decide +kernel) (hbad rfl)
end
end

section
theorem freshCells : True := by
  w_top off
  k_with_none
  exact True.intro
open PySem PySem.W PyProof.Rows PyProof.V PySem.Calls PySem.Spec
set_option maxRecDepth 100000
set_option maxHeartbeats 400000
section
variable {prog : Program} {w : World} {A₀ A : Around} {s : Shared} {base h₀ : Heap} {outer : List Env} {L a : Addr} {m mg mb : Str → Option Value} {env : Env} {led mu : List (Addr × Obj)} {K : Frag} {p : Program} {loose : List Str} {mean : ExcName → Option Value} {cn : Str} {cs : Scope} {ccd : Value}
  {R : Result → Shared → Prop} {name qual : Str} {params : Arguments} {body : List Stmt} {scope : Scope} {dV kV doc pm cdv ct oc : Value} {an od : Option Addr} {osl : Array (Option Value)} {f : Addr} {args : Args} {binds : List (Str × Value)}

/-- a def with cells, called with a part of the ledger -/
theorem code_cellsL (B : Below A₀ base outer h₀) (F : Fr h₀ L s.heap m) (X₀ : K.In h₀) (NL : News h₀ L s.heap led) (hmu : ∀ p ∈ mu, p ∈ led) (T : Top p loose mean mg mb h₀)
    (hA : A.frames = some (env :: outer)) (hf : env.frame = some L) (hke : env.scope.kind = .function)
    (ho : K.lookup f = some ⟨oc, od, .func (fnOf name qual params body scope dV kV doc pm an cdv ct), osl⟩) (hcd : codeIn K cdv qual = true) (hroom : A.depth < recursionLimit)
    (hbind : BindsTo s (fnOf name qual params body scope dV kV doc pm an cdv ct) args binds)
    (hkind : (binds.all fun y => scope.names.lookup y.1 == some .local || scope.names.lookup y.1 == some .cell) = true)
    (hnd : ((cellsFrom 0 scope.names []).map (·.1)).Nodup)
    (h : ∀ g L' h₁ tk cells, Fr h₀ L g m → Fr g L' h₁ (bindL (envOfC qual scope L' f cdv).kindOf binds fun _ => none) → News g L' h₁ (cells ++ mu) →
      CellsAre (bindC (envOfC qual scope L' f cdv).kindOf binds fun _ => none) (cellsFrom (L' + 1) scope.names []) cells → Below A base (env :: outer) g → K.In g → Top p loose mean mg mb g → Frm led mu g → (∀ q ∈ mu, q.1 < L') →
      wpAny (model prog w) (A.deeper (envOfC qual scope L' f cdv)) (execs body (envOfC qual scope L' f cdv))
        (fun fl s' => LeaveK h₀ L m g R (match fl with | .ret v => v | _ => .none) s')
        (fun e s' => wpAny (model prog w) (A.deeper (envOfC qual scope L' f cdv)) (leaving (envOfC qual scope L' f cdv) e) (fun _ s'' => R (.error e) s'') (fun e' s'' => R (.error e') s'') s')
        { s with heap := h₁, toks := tk })
    (hco : scope.isCoroutine = false) (hgen : scope.isGenerator = false) (hk : scope.kind = .function) : codeAny (model prog w) A (.call (.ref f) args) R s := by
  have N : News h₀ L s.heap mu := fun p hp => NL p (hmu p hp)
  have X := X₀.keeps F.keep
  obtain ⟨FG, BG, st, lv⟩ := groundX (R := R) B F N hA hf hke
  refine codeAny_call_function hroom (X _ _ ho) rfl hco hgen rfl (codeRec_of X hcd) (hbind _ _ _ _ ?_)
  refine wpAny_newFunctionEnv_cells hk (kindsX hkind _) fun env' he s' x => ?_
  subst he
  refine ⟨(T.nolimit.keeps F.keep).keeps x.toInCall.keep, codeAny_func ?_⟩
  obtain ⟨h₁, tk, rfl, _⟩ := x.done
  have hk₁ := x.toInCall.keep
  obtain ⟨cells, NC, Y⟩ := Cl.news (h₀ := s.heap) (Nat.le_refl _) fun n c hm => ⟨x.cell n c (lookup_of_mem_nodup (cellsFrom_names scope.names 0 (s.heap.objs.size + 1) [] [] rfl ▸ hnd) hm), x.above n c hm⟩
  have fr : Frm led mu (hideAll s.heap (mu.map (·.1))) := fun q hq hn => hideAll_get _ (NL q hq).1 hn
  refine wpAny_mono (h _ s.heap.objs.size h₁ tk cells FG ⟨x.toInCall.ns, fun b o e => hk₁ b o (of_hideAll _ e), Nat.le_of_eq (hideAll_size _ _)⟩ (fun p hp => ?_) Y BG (X₀.keeps st) (T.keeps st) fr (fun p hp => Heap.lt_size (N p hp).1)) (fun fl s' hl => lv _ _ hl) fun _ _ y => y
  rcases List.mem_append.mp hp with hp | hp
  · refine ⟨(NC p hp).1, (NC p hp).2.1, ?_⟩
    cases q : (hideAll s.heap (mu.map (·.1))).get? p.1 with
    | none => rfl
    | some o => have := of_hideAll _ q; rw [(NC p hp).2.2] at this; cases this
  · exact ⟨hk₁ _ _ (N p hp).1, Nat.ne_of_lt (Heap.lt_size (N p hp).1), hideAll_none _ (List.mem_map_of_mem hp)⟩

/-- a def with cells that catches what comes out of its own calls, called by the outermost frame with all of the ledger -/
theorem code_cellsS0 (B : Below A₀ base [] h₀) (F : Fr h₀ L s.heap m) (X₀ : K.In h₀) (NL : News h₀ L s.heap led) (hmu : ∀ p ∈ mu, p ∈ led) (T : Top p loose mean mg mb h₀) (hA : A.frames = some [envOf cn cs L a ccd])
    (ho : K.lookup f = some ⟨oc, od, .func (fnOf name qual params body scope dV kV doc pm an cdv ct), osl⟩) (hcd : codeIn K cdv qual = true) (hroom : A.depth < recursionLimit)
    (hbind : BindsTo s (fnOf name qual params body scope dV kV doc pm an cdv ct) args binds)
    (hkind : (binds.all fun y => scope.names.lookup y.1 == some .local || scope.names.lookup y.1 == some .cell) = true)
    (hnd : ((cellsFrom 0 scope.names []).map (·.1)).Nodup)
    (h : ∀ g L' h₁ tk cells, Fr h₀ L g m → Fr g L' h₁ (bindL (envOfC qual scope L' f cdv).kindOf binds fun _ => none) → News g L' h₁ (cells ++ mu) →
      CellsAre (bindC (envOfC qual scope L' f cdv).kindOf binds fun _ => none) (cellsFrom (L' + 1) scope.names []) cells → Below A base [envOf cn cs L a ccd] g → K.In g → Top p loose mean mg mb g → KtsDicts ([envOf cn cs L a ccd].filterMap (·.frame)) g → Frm led mu g → (∀ q ∈ mu, q.1 < L') →
      wpAny (model prog w) (A.deeper (envOfC qual scope L' f cdv)) (execs body (envOfC qual scope L' f cdv))
        (fun fl s' => LeaveS0 ([envOf cn cs L a ccd].filterMap (·.frame)) h₀ L m g R (match fl with | .ret v => v | _ => .none) s')
        (fun e s' => wpAny (model prog w) (A.deeper (envOfC qual scope L' f cdv)) (leaving (envOfC qual scope L' f cdv) e) (fun _ s'' => R (.error e) s'') (fun e' s'' => R (.error e') s'') s')
        { s with heap := h₁, toks := tk })
    (hck : cs.kind = .function) (hco : scope.isCoroutine = false) (hgen : scope.isGenerator = false) (hk : scope.kind = .function) : codeAny (model prog w) A (.call (.ref f) args) R s := by
  have N : News h₀ L s.heap mu := fun p hp => NL p (hmu p hp)
  have fr : Frm led mu (hideAll s.heap (mu.map (·.1))) := fun q hq hn => hideAll_get _ (NL q hq).1 hn
  have X := X₀.keeps F.keep
  refine codeAny_call_function hroom (X _ _ ho) rfl hco hgen rfl (codeRec_of X hcd) (hbind _ _ _ _ ?_)
  refine wpAny_newFunctionEnv_cells hk (kindsX hkind _) fun env' he s' x => ?_
  subst he
  refine ⟨(T.nolimit.keeps F.keep).keeps x.toInCall.keep, codeAny_func ?_⟩
  obtain ⟨h₁, tk, rfl, _⟩ := x.done
  have hk₁ := x.toInCall.keep
  obtain ⟨cells, NC, Y⟩ := Cl.news (h₀ := s.heap) (Nat.le_refl _) fun n c hm => ⟨x.cell n c (lookup_of_mem_nodup (cellsFrom_names scope.names 0 (s.heap.objs.size + 1) [] [] rfl ▸ hnd) hm), x.above n c hm⟩
  obtain ⟨oL, es, ep, hLg, hLd, hN, hNs, st, B₂⟩ := kts_enter B F N hA hck
  refine wpAny_mono (h _ s.heap.objs.size h₁ tk cells ⟨hN _ hLg, st, F.above⟩ ⟨x.toInCall.ns, fun b o e => hk₁ b o (of_hideAll _ e), Nat.le_of_eq (hideAll_size _ _)⟩ (fun p hp => ?_) Y B₂ (X₀.keeps st) (T.keeps st) (fun b hb => by
      rcases kts_mem hb with rfl | z
      · exact ⟨oL, es, ep, hLg, hLd⟩
      · simp at z) fr (fun p hp => Heap.lt_size (N p hp).1)) (fun fl s' hl => ?_) fun _ _ y => y
  · rcases List.mem_append.mp hp with hp | hp
    · refine ⟨(NC p hp).1, (NC p hp).2.1, ?_⟩
      cases q : (hideAll s.heap (mu.map (·.1))).get? p.1 with
      | none => rfl
      | some o => have := of_hideAll _ q; rw [(NC p hp).2.2] at this; cases this
    · exact ⟨hk₁ _ _ (N p hp).1, Nat.ne_of_lt (Heap.lt_size (N p hp).1), hideAll_none _ (List.mem_map_of_mem hp)⟩
  obtain ⟨g', L', m', news', T', F', N', k⟩ := hl
  have nL₀ : h₀.get? L = none := kts_self F
  obtain ⟨sl, hs⟩ := T'.up hLg
  refine k ⟨hNs sl _ (F'.keep _ _ hs), fun b o e => F'.keep b o (T'.other b o (st b o e) (fun q => by
    rcases kts_mem q with z | z
    · rw [z, nL₀] at e
      cases e
    · simp at z)), F.above⟩ fun p hp => ⟨(N' p hp).1, fun q => ?_, ?_⟩
  · have := (N' p hp).2.2; rw [q, hs] at this; cases this
  · cases q : h₀.get? p.1 with
    | none => rfl
    | some o =>
      obtain ⟨sl', hs'⟩ := T'.up (st _ _ q)
      have := (N' p hp).2.2
      rw [hs'] at this
      cases this
end
section
variable {h₀ h h' g g' : Heap} {L L' : Addr} {m' : Str → Option Value} {led mu mu' : List (Addr × Obj)}
theorem fr_turn (NL : News h₀ L h led) (fr : Frm led mu g) (T : KtsTurn [L] g g') : Frm led mu g' := fun q hq hn => T.other _ _ (fr q hq hn) (by
  simp only [List.mem_singleton]
  exact (NL q hq).2.1)
end
end

section
theorem freshLPut : True := by
  w_top off
  k_with_none
  exact True.intro
open PySem PySem.W PyProof.Rows PyProof.V PySem.Calls PySem.Spec
set_option maxRecDepth 100000
set_option maxHeartbeats 400000
local macro_rules | `(tactic| ktr_unf) => `(tactic| first | k_asm | exact rfl | k_mem | ktr_room | ktr_units | k_updF | omega)

section
variable {w : World} {mean : ExcName → Option Value} {mg mb : Str → Option Value} {dp un : Nat} {gd : Option (List Code)} {cn : Str} {cs : Scope} {a : Addr} {ccd : Value} {cl : List (Str × Addr)} {outer : List Env} {A₀ : Around} {base h₀ : Heap} {L : Addr} {m : Str → Option Value} {led : List (Addr × Obj)} {G : Obj → List (Addr × Obj)} {s : Shared} {Q E : Value → Shared → Prop}

theorem sayLPuta : True := by
  k_with_none
  k_with "ktr_enter" => (first | ((refine' code_defL ?k1q0 ?k2q0 ?k3q0 ?k4q0 ?kMq0 ?k5q0 ?kAq0 ?kFq0 ?kKq0 ?k6q0 ?k7q0 ?k8q0 ?k9q0 ?kBq0 ?_ ?c2q0 ?c3q0 ?c4q0 ?c5q0; (case kAq0 => exact rfl); (case kFq0 => exact rfl); (case kKq0 => assumption); (case k1q0 => k_asm); (case k2q0 => k_asm); (case k3q0 => k_asm); (case k4q0 => k_asm); (case kMq0 => assumption); (case k5q0 => k_asm); (case k6q0 => k_is); (case k7q0 => k_is); (case k8q0 => ktr_room); (case k9q0 => exact BindsTo.of_eq rfl); (case c5q0 => decide); (case kBq0 => exact locs rfl); (case c2q0 => exact rfl); (case c3q0 => exact rfl); (case c4q0 => exact rfl); k_whole; intro g' L' h' FG' F' N' B' X' T' fr' l1; (try k_lt l1); (try dsimp only); (try k_fold))) | ((refine' code_defL ?k1q1 ?k2q1 ?k3q1 ?k4q1 ?kMq1 ?k5q1 ?kAq1 ?kFq1 ?kKq1 ?k6q1 ?k7q1 ?k8q1 ?k9q1 ?kBq1 ?_ ?c2q1 ?c3q1 ?c4q1 ?c5q1; (case kAq1 => exact rfl); (case kFq1 => exact rfl); (case kKq1 => assumption); (case k1q1 => k_asm); (case k2q1 => k_asm); (case k3q1 => k_asm); (case k4q1 => k_asm); (case kMq1 => assumption); (case k5q1 => k_asm); (case k6q1 => k_is); (case k7q1 => k_is); (case k8q1 => ktr_room); (case k9q1 => exact BindsTo.of_eq rfl); (case c5q1 => decide); (case kBq1 => exact locs rfl); (case c2q1 => exact rfl); (case c3q1 => exact rfl); (case c4q1 => exact rfl); k_whole; intro g' L' h' FG' F' N' B' X' T' fr' l1; (try k_lt l1); (try dsimp only); (try k_fold))))
  k_with "ktr_enter" => (first | ((refine' code_cellsL ?k1q0 ?k2q0 ?k3q0 ?k4q0 ?kMq0 ?k5q0 ?kAq0 ?kFq0 ?kKq0 ?k6q0 ?k7q0 ?k8q0 ?k9q0 ?kBq0 ?kDq0 ?_ ?c2q0 ?c3q0 ?c4q0; (case kAq0 => exact rfl); (case kFq0 => exact rfl); (case kKq0 => assumption); (case k1q0 => k_asm); (case k2q0 => k_asm); (case k3q0 => k_asm); (case k4q0 => k_asm); (case kMq0 => assumption); (case k5q0 => k_asm); (case k6q0 => k_is); (case k7q0 => k_is); (case k8q0 => ktr_room); (case k9q0 => exact BindsTo.of_eq rfl); (case kBq0 => exact rfl); (case kDq0 => decide +kernel); (case c2q0 => exact rfl); (case c3q0 => exact rfl); (case c4q0 => exact rfl); k_whole; intro g' L' h' tk' cells' FG' F' N' Y' B' X' T' fr' l1; (try k_lt l1); k_cells Y'; (try simp only [List.cons_append, List.nil_append] at N'); (try dsimp only); (try k_lift B'); (try k_fold))) | ((refine' code_cellsL ?k1q1 ?k2q1 ?k3q1 ?k4q1 ?kMq1 ?k5q1 ?kAq1 ?kFq1 ?kKq1 ?k6q1 ?k7q1 ?k8q1 ?k9q1 ?kBq1 ?kDq1 ?_ ?c2q1 ?c3q1 ?c4q1; (case kAq1 => exact rfl); (case kFq1 => exact rfl); (case kKq1 => assumption); (case k1q1 => k_asm); (case k2q1 => k_asm); (case k3q1 => k_asm); (case k4q1 => k_asm); (case kMq1 => assumption); (case k5q1 => k_asm); (case k6q1 => k_is); (case k7q1 => k_is); (case k8q1 => ktr_room); (case k9q1 => exact BindsTo.of_eq rfl); (case kBq1 => exact rfl); (case kDq1 => decide +kernel); (case c2q1 => exact rfl); (case c3q1 => exact rfl); (case c4q1 => exact rfl); k_whole; intro g' L' h' tk' cells' FG' F' N' Y' B' X' T' fr' l1; (try k_lt l1); k_cells Y'; (try simp only [List.cons_append, List.nil_append] at N'); (try dsimp only); (try k_lift B'); (try k_fold))))
  k_with "exec Try" => (k_here; (with_reducible show wpAny _ _ (exec (Stmt.Try _ (_ :: _) _ [] _) _) _ _ _); refine wpAny_Try_except ?_)
  k_with "call ref" => (k_here; (with_reducible show wpAny _ _ (call (Value.ref 125) _) _ _ _); first | (k_dflt (first | (refine' put_flag ?Bq0 ?Fq0 ?Xq0 ?Tq0 ?hkq0 ?hdq0 ?huq0 ?NLq0 ?h1q0 ?h2q0 ?h3q0 ?hodq0 ?hfq0 ?loq0 ?hlq0 ?hxq0 ?hiq0 ?h4q0 ?h5q0 ?h6q0 ?hDq0 ?Uq0 ?n1q0 ?n2q0 ?n4q0 ?n5q0 ?n6q0 ?hokq0 ?hbadq0 ?hlateq0; (case hiq0 => with_reducible assumption); (case Bq0 => ktr_unf); (case Fq0 => ktr_unf); (case Xq0 => ktr_unf); (case Tq0 => ktr_unf); (case hkq0 => ktr_unf); (case hdq0 => ktr_unf); (case huq0 => ktr_unf); (case NLq0 => ktr_unf); (case h1q0 => ktr_unf); (case h2q0 => ktr_unf); (case h3q0 => ktr_unf); (case hodq0 => ktr_unf); (case hfq0 => ktr_unf); (case loq0 => ktr_unf); (case hlq0 => ktr_unf); (case hxq0 => ktr_unf); (case h4q0 => ktr_unf); (case h5q0 => ktr_unf); (case h6q0 => ktr_unf); (case hDq0 => ktr_unf); (case Uq0 => ktr_unf); (case n1q0 => ktr_unf); (case n2q0 => ktr_unf); (case n4q0 => ktr_unf); (case n5q0 => ktr_unf); (case n6q0 => ktr_unf)) | (refine' put_count ?Bq0 ?Fq0 ?Xq0 ?Tq0 ?hkq0 ?hdq0 ?huq0 ?NLq0 ?h1q0 ?h2q0 ?h3q0 ?hodq0 ?hfq0 ?loq0 ?hlq0 ?hxq0 ?hiq0 ?h4q0 ?h5q0 ?h6q0 ?hDq0 ?Uq0 ?n1q0 ?n2q0 ?n4q0 ?n5q0 ?n6q0 ?hokq0 ?hbadq0 ?hlateq0; (case hiq0 => with_reducible assumption); (case Bq0 => ktr_unf); (case Fq0 => ktr_unf); (case Xq0 => ktr_unf); (case Tq0 => ktr_unf); (case hkq0 => ktr_unf); (case hdq0 => ktr_unf); (case huq0 => ktr_unf); (case NLq0 => ktr_unf); (case h1q0 => ktr_unf); (case h2q0 => ktr_unf); (case h3q0 => ktr_unf); (case hodq0 => ktr_unf); (case hfq0 => ktr_unf); (case loq0 => ktr_unf); (case hlq0 => ktr_unf); (case hxq0 => ktr_unf); (case h4q0 => ktr_unf); (case h5q0 => ktr_unf); (case h6q0 => ktr_unf); (case hDq0 => ktr_unf); (case Uq0 => ktr_unf); (case n1q0 => ktr_unf); (case n2q0 => ktr_unf); (case n4q0 => ktr_unf); (case n5q0 => ktr_unf); (case n6q0 => ktr_unf))); (case' hokq0 => (k_whole; intro r9 hr9 hn9 od9 kv9 h9 tk9 hod9 hf9 F9 N9; (try dsimp only); (try k_fold))); (case' hbadq0 => (k_whole; intro hn9; intro mu9 G9 e9 t9 dx9 tk9 tx9 h9 tk8 hmu9 F9 fr9 R9 U9; (try dsimp only))); (case' hlateq0 => (k_whole; intro r9 hr9 hb9 hb8; intro mu9 G9 e9 t9 dx9 tk9 tx9 h9 tk8 hmu9 F9 fr9 R9 U9; (try dsimp only)))) | (k_dflt (first | (refine' put_flag ?Bq1 ?Fq1 ?Xq1 ?Tq1 ?hkq1 ?hdq1 ?huq1 ?NLq1 ?h1q1 ?h2q1 ?h3q1 ?hodq1 ?hfq1 ?loq1 ?hlq1 ?hxq1 ?hiq1 ?h4q1 ?h5q1 ?h6q1 ?hDq1 ?Uq1 ?n1q1 ?n2q1 ?n4q1 ?n5q1 ?n6q1 ?hokq1 ?hbadq1 ?hlateq1; (case hiq1 => with_reducible assumption); (case Bq1 => ktr_unf); (case Fq1 => ktr_unf); (case Xq1 => ktr_unf); (case Tq1 => ktr_unf); (case hkq1 => ktr_unf); (case hdq1 => ktr_unf); (case huq1 => ktr_unf); (case NLq1 => ktr_unf); (case h1q1 => ktr_unf); (case h2q1 => ktr_unf); (case h3q1 => ktr_unf); (case hodq1 => ktr_unf); (case hfq1 => ktr_unf); (case loq1 => ktr_unf); (case hlq1 => ktr_unf); (case hxq1 => ktr_unf); (case h4q1 => ktr_unf); (case h5q1 => ktr_unf); (case h6q1 => ktr_unf); (case hDq1 => ktr_unf); (case Uq1 => ktr_unf); (case n1q1 => ktr_unf); (case n2q1 => ktr_unf); (case n4q1 => ktr_unf); (case n5q1 => ktr_unf); (case n6q1 => ktr_unf)) | (refine' put_count ?Bq1 ?Fq1 ?Xq1 ?Tq1 ?hkq1 ?hdq1 ?huq1 ?NLq1 ?h1q1 ?h2q1 ?h3q1 ?hodq1 ?hfq1 ?loq1 ?hlq1 ?hxq1 ?hiq1 ?h4q1 ?h5q1 ?h6q1 ?hDq1 ?Uq1 ?n1q1 ?n2q1 ?n4q1 ?n5q1 ?n6q1 ?hokq1 ?hbadq1 ?hlateq1; (case hiq1 => with_reducible assumption); (case Bq1 => ktr_unf); (case Fq1 => ktr_unf); (case Xq1 => ktr_unf); (case Tq1 => ktr_unf); (case hkq1 => ktr_unf); (case hdq1 => ktr_unf); (case huq1 => ktr_unf); (case NLq1 => ktr_unf); (case h1q1 => ktr_unf); (case h2q1 => ktr_unf); (case h3q1 => ktr_unf); (case hodq1 => ktr_unf); (case hfq1 => ktr_unf); (case loq1 => ktr_unf); (case hlq1 => ktr_unf); (case hxq1 => ktr_unf); (case h4q1 => ktr_unf); (case h5q1 => ktr_unf); (case h6q1 => ktr_unf); (case hDq1 => ktr_unf); (case Uq1 => ktr_unf); (case n1q1 => ktr_unf); (case n2q1 => ktr_unf); (case n4q1 => ktr_unf); (case n5q1 => ktr_unf); (case n6q1 => ktr_unf))); (case' hokq1 => (k_whole; intro r9 hr9 hn9 od9 kv9 h9 tk9 hod9 hf9 F9 N9; (try dsimp only); (try k_fold))); (case' hbadq1 => (k_whole; intro hn9; intro mu9 G9 e9 t9 dx9 tk9 tx9 h9 tk8 hmu9 F9 fr9 R9 U9; (try dsimp only))); (case' hlateq1 => (k_whole; intro r9 hr9 hb9 hb8; intro mu9 G9 e9 t9 dx9 tk9 tx9 h9 tk8 hmu9 F9 fr9 R9 U9; (try dsimp only)))))
  exact True.intro
theorem lput_flag {o dx d nd : Nat} {hsh : Int} {tv tx : Tok} {od : Obj} {kvs : List (Str × Value)} {D : List (PyData × PyData)} {x : Str} {v : Value} {it : Itm} {a1 a2 a3 : Nat} {o1 o2 o3 : Obj} {bg : Bool} {b r : Bool}
    (B : Below A₀ base outer h₀) (F : Fr h₀ L s.heap m) (X : (hd.heap_39 w.params).In h₀) (T : Top hd.view_39 LS mean mg mb h₀) (hk : cs.kind = .function)
    (hdp : dp + 30 < recursionLimit) (hu : un + 500 < cLine) (NL : News h₀ L s.heap led) (h1 : (o, optI dx) ∈ led) (h2 : (dx, optD hsh tv d nd) ∈ led) (h3 : (d, od) ∈ led) (hod : od.IsDictOf (PySem.strKind PySem.Challenge.rw_nz0133_01.row.prog w) kvs) (hf : FlatPairs PyData.str kvs D) (lo : (d == sysModules) = false) (hl : lookup (.str x) D = some (.bool b)) (hx : x.length ≤ 100) (hi : it.At [(a1, o1), (a2, o2), (a3, o3)] v) (h4 : (a1, o1) ∈ led) (h5 : (a2, o2) ∈ led) (h6 : (a3, o3) ∈ led) (hD : D.length ≤ 100) (U : UpdF d od led G) (n1 : @Ne Nat o d) (n2 : @Ne Nat dx d) (n4 : @Ne Nat a1 d) (n5 : @Ne Nat a2 d) (n6 : @Ne Nat a3 d)
    (hr : it.flag = some r) (hnl : (bg && (earlyL.any fun y => y == x)) = false)
    (hok : ∀ od' kvs' tk2 h' tk', od'.IsDictOf (PySem.strKind PySem.Challenge.rw_nz0133_01.row.prog w) kvs' → FlatPairs PyData.str kvs' (putD (.str x) (.bool r) D) → Fr h₀ L h' m → News h₀ L h' (G od') → Q (.str (Str.ofString "") tk2) { s with heap := h', toks := tk' }) :
    wpAny (model PySem.Challenge.rw_nz0133_01.row.prog w) (ktrTop dp un gd cn cs L a ccd cl outer) (call (.ref 181) [.ref o, .str x tx, v, .bool bg]) Q E s := by
  have hmu : ∀ p ∈ [(o, optI dx), (dx, optD hsh tv d nd), (d, od), (a1, o1), (a2, o2), (a3, o3)], p ∈ led := List.forall_mem_cons.mpr ⟨h1, List.forall_mem_cons.mpr ⟨h2, List.forall_mem_cons.mpr ⟨h3, List.forall_mem_cons.mpr ⟨h4, List.forall_mem_cons.mpr ⟨h5, List.forall_mem_singleton.mpr h6⟩⟩⟩⟩⟩
  refine wpAny_call ?_
  k_dflt (k_extra "ktr_enter")
  k_steps
  · rename bg = true => q1
    rename (earlyL.any fun y => y == x) = true => q2
    rw [q1, q2] at hnl; cases hnl
  · rename it.flag = none => q1
    rw [q1] at hr; cases hr
  · rename it.flag = some _ => q1
    obtain rfl := Option.some.inj (hr.symm.trans q1)
    exact hok _ _ _ _ _ (by assumption) (by assumption) (by assumption) (led_upd NL U hmu (by assumption) (.tail _ (.tail _ (.tail _ (.head _)))) (fun p hp hn => .tail _ (swap_mem (A := [(o, optI dx), (dx, optD hsh tv d nd)]) hp hn)) (by simp) (by assumption) (by assumption))

theorem lput_count {o dx d nd : Nat} {hsh : Int} {tv tx : Tok} {od : Obj} {kvs : List (Str × Value)} {D : List (PyData × PyData)} {x : Str} {v : Value} {it : Itm} {a1 a2 a3 : Nat} {o1 o2 o3 : Obj} {bg : Bool} {i r : Int}
    (B : Below A₀ base outer h₀) (F : Fr h₀ L s.heap m) (X : (hd.heap_39 w.params).In h₀) (T : Top hd.view_39 LS mean mg mb h₀) (hk : cs.kind = .function)
    (hdp : dp + 30 < recursionLimit) (hu : un + 500 < cLine) (NL : News h₀ L s.heap led) (h1 : (o, optI dx) ∈ led) (h2 : (dx, optD hsh tv d nd) ∈ led) (h3 : (d, od) ∈ led) (hod : od.IsDictOf (PySem.strKind PySem.Challenge.rw_nz0133_01.row.prog w) kvs) (hf : FlatPairs PyData.str kvs D) (lo : (d == sysModules) = false) (hl : lookup (.str x) D = some (.int i)) (hx : x.length ≤ 100) (hi : it.At [(a1, o1), (a2, o2), (a3, o3)] v) (h4 : (a1, o1) ∈ led) (h5 : (a2, o2) ∈ led) (h6 : (a3, o3) ∈ led) (hD : D.length ≤ 100) (U : UpdF d od led G) (n1 : @Ne Nat o d) (n2 : @Ne Nat dx d) (n4 : @Ne Nat a1 d) (n5 : @Ne Nat a2 d) (n6 : @Ne Nat a3 d)
    (hr : it.count = some r) (hnl : (bg && (earlyL.any fun y => y == x)) = false)
    (hok : ∀ od' kvs' tk2 h' tk', od'.IsDictOf (PySem.strKind PySem.Challenge.rw_nz0133_01.row.prog w) kvs' → FlatPairs PyData.str kvs' (putD (.str x) (.int r) D) → Fr h₀ L h' m → News h₀ L h' (G od') → Q (.str (Str.ofString "") tk2) { s with heap := h', toks := tk' }) :
    wpAny (model PySem.Challenge.rw_nz0133_01.row.prog w) (ktrTop dp un gd cn cs L a ccd cl outer) (call (.ref 181) [.ref o, .str x tx, v, .bool bg]) Q E s := by
  have hmu : ∀ p ∈ [(o, optI dx), (dx, optD hsh tv d nd), (d, od), (a1, o1), (a2, o2), (a3, o3)], p ∈ led := List.forall_mem_cons.mpr ⟨h1, List.forall_mem_cons.mpr ⟨h2, List.forall_mem_cons.mpr ⟨h3, List.forall_mem_cons.mpr ⟨h4, List.forall_mem_cons.mpr ⟨h5, List.forall_mem_singleton.mpr h6⟩⟩⟩⟩⟩
  refine wpAny_call ?_
  k_dflt (k_extra "ktr_enter")
  k_steps
  · rename bg = true => q1
    rename (earlyL.any fun y => y == x) = true => q2
    rw [q1, q2] at hnl; cases hnl
  · rename it.count = none => q1
    rw [q1] at hr; cases hr
  · rename it.count = some _ => q1
    obtain rfl := Option.some.inj (hr.symm.trans q1)
    exact hok _ _ _ _ _ (by assumption) (by assumption) (by assumption) (led_upd NL U hmu (by assumption) (.tail _ (.tail _ (.tail _ (.head _)))) (fun p hp hn => .tail _ (swap_mem (A := [(o, optI dx), (dx, optD hsh tv d nd)]) hp hn)) (by simp) (by assumption) (by assumption))
end
end

section
theorem freshExc7 : True := by
  w_top off
  k_with_none
  exact True.intro
open PySem PySem.W PyProof.Rows PyProof.V PySem.Calls PySem.Spec Builtin
set_option maxRecDepth 100000
set_option maxHeartbeats 400000
section
variable {prog : Program} {w : World} {A₀ : Around} {E : Value → Shared → Prop} {s' : Shared} {base g g₀ G : Heap} {outer : List Env} {L a e t C dx : Addr} {m : Str → Option Value} {name : Str} {scope : Scope} {cd : Value}
  {vs : List Value} {n : Str} {b₀ : Stmt} {suite : List Stmt} {pos np : Pos} {rest : List ExceptHandler} {Q : Flow → Shared → Prop} {led mu : List (Addr × Obj)} {KF : Frag} {hx : Heap} {cl : List (Str × Addr)} {cc : Addr} {oc : Obj} {v₀ : Option Value} {Gc : Obj → List (Addr × Obj)} {od : Obj}
  {p : Program} {loose : List Str} {mean : ExcName → Option Value} {mg mb : Str → Option Value} {x : Str}
/-- the exception, caught by its own class: its dict still hangs on it -/
theorem caught_DC (R : RaisedD base G (envX name scope L a cd cl :: outer) e t dx vs ((dx, od) :: mu) s'.heap) (F : Fr g L G m) (NL : News g L hx led) (hmu : ∀ p ∈ mu, p ∈ led) (fr : Frm led mu G) (K : Below A₀ base outer g) (hsm : G.UpToSlots s'.heap) (XB : KF.In base) (TB : Top p loose mean mg mb base)
    (D : KtsDicts (outer.filterMap (·.frame)) g) (T0 : KtsTurn (outer.filterMap (·.frame)) g₀ g)
    (hcl : cl.lookup n = some cc) (U : UpdF cc oc led Gc) (hoc : oc.data = .cell v₀) (hod : ∀ v, od.data ≠ .cell v) (ex : nsIn KF mainGlobals x = some (some (.ref 60))) (q : ktsIn KF 60 "BaseException" = true)
    (k : ∀ h' g' ws sl oc', KtsTurn (outer.filterMap (·.frame)) g₀ g' → Fr g' L h' m → News g' L h' ((e, ⟨.ref 60, some dx, .fields ws, sl⟩) :: (dx, od) :: Gc oc') → oc'.data = .cell (some (.ref e)) → ws[0]? = some (.ref t) → ws[2]? = some .none → Below A₀ base outer g' → KF.In g' → Top p loose mean mg mb g' → KtsDicts (outer.filterMap (·.frame)) g' →
      wpAny (model prog w) ((A₀.deeper (envX name scope L a cd cl)).mark (some (.ref e))) (execs (b₀ :: suite) (envX name scope L a cd cl))
        (fun f s₄ => wpAny (model prog w) (A₀.deeper (envX name scope L a cd cl)) (do bindName (envX name scope L a cd cl) n .none; unbindBehindTheSuite (envX name scope L a cd cl) n pos) (fun _ s₅ => Q f s₅) E s₄)
        (AsSuiteRaised (model prog w) ((A₀.deeper (envX name scope L a cd cl)).mark (some (.ref e))) (envX name scope L a cd cl) n pos (notedBy (model prog w) ((A₀.deeper (envX name scope L a cd cl)).mark (some (.ref e))) (envX name scope L a cd cl) (cameBackBy (model prog w) (A₀.deeper (envX name scope L a cd cl)) (envX name scope L a cd cl) E)))
        { s' with heap := h' })
    (hk : scope.kind = .function := by rfl) (hlo : (envX name scope L a cd cl).kindOf n = some .cell := by rfl) (hx : (envX name scope L a cd cl).kindOf x = some .globalImplicit := by rfl) (hd : (x == ("__debug__" : Str)) = false := by decide) :
    wpAny (model prog w) (A₀.deeper (envX name scope L a cd cl)) (noteFrame (.ref e) (envX name scope L a cd cl))
      (fun _ s₂ => wpAny (model prog w) (A₀.deeper (envX name scope L a cd cl)) (setFlight (.ref e) none) (fun _ s₃ =>
        wpAny (model prog w) (A₀.deeper (envX name scope L a cd cl)) (handleBy (.ref e) (envX name scope L a cd cl) (.ExceptHandler (some (.Name x np)) (some n) (b₀ :: suite) pos :: rest)) Q E s₃) E s₂) E s' := by
  obtain ⟨⟨⟨B, hB, hBG, hl, hfl, hnew⟩, htup⟩, hdict⟩ := R
  have hl' := raised_rest (name := name) (scope := scope) (a := a) (cd := cd) K hBG (fun q hq => (hl q (.tail _ hq)).1) NL hmu fr
  have hL : B.get? L = none := by
    obtain ⟨_, ⟨L', _, hf, hn', _⟩, _⟩ := hfl.2.2.1
    obtain rfl : L = L' := Option.some.inj hf
    exact hn'
  refine wpAny_mono (mild_any mild_noteFrame (wpAny_looks_onW (Q := fun _ s₁ => ∃ h', s₁ = { s' with heap := h' } ∧ Heap.HeldW B (envX name scope L a cd cl :: outer) e (.ref 60) (.ref t) L h' ∧ s'.heap.UpToSlots h') (Around.frames_deeper K.stack) rfl hfl fun h' a b => ⟨h', rfl, a, b⟩)) ?_ (fun _ _ y => y)
  rintro _ _ ⟨⟨h₄, rfl, hheld₄, hsm₄⟩, d₄⟩
  refine wpAny_mono (mild_any mild_setFlight (wpAny_landsW (s := { s' with heap := h₄ }) (Q := fun _ s₁ => ∃ h', s₁ = { s' with heap := h' } ∧ Heap.FlyingW B (envX name scope L a cd cl :: outer) e (.ref 60) (.ref t) h' ∧ h₄.UpToSlots h') hheld₄ fun h' a b => ⟨h', rfl, a, b⟩)) ?_ (fun _ _ y => y)
  rintro _ _ ⟨⟨h₅, rfl, hheld, hsm₅'⟩, d₅⟩
  have hsm₅ := hsm₄.trans hsm₅'
  obtain ⟨g₅, T₅, F₅, K₅⟩ := kts_ground (name := name) (scope := scope) (a := a) (cd := cd) K F hBG hheld.1 (hsm.trans hsm₅)
  have X₅ : KF.In g₅ := XB.keeps K₅.stays
  have P₅ : TopRead p loose mg mb g₅ := topRead_of (TB.keeps K₅.stays)
  obtain ⟨ob, hob, hobc⟩ := hheld.there
  obtain ⟨nm, q', N, bs, bm, hdct, sn, sub, ab, col, dd, k0, k1, k2, k3, k5, newId, hC, hbase, hbT⟩ := kts_cls X₅ q
  have hC₅ := F₅.keep _ _ hC
  refine wpAny_handleBy_cons (codeAny_handlers_test (nameX_K F₅ X₅ P₅ ex ?_ hk hx hd)) (by intro q; cases q)
  refine wpAny_excMatches_sub_self hC₅ hob hobc hbase (codeAny_handlers_suite_as ?_)
  refine wpAny_mono (mild_any mild_setFlight (lands_againW (s := { s' with heap := h₅ }) (Q := fun _ s₁ => ∃ h', s₁ = { s' with heap := h' } ∧ Heap.FlyingW B (envX name scope L a cd cl :: outer) e (.ref 60) (.ref t) h' ∧ h₅.UpToSlots h') hheld fun h' a b => ⟨h', rfl, a, b⟩)) ?_ (fun _ _ y => y)
  rintro _ _ ⟨⟨h₆, rfl, hfl₆, hsm₆⟩, d₆⟩
  obtain ⟨g₆, T₆, F₆, K₆⟩ := kts_ground (name := name) (scope := scope) (a := a) (cd := cd) K F hBG hfl₆.1 ((hsm.trans hsm₅).trans hsm₆)
  obtain ⟨oe, ws, hoe, hoec, hoed, hoe0⟩ := hfl₆.first
  obtain ⟨oe', hoe', hdx, hf2⟩ := dict_on hdict ((d₄.trans d₅).trans d₆)
  have ne₆ : g₆.get? e = none := T₆.none_ _ (kts_fresh (name := name) (scope := scope) (a := a) (cd := cd) (outer := outer) F hBG hfl₆.2.1 fun o ho m => by
    obtain ⟨_, o', ho', hd⟩ := K.frames.mem m
    rw [ho] at ho'
    cases ho'
    obtain ⟨sl, hs⟩ := ((hsm.trans hsm₅).trans hsm₆) _ _ (F.keep _ _ ho) hd
    rw [hoe] at hs
    cases hs
    exact hd _ hoed)
  obtain rfl : oe = oe' := by
    have := hoe.symm.trans hoe'
    exact Option.some.inj this
  obtain ⟨oc, od', odt, osl⟩ := oe
  dsimp only at hoec hoed hdx
  subst hoec hoed hdx
  have Nl : News g₆ L h₆ ((dx, od) :: led) := fun q hq => by
    have hb : B.get? q.1 = some q.2 := by
      rcases List.mem_cons.mp hq with rfl | hq
      · exact (hl _ (.head _)).1
      · exact hl' q hq
    have hg : g.get? q.1 = none := by
      rcases List.mem_cons.mp hq with rfl | hq
      · exact kts_none F.keep (hl _ (.head _)).2.1
      · exact (NL q hq).2.2
    exact ⟨hfl₆.1 _ _ hb, (fun z => by rw [z, hL] at hb; cases hb), T₆.none_ _ hg⟩
  have N₆ := News.more F₆ Nl hoe (fun es n q => by cases q) ne₆
  have X₆ : KF.In g₆ := XB.keeps K₆.stays
  have P₆ : Top p loose mean mg mb g₆ := TB.keeps K₆.stays
  have D₆ : KtsDicts (outer.filterMap (·.frame)) g₆ := D.turn T₆
  have ce : cc ≠ e := fun q => by
    have x1 := (Nl (cc, oc) (.tail _ (UpdF.mem U))).1
    rw [q, hoe] at x1
    have := congrArg Obj.data (Option.some.inj x1)
    rw [hoc] at this; cases this
  have cd' : cc ≠ dx := fun q => by
    have x1 := hl' (cc, oc) (UpdF.mem U)
    have x2 := (hl (dx, od) (.head _)).1
    dsimp only at x1 x2
    rw [q, x2] at x1
    rw [Option.some.inj x1] at hod
    exact hod _ hoc
  have U' : UpdF cc oc ((e, (⟨.ref 60, some dx, .fields ws, osl⟩ : Obj)) :: (dx, od) :: led) (fun o' => (e, (⟨.ref 60, some dx, .fields ws, osl⟩ : Obj)) :: (dx, od) :: Gc o') := .tail (Ne.symm ce) (.tail (Ne.symm cd') U)
  refine storeX_C F₆ N₆ hcl U' hoc (fun h₇ o' F₇ N₇ d₇ => ?_) hk hlo
  exact k h₇ g₆ _ _ _ (T0.trans T₆) F₇ N₇ d₇ hoe0 hf2 K₆ X₆ P₆ D₆
end
end

section
theorem freshTupH : True := by
  w_top off
  k_with_none
  exact True.intro
open PySem PySem.W PyProof.Rows PyProof.V PySem.Calls PySem.Spec
set_option maxRecDepth 100000
set_option maxHeartbeats 400000
theorem entry_unchain : entryFor table "proto.unchain" = some Builtin.«proto.unchain» := entryFor_of_tree (by kernel_rfl)
/-- the exception in hand has no context -/
noncomputable def NoCtx (h : Heap) (e : Addr) : Prop := ∃ o vs, h.get? e = some o ∧ o.data = .fields vs ∧ vs[2]? = some Value.none
theorem NoCtx.keeps {h h' : Heap} {e : Addr} (x : NoCtx h e) (k : ∀ o, h.get? e = some o → h'.get? e = some o) : NoCtx h' e :=
  let ⟨o, vs, a, b⟩ := x; ⟨o, vs, k _ a, b⟩
section
variable {prog : Program} {w : World} {A : Around} {E : Value → Shared → Prop} {s : Shared} {e : Addr}
theorem next_tuple_endH {it t : Addr} {i : Nat} {items} {Q : Option Value → Shared → Prop} (hh : A.handled = some (.ref e)) (hc : NoCtx s.heap e) (hie : it ≠ e)
    (hit : s.heap.IsTupleIter it t i) (ht : s.heap.IsTuple t items) (hx : items[i]? = none)
    (hQ : ∀ h', Heap.ExtBut it s.heap h' → Q none { s with heap := h' }) : wpAny (model prog w) A (pyNext (.ref it)) Q E s := by
  obtain ⟨o, ho, hcl, hd⟩ := id hit
  obtain ⟨ol, hol, _, nl, hdl⟩ := ht
  obtain ⟨oe, ws, he, hed, he2⟩ := hc
  unfold pyNext
  refine wpAny_bind (wpAny_attempt (wpAny_callSpecial?_slot (name := Str.ofString "__next__") (show s.TypeIs (.ref it) "tuple_iterator" from ⟨o, ho, hcl⟩) slot_tupleiter_next
    (wpAny_call_entry slot_tupleiter_next (show s.TypeIs (.ref it) "tuple_iterator" from ⟨o, ho, hcl⟩) entry_tupleiter_next ?_ (args_tupleiter_next _))))
  show wpAny _ _ (field (.ref it) 0 >>= _) _ _ s
  refine wpAny_bind (wpAny_field ho hd (x := .ref t) rfl ?_)
  show wpAny _ _ (if (Value.ref t == Value.none) = true then _ else _) _ _ s
  rw [if_neg (show ¬ ((Value.ref t == Value.none) = true) from Bool.false_ne_true)]
  show wpAny _ _ (field (.ref it) 1 >>= _) _ _ s
  refine wpAny_bind (wpAny_field ho hd (x := .int i 0) rfl ?_)
  show wpAny _ _ (seqItems? (.ref t) >>= _) _ _ s
  refine wpAny_bind (wpAny_seqItems hol hdl ?_)
  simp only [Int.toNat_natCast, hx]
  refine wpAny_bind (wpAny_rule (wpAny_bind (wpAny_setField ho hd (by simp) ?_)))
  show wpAny _ _ (newExc (.type "StopIteration") [] >>= _) _ _ _
  refine wpAny_bind ?_
  simp only [newExc, newTuple]
  refine wpAny_bind (wpAny_newObj_type ?_ (by size_fits))
  refine wpAny_bind (m := firstArgMember _ _) (wpAny_of_eq (a := Value.none) (by first | rfl | (simp only [firstArgMember]; rfl)) ?_)
  refine wpAny_newObj_type ?_ (by size_fits)
  simp only [raiseNew]
  refine wpAny_bind (wpAny_handled ?_)
  first | rw [show A.in1.handled = some (.ref e) from hh] | rw [hh]
  dsimp only
  have lte : e < s.heap.objs.size := Heap.lt_size he
  have ne : e ≠ ((s.heap.update it (Obj.mapFields fun x => x.setIfInBounds 0 Value.none)).push { cls := Value.type "tuple", data := Data.seq #[] }).objs.size := by
    rw [Heap.size_push, Heap.size_after_update]; exact Nat.ne_of_lt (Nat.lt_succ_of_lt lte)
  generalize hH2 : (s.heap.update it (Obj.mapFields fun x => x.setIfInBounds 0 Value.none)).push { cls := Value.type "tuple", data := Data.seq #[] } = H2 at ne ⊢
  rw [if_pos (by rw [bne_iff_ne]; intro q; injection q with q; exact ne q)]
  have he3 : H2.get? e = some oe := by rw [← hH2]; exact Heap.get?_push_of_some _ ((Heap.get?_update_other _ _ hie).trans he)
  refine wpAny_bind (wpAny_holding (wpAny_runValue (codeAny_builtin entry_unchain ?_)))
  unfold Builtin.«proto.unchain»
  dsimp only
  refine wpAny_bind (wpAny_field (Heap.get?_push_of_some _ he3) hed he2 ?_)
  rw [if_pos (by rfl)]
  refine wpAny_pure (wpAny_bind ?_)
  refine wpAny_setField (i := 2) (Heap.get?_push_size _ rfl) rfl (by rw [Array.size_append]; exact Nat.lt_add_right _ (by simp)) ?_
  refine wpAny_throw ?_
  refine wpAny_bind (wpAny_isInstance (T := "StopIteration") (b := true) ⟨_, Heap.get?_update_self _ (Heap.get?_push_size _ rfl) rfl, rfl⟩ isSubtype_stop ?_)
  refine wpAny_pure (hQ _ fun b ob hb e' => ?_)
  have lb : b < s.heap.objs.size := Heap.lt_size e'
  have nb : H2.objs.size ≠ b := by rw [← hH2, Heap.size_push, Heap.size_after_update]; exact Nat.ne_of_gt (Nat.lt_succ_of_lt lb)
  rw [Heap.get?_update_other _ _ nb]
  refine Heap.get?_push_of_some _ ?_
  rw [← hH2]
  exact Heap.get?_push_of_some _ ((Heap.get?_update_other _ _ (Ne.symm hb)).trans e')

theorem walks_tupleH (hh : A.handled = some (.ref e)) (I ax : Addr) (hne : ax ≠ I) (hIe : I ≠ e) (items : Array Value) :
    Walks prog w A I [I, ax, e] [I] items.size (fun i v => items[i]? = some v) (fun i h => h.IsTupleIter I ax i ∧ h.IsTuple ax items ∧ NoCtx h e) where
  sub := fun b hb => by simp at hb; simp [hb]
  frame := fun _ _ _ st hk => ⟨st.1.at fun o e => hk I (by simp) o e, st.2.1.at fun o e => hk ax (by simp) o e, st.2.2.keeps fun o q => hk e (by simp) o q⟩
  item := fun i s Q E hi st hQ => by
    refine wpAny_pyNext_tuple_item st.1 st.2.1 (x := items[i]) (by simp [hi]) fun h' hit' hs' => ?_
    exact hQ _ h' s.toks (by simp [hi]) ⟨hit', st.2.1.extBut hs'.extBut hne, st.2.2.keeps fun o q => hs'.extBut e o (Ne.symm hIe) q⟩ fun b o hb e => hs'.extBut b o (fun h => hb (by simp [h])) e
  done := fun s Q E st hQ => next_tuple_endH hh st.2.2 hIe st.1 st.2.1 (by simp) fun h' he' => hQ h' s.toks fun b o hb e => he' b o (fun h => hb (by simp [h])) e
  self := fun _ _ _ _ st hQ => wpAny_pyIter_tupleiter st.1 hQ
end
end

section
theorem freshCompH : True := by
  w_top off
  k_with_none
  exact True.intro
open PySem PySem.W PyProof.Rows PyProof.V PySem.Calls PySem.Spec PyProof.Rows.LCg PyProof.Rows.LCt
set_option maxRecDepth 100000
set_option maxHeartbeats 400000
noncomputable def TupIn (ax : Addr) (its : Array Value) (e : Addr) (nw : List (Addr × Obj)) : Prop :=
  (∃ ot n, (ax, ot) ∈ nw ∧ ot.cls = .type "tuple" ∧ ot.data = .seq its n) ∧ ∃ oe ws, (e, oe) ∈ nw ∧ oe.data = .fields ws ∧ ws[2]? = some Value.none
noncomputable def CompSrcTH (prog : Program) (w : World) (A : Around) (h₀ : Heap) (L : Addr) (m : Str → Option Value) (env : Env) (ct elt : Expr) (x : Str) (scope : Scope) (cl : List (Str × Addr)) (Fin : Shared → List Value → List (Addr × Obj) → Prop) (xv : Value) (s₁ : Shared) : Prop :=
  ∃ ax its e news, xv = .ref ax ∧ A.handled = some (.ref e) ∧ Fr h₀ L s₁.heap m ∧ News h₀ L s₁.heap news ∧ TupIn ax its e news ∧ its.size ≤ sizeLine ∧
    ∀ s₂ : Shared, (∃ h, s₂ = { s₁ with heap := h }) → CompRestT prog w A h₀ L m env ct elt x scope cl s₂ (TupIn ax its e) (fun i v => its[i]? = some v) (Fin s₂) its.size 0 [] news
section
variable {prog : Program} {w : World} {A : Around} {E : Value → Shared → Prop} {s : Shared} {h₀ : Heap} {L : Addr} {m : Str → Option Value} {env : Env}
theorem CompSrcTH.ledger {ct elt : Expr} {x : Str} {scope : Scope} {cl : List (Str × Addr)} {Fin : Shared → List Value → List (Addr × Obj) → Prop} {ax e : Addr} {its : Array Value} {k : Nat} {news : List (Addr × Obj)} {s₁ : Shared} {oe : Obj} {ws : Array Value}
    (hh : A.handled = some (.ref e)) (F : Fr h₀ L s₁.heap m) (N : News h₀ L s₁.heap news) (hm : (ax, ({ cls := .type "tuple", data := .seq its k } : Obj)) ∈ news) (he : (e, oe) ∈ news) (hed : oe.data = .fields ws) (he2 : ws[2]? = some .none) (hsz : its.size ≤ sizeLine)
    (h : ∀ g, CompRestT prog w A h₀ L m env ct elt x scope cl { s₁ with heap := g } (TupIn ax its e) (fun i v => its[i]? = some v) (Fin { s₁ with heap := g }) its.size 0 [] news) :
    CompSrcTH prog w A h₀ L m env ct elt x scope cl Fin (.ref ax) s₁ := ⟨ax, its, e, news, rfl, hh, F, N, ⟨⟨_, k, hm, rfl, rfl⟩, oe, ws, he, hed, he2⟩, hsz, fun _ ⟨g, e⟩ => e ▸ h g⟩
theorem ListComp_TH {ct elt iter : Expr} {x : Str} {px : Pos} {scope : Scope} {cl : List (Str × Addr)} {pos : Pos} {Q : Value → Shared → Prop} (F₀ : Fr h₀ L s.heap m)
    (hclos : closureFor scope env = pure cl) (hcell : ∀ y ∈ scope.names, y.2 ≠ .cell) (hkind : scope.kind = .function)
    (hnames : ∀ y ∈ scope.names, y.2 = .local → scope.names.lookup y.1 = some .local) (hx : scope.names.lookup x = some .local)
    (h : wpAny (model prog w) A (eval iter env) (CompSrcTH prog w A h₀ L m env ct elt x scope cl (fun s₂ => FinE h₀ L m s₂ Q)) E s)
    (hs : ∀ x, foldedSetIterable iter env x = pure x := by intro _; rfl) :
    wpAny (model prog w) A (eval (.ListComp elt [⟨.Name x px, iter, [ct], 0⟩] scope pos) env) Q E s := by
  rw [eval_ListComp]
  refine wpAny_comprehension_free (use := none) rfl hs hclos hkind hnames (wpAny_mono h (fun xv s₁ h₁ => ?_) fun _ _ e => e)
  obtain ⟨ax, its, e, news, rfl, hh, F, N, S, hsz, R⟩ := h₁
  have tup : ∀ {h : Heap} {nw : List (Addr × Obj)}, News h₀ L h nw → TupIn ax its e nw → h.IsTuple ax its ∧ NoCtx h e := fun N ⟨⟨ot, n, hm, hc, hd⟩, oe, ws, he, hed, he2⟩ => ⟨⟨ot, N.get hm, hc, n, hd⟩, oe, ws, N.get he, hed, he2⟩
  obtain ⟨hl, hno⟩ := tup N S
  have hlt : ax < s₁.heap.objs.size := by obtain ⟨_, e, _⟩ := hl; exact Heap.lt_size e
  have hle : e < s₁.heap.objs.size := by obtain ⟨_, _, e, _⟩ := hno; exact Heap.lt_size e
  refine wpAny_pyIter_tuple hl ?_
  have up : ∀ b o, s₁.heap.get? b = some o → (s₁.heap.push { cls := .type "tuple_iterator", data := .fields #[.ref ax, .int 0 0] }).get? b = some o := fun b o e => Heap.get?_push_of_some _ e
  refine block_T (walks_tupleH hh s₁.heap.objs.size ax (Nat.ne_of_lt hlt) (Nat.ne_of_gt hle) its) hsz (fun i h st => by obtain ⟨o, e, _⟩ := st.1; exact ⟨o, e⟩)
    (fun i h h' o nw st q q' k N S => ⟨by obtain ⟨o', x, r⟩ := st.1; rw [q] at x; cases x; exact ⟨o, q', r⟩, (tup N S).1, (tup N S).2⟩) hcell hkind hx
    ⟨⟨_, Heap.get?_push_size _ rfl, rfl, rfl⟩, hl.at fun o e => up _ _ e, hno.keeps fun o q => up _ _ q⟩ (fun b hb => ?_)
    (F.keeps up) (N.grown up) (Nat.ne_of_lt F.ns.lt) (next_is_new F) (fun p hp => Nat.ne_of_lt (Heap.lt_size (N p hp).1)) S (R _ ⟨_, rfl⟩) ?_
  · show b < (s₁.heap.push _).objs.size
    rw [Heap.size_push]
    simp only [List.mem_cons, List.not_mem_nil, or_false] at hb
    rcases hb with rfl | rfl | rfl
    · exact Nat.lt_succ_self _
    · exact Nat.lt_succ_of_lt hlt
    · exact Nat.lt_succ_of_lt hle
  · intro D C h tk m' ys news' F' N' o1 hn hC₀ hD₀ hCL hDL hCD offC fin
    refine ⟨m', hn, fun h'' hs'' => fin D h'' tk (F'.change hs'' hCL hC₀) (fun p hp => ?_) o1⟩
    refine ⟨hs''.extBut _ _ ?_ (N' p hp).1, (N' p hp).2⟩
    rcases List.mem_cons.mp hp with rfl | hp
    · exact Ne.symm hCD
    · exact offC p hp
end
end

section
theorem freshUnb : True := by
  w_top off
  k_with_none
  exact True.intro
open PySem PySem.W PyProof.Rows PyProof.V PySem.Calls PySem.Spec
set_option maxRecDepth 100000
set_option maxHeartbeats 400000
theorem updF_again {d : Addr} {o : Obj} (o' : Obj) : ∀ {l : List (Addr × Obj)} {g : Obj → List (Addr × Obj)}, UpdF d o l g → UpdF d o' (g o') g
  | _, _, .head h => .head h
  | _, _, .tail n u => .tail n (updF_again o' u)
section
variable {M : Model} {A : Around} {E : Value → Shared → Prop} {s : Shared} {h₀ : Heap} {L a : Addr} {m : Str → Option Value} {cn : Str} {cs : Scope} {ccd : Value} {cl : List (Str × Addr)}
  {x : Str} {Q : Unit → Shared → Prop} {news : List (Addr × Obj)} {g : Obj → List (Addr × Obj)} {c : Addr} {o : Obj} {v₀ : Option Value} {pos : Pos}
theorem unbind_C (F : Fr h₀ L s.heap m) (N : News h₀ L s.heap news) (hc : cl.lookup x = some c) (U : UpdF c o news g) (hd : o.data = .cell v₀)
    (h : ∀ h' o', Fr h₀ L h' m → News h₀ L h' (g o') → Q () { s with heap := h' })
    (hk : cs.kind = .function := by rfl) (hx : (envX cn cs L a ccd cl).kindOf x = some .cell := by rfl) :
    wpAny M A (do bindName (envX cn cs L a ccd cl) x .none; unbindBehindTheSuite (envX cn cs L a ccd cl) x pos) Q E s := by
  unfold bindName unbindBehindTheSuite unbindName
  refine wpAny_bind (wpAny_bind (wpAny_holding (wpAny_point (wpAny_bind (storeX_C F N hc U hd (fun h₁ o₁ F₁ N₁ d₁ => wpAny_point ?_) hk hx)))))
  refine wpAny_onRaise (wpAny_bind (wpAny_point (wpAny_bind ?_)))
  obtain ⟨own, rest, e1, hg, h1, h2⟩ := (updF_again o₁ U).split
  have hmem : h₁.get? c = some o₁ ∧ c ≠ L ∧ h₀.get? c = none := N₁ (c, o₁) (UpdF.mem (updF_again o₁ U))
  have ic : h₁.IsCell c (some .none) := ⟨o₁, hmem.1, d₁⟩
  unfold deleteName
  simp only [hx]
  refine wpAny_bind (wpAny_cellOf hc (wpAny_bind (wpAny_cellGet ic ?_)))
  rw [if_pos (show (some Value.none).isSome = true from rfl)]
  refine wpAny_cellSet ic fun h₂ hv hs => wpAny_point ?_
  obtain ⟨o₂, ho₂, hd₂⟩ := hv
  rw [e1] at N₁
  refine h h₂ o₂ ⟨F₁.ns.sameBut hs (Ne.symm hmem.2.1), fun b ob e => (hs.2 b (fun q => ?_)).trans (F₁.keep b ob e), F₁.above⟩ (hg o₂ ▸ N₁.setAt h1 h2 hs ho₂)
  rw [q, hmem.2.2] at e; cases e
theorem unbind_4 {p1 p2 p3 p4 : Addr × Obj} {rest : List (Addr × Obj)} (F : Fr h₀ L s.heap m) (N : News h₀ L s.heap (p1 :: p2 :: p3 :: p4 :: (c, o) :: rest)) (hc : cl.lookup x = some c) (hne : ∀ p ∈ rest, p.1 ≠ c) (hd : o.data = .cell v₀)
    (h : ∀ h' o', Fr h₀ L h' m → News h₀ L h' ((c, o') :: rest) → Q () { s with heap := h' })
    (hk : cs.kind = .function := by rfl) (hx : (envX cn cs L a ccd cl).kindOf x = some .cell := by rfl) :
    wpAny M A (do bindName (envX cn cs L a ccd cl) x .none; unbindBehindTheSuite (envX cn cs L a ccd cl) x pos) Q E s :=
  unbind_C F (fun p hp => N p (.tail _ (.tail _ (.tail _ (.tail _ hp))))) hc (.head hne) hd h hk hx
theorem cells_ne {l : Addr} {p1 p2 p3 p4 p5 p6 : Addr × Obj} (h : p1.1 < l ∧ p2.1 < l ∧ p3.1 < l ∧ p4.1 < l ∧ p5.1 < l ∧ p6.1 < l) : ∀ p ∈ [p1, p2, p3, p4, p5, p6], p.1 ≠ l + 1 := fun p hp => by
  simp only [List.mem_cons, List.not_mem_nil, or_false] at hp
  have lt : ∀ q : Addr, q < l → q ≠ l + 1 := fun q a e => by rw [e] at a; exact absurd a (Nat.not_lt_of_le (Nat.le_succ l))
  rcases hp with rfl | rfl | rfl | rfl | rfl | rfl
  · exact lt _ h.1
  · exact lt _ h.2.1
  · exact lt _ h.2.2.1
  · exact lt _ h.2.2.2.1
  · exact lt _ h.2.2.2.2.1
  · exact lt _ h.2.2.2.2.2
end
end

section
theorem freshLPutR : True := by
  w_top off
  k_with_none
  exact True.intro
open PySem PySem.W PyProof.Rows PyProof.V PySem.Calls PySem.Spec
set_option maxRecDepth 100000
set_option maxHeartbeats 400000
local macro_rules | `(tactic| ktr_unf) => `(tactic| first | k_asm | exact rfl | k_mem | ktr_room | ktr_units | k_updF | omega)
local macro_rules | `(tactic| lcg_src) => `(tactic| (refine' And.intro (Exists.intro _ (Exists.intro _ (And.intro ?a1 (And.intro ?a2 ?a3)))) (Exists.intro _ (Exists.intro _ (And.intro ?b1 (And.intro ?b2 ?b3)))); (case a1 => k_mem); (case a2 => exact rfl); (case a3 => exact rfl); (case b1 => k_mem); (case b2 => exact rfl); (case b3 => assumption)))
theorem sayLPutRa : True := by
  k_with_none
  k_with "ktr_enter" => (first | ((refine' code_defL ?k1q0 ?k2q0 ?k3q0 ?k4q0 ?kMq0 ?k5q0 ?kAq0 ?kFq0 ?kKq0 ?k6q0 ?k7q0 ?k8q0 ?k9q0 ?kBq0 ?_ ?c2q0 ?c3q0 ?c4q0 ?c5q0; (case kAq0 => exact rfl); (case kFq0 => exact rfl); (case kKq0 => assumption); (case k1q0 => k_asm); (case k2q0 => k_asm); (case k3q0 => k_asm); (case k4q0 => k_asm); (case kMq0 => assumption); (case k5q0 => k_asm); (case k6q0 => k_is); (case k7q0 => k_is); (case k8q0 => ktr_room); (case k9q0 => exact BindsTo.of_eq rfl); (case c5q0 => decide); (case kBq0 => exact locs rfl); (case c2q0 => exact rfl); (case c3q0 => exact rfl); (case c4q0 => exact rfl); k_whole; intro g' L' h' FG' F' N' B' X' T' fr' l1; (try k_lt l1); (try dsimp only); (try k_fold))) | ((refine' code_defL ?k1q1 ?k2q1 ?k3q1 ?k4q1 ?kMq1 ?k5q1 ?kAq1 ?kFq1 ?kKq1 ?k6q1 ?k7q1 ?k8q1 ?k9q1 ?kBq1 ?_ ?c2q1 ?c3q1 ?c4q1 ?c5q1; (case kAq1 => exact rfl); (case kFq1 => exact rfl); (case kKq1 => assumption); (case k1q1 => k_asm); (case k2q1 => k_asm); (case k3q1 => k_asm); (case k4q1 => k_asm); (case kMq1 => assumption); (case k5q1 => k_asm); (case k6q1 => k_is); (case k7q1 => k_is); (case k8q1 => ktr_room); (case k9q1 => exact BindsTo.of_eq rfl); (case c5q1 => decide); (case kBq1 => exact locs rfl); (case c2q1 => exact rfl); (case c3q1 => exact rfl); (case c4q1 => exact rfl); k_whole; intro g' L' h' FG' F' N' B' X' T' fr' l1; (try k_lt l1); (try dsimp only); (try k_fold))))
  k_with "ktr_enter" => (first | ((refine' code_cellsS0 ?k1q0 ?k2q0 ?k3q0 ?k4q0 ?kMq0 ?k5q0 ?kAq0 ?k6q0 ?k7q0 ?k8q0 ?k9q0 ?kBq0 ?kDq0 ?_ ?kKq0 ?c2q0 ?c3q0 ?c4q0; (case kAq0 => exact rfl); (case kKq0 => assumption); (case k1q0 => k_asm); (case k2q0 => k_asm); (case k3q0 => k_asm); (case k4q0 => k_asm); (case kMq0 => assumption); (case k5q0 => k_asm); (case k6q0 => k_is); (case k7q0 => k_is); (case k8q0 => ktr_room); (case k9q0 => exact BindsTo.of_eq rfl); (case kBq0 => exact rfl); (case kDq0 => decide +kernel); (case c2q0 => exact rfl); (case c3q0 => exact rfl); (case c4q0 => exact rfl); k_whole; intro g' L' h' tk' cells' FG' F' N' Y' B' X' T' D' fr' l1; (try k_lt l1); k_cells Y'; (try simp only [List.cons_append, List.nil_append] at N'); (try dsimp only); (try k_lift B'); (try k_fold))) | ((refine' code_cellsS0 ?k1q1 ?k2q1 ?k3q1 ?k4q1 ?kMq1 ?k5q1 ?kAq1 ?k6q1 ?k7q1 ?k8q1 ?k9q1 ?kBq1 ?kDq1 ?_ ?kKq1 ?c2q1 ?c3q1 ?c4q1; (case kAq1 => exact rfl); (case kKq1 => assumption); (case k1q1 => k_asm); (case k2q1 => k_asm); (case k3q1 => k_asm); (case k4q1 => k_asm); (case kMq1 => assumption); (case k5q1 => k_asm); (case k6q1 => k_is); (case k7q1 => k_is); (case k8q1 => ktr_room); (case k9q1 => exact BindsTo.of_eq rfl); (case kBq1 => exact rfl); (case kDq1 => decide +kernel); (case c2q1 => exact rfl); (case c3q1 => exact rfl); (case c4q1 => exact rfl); k_whole; intro g' L' h' tk' cells' FG' F' N' Y' B' X' T' D' fr' l1; (try k_lt l1); k_cells Y'; (try simp only [List.cons_append, List.nil_append] at N'); (try dsimp only); (try k_lift B'); (try k_fold))))
  k_with "noteFrame ref" => (k_here; first | (k_dflt (refine' caught_DC ?Rq0 ?Fq0 ?NLq0 ?hmuq0 ?frq0 ?Kq0 ?hsmq0 ?XBq0 ?TBq0 ?Dq0 ?T0q0 ?hclq0 ?Uq0 ?hocq0 ?hodq0 ?exq0 ?qq0 ?_; (case Rq0 => assumption); (case Fq0 => assumption); (case hmuq0 => assumption); (case frq0 => assumption); (case NLq0 => assumption); (case Kq0 => assumption); (case hsmq0 => assumption); (case XBq0 => assumption); (case TBq0 => assumption); (case Dq0 => assumption); (case T0q0 => first | assumption | exact KtsTurn.refl); (case hclq0 => exact rfl); (case Uq0 => k_updF); (case hocq0 => assumption); (case hodq0 => exact fun _ h => nomatch h); (case exq0 => k_is); (case qq0 => kts_isx); k_whole); intro h' g' ws' sl' oc' T' F' N' d' e0' e2' K' X' P' D'; (try dsimp only); (try k_lift K')) | (k_dflt (refine' caught_DC ?Rq1 ?Fq1 ?NLq1 ?hmuq1 ?frq1 ?Kq1 ?hsmq1 ?XBq1 ?TBq1 ?Dq1 ?T0q1 ?hclq1 ?Uq1 ?hocq1 ?hodq1 ?exq1 ?qq1 ?_; (case Rq1 => assumption); (case Fq1 => assumption); (case hmuq1 => assumption); (case frq1 => assumption); (case NLq1 => assumption); (case Kq1 => assumption); (case hsmq1 => assumption); (case XBq1 => assumption); (case TBq1 => assumption); (case Dq1 => assumption); (case T0q1 => first | assumption | exact KtsTurn.refl); (case hclq1 => exact rfl); (case Uq1 => k_updF); (case hocq1 => assumption); (case hodq1 => exact fun _ h => nomatch h); (case exq1 => k_is); (case qq1 => kts_isx); k_whole); intro h' g' ws' sl' oc' T' F' N' d' e0' e2' K' X' P' D'; (try dsimp only); (try k_lift K')))
  k_with "exec Try" => (k_here; (with_reducible show wpAny _ _ (exec (Stmt.Try _ (_ :: _) _ [] _) _) _ _ _); refine wpAny_Try_except ?_)
  k_with "bind" => (k_here; first | ((with_reducible show wpAny _ _ (do bindName _ _ Value.none; unbindBehindTheSuite _ _ _) _ _ _); k_dflt (refine' unbind_4 ?Fq0 ?Nq0 ?hcq0 ?Uq0 ?hdq0 ?_; (case Fq0 => k_asm); (case Nq0 => k_asm); (case hcq0 => exact rfl); (case Uq0 => (refine' cells_ne ?lq0; assumption)); (case hdq0 => assumption)); intro h' o' F' N'; (try dsimp only at N')) | ((with_reducible show wpAny _ _ (do bindName _ _ Value.none; unbindBehindTheSuite _ _ _) _ _ _); k_dflt (refine' unbind_4 ?Fq1 ?Nq1 ?hcq1 ?Uq1 ?hdq1 ?_; (case Fq1 => k_asm); (case Nq1 => k_asm); (case hcq1 => exact rfl); (case Uq1 => (refine' cells_ne ?lq1; assumption)); (case hdq1 => assumption)); intro h' o' F' N'; (try dsimp only at N')))
  k_with "CompEnd" => (k_here; first | (k_dflt (refine' LCg.CompEnd.intro ?fq0 ?nq0 _ (fun _ h => h) ?cq0 ?dq0 ?_; (case nq0 => assumption); (case fq0 => assumption); (case cq0 => ((try simp only [LCg.Off3, and_true]); assumption)); (case dq0 => lcg_src))) | (k_dflt (refine' LCg.CompEnd.intro ?fq1 ?nq1 _ (fun _ h => h) ?cq1 ?dq1 ?_; (case nq1 => assumption); (case fq1 => assumption); (case cq1 => ((try simp only [LCg.Off3, and_true]); assumption)); (case dq1 => lcg_src))))
  k_with "eval ListComp" => (k_here; k_dflt (refine ListComp_TH (F₀ := by k_asm) (by with_unfolding_all rfl) (by decide) (by rfl) (by decide) (by rfl) ?_))
  k_with "CompSrcTH" => (k_here; first | (k_dflt (refine' CompSrcTH.ledger ?hhq0 ?Fq0 ?Nq0 ?hmq0 ?heq0 ?hedq0 ?he2q0 ?hzq0 ?_; (case hhq0 => exact rfl); (case Fq0 => k_asm); (case Nq0 => k_asm); (case hmq0 => k_mem); (case heq0 => k_mem); (case hedq0 => exact rfl); (case he2q0 => assumption); (case hzq0 => exact Nat.le_of_ble_eq_true rfl)); intro g'; k_dflt lct_lit) | (k_dflt (refine' CompSrcTH.ledger ?hhq1 ?Fq1 ?Nq1 ?hmq1 ?heq1 ?hedq1 ?he2q1 ?hzq1 ?_; (case hhq1 => exact rfl); (case Fq1 => k_asm); (case Nq1 => k_asm); (case hmq1 => k_mem); (case heq1 => k_mem); (case hedq1 => exact rfl); (case he2q1 => assumption); (case hzq1 => exact Nat.le_of_ble_eq_true rfl)); intro g'; k_dflt lct_lit))
  k_with "getAttr ref" => (k_here; (with_reducible show wpAny _ _ (getAttr _ (PySem.Str.ofString "what") _) _ _ _); first | (k_dflt (refine' exc_own ?Fq0 ?Xq0 ?Iq0 ?hgaq0 ?hgtq0 ?hsq0 ?hhq0 ?haq0 ?hnq0 ?hlq0 ?hvq0 ?_; (case Fq0 => k_asm); (case Xq0 => k_asm); (case Iq0 => (refine' inst_D ?Nq0 ?h1q0 ?h2q0; (case Nq0 => k_asm); (case h1q0 => k_mem); (case h2q0 => k_mem))); (case hgaq0 => k_is); (case hgtq0 => k_is); (case hsq0 => k_is); (case hhq0 => k_is); (case haq0 => k_is); (case hnq0 => k_is); (case hlq0 => first | rfl | k_is); (case hvq0 => rfl); k_whole)) | (k_dflt (refine' exc_own ?Fq1 ?Xq1 ?Iq1 ?hgaq1 ?hgtq1 ?hsq1 ?hhq1 ?haq1 ?hnq1 ?hlq1 ?hvq1 ?_; (case Fq1 => k_asm); (case Xq1 => k_asm); (case Iq1 => (refine' inst_D ?Nq1 ?h1q1 ?h2q1; (case Nq1 => k_asm); (case h1q1 => k_mem); (case h2q1 => k_mem))); (case hgaq1 => k_is); (case hgtq1 => k_is); (case hsq1 => k_is); (case hhq1 => k_is); (case haq1 => k_is); (case hnq1 => k_is); (case hlq1 => first | rfl | k_is); (case hvq1 => rfl); k_whole)))
  exact True.intro
theorem cell_ne {led : List (Addr × Obj)} {L : Addr} (l : ∀ q ∈ led, q.1 < L) : ∀ p ∈ led, p.1 ≠ L + 1 := fun p hp e => by
  have := l p hp
  rw [e] at this
  exact absurd this (Nat.not_lt_of_le (Nat.le_succ L))

section
variable {w : World} {mean : ExcName → Option Value} {mg mb : Str → Option Value} {dp un : Nat} {gd : Option (List Code)} {cn : Str} {cs : Scope} {a : Addr} {ccd : Value} {cl : List (Str × Addr)} {xyz : List Env} {A₀ : Around} {base h₀ : Heap} {L : Addr} {m : Str → Option Value} {led : List (Addr × Obj)} {G : Obj → List (Addr × Obj)} {s : Shared} {Q E : Value → Shared → Prop}

theorem sayLPutRb : True := by
  k_with "call ref" => (k_here; (with_reducible show wpAny _ _ (call (Value.ref 125) _) _ _ _); first | (k_dflt (first | (refine' put_flag ?Bq0 ?Fq0 ?Xq0 ?Tq0 ?hkq0 ?hdq0 ?huq0 ?NLq0 ?h1q0 ?h2q0 ?h3q0 ?hodq0 ?hfq0 ?loq0 ?hlq0 ?hxq0 ?hiq0 ?h4q0 ?h5q0 ?h6q0 ?hDq0 ?Uq0 ?n1q0 ?n2q0 ?n4q0 ?n5q0 ?n6q0 ?hokq0 ?hbadq0 ?hlateq0; (case hiq0 => with_reducible assumption); (case Bq0 => ktr_unf); (case Fq0 => ktr_unf); (case Xq0 => ktr_unf); (case Tq0 => ktr_unf); (case hkq0 => ktr_unf); (case hdq0 => ktr_unf); (case huq0 => ktr_unf); (case NLq0 => ktr_unf); (case h1q0 => ktr_unf); (case h2q0 => ktr_unf); (case h3q0 => ktr_unf); (case hodq0 => ktr_unf); (case hfq0 => ktr_unf); (case loq0 => ktr_unf); (case hlq0 => ktr_unf); (case hxq0 => ktr_unf); (case h4q0 => ktr_unf); (case h5q0 => ktr_unf); (case h6q0 => ktr_unf); (case hDq0 => ktr_unf); (case Uq0 => ktr_unf); (case n1q0 => ktr_unf); (case n2q0 => ktr_unf); (case n4q0 => ktr_unf); (case n5q0 => ktr_unf); (case n6q0 => ktr_unf)) | (refine' put_count ?Bq0 ?Fq0 ?Xq0 ?Tq0 ?hkq0 ?hdq0 ?huq0 ?NLq0 ?h1q0 ?h2q0 ?h3q0 ?hodq0 ?hfq0 ?loq0 ?hlq0 ?hxq0 ?hiq0 ?h4q0 ?h5q0 ?h6q0 ?hDq0 ?Uq0 ?n1q0 ?n2q0 ?n4q0 ?n5q0 ?n6q0 ?hokq0 ?hbadq0 ?hlateq0; (case hiq0 => with_reducible assumption); (case Bq0 => ktr_unf); (case Fq0 => ktr_unf); (case Xq0 => ktr_unf); (case Tq0 => ktr_unf); (case hkq0 => ktr_unf); (case hdq0 => ktr_unf); (case huq0 => ktr_unf); (case NLq0 => ktr_unf); (case h1q0 => ktr_unf); (case h2q0 => ktr_unf); (case h3q0 => ktr_unf); (case hodq0 => ktr_unf); (case hfq0 => ktr_unf); (case loq0 => ktr_unf); (case hlq0 => ktr_unf); (case hxq0 => ktr_unf); (case h4q0 => ktr_unf); (case h5q0 => ktr_unf); (case h6q0 => ktr_unf); (case hDq0 => ktr_unf); (case Uq0 => ktr_unf); (case n1q0 => ktr_unf); (case n2q0 => ktr_unf); (case n4q0 => ktr_unf); (case n5q0 => ktr_unf); (case n6q0 => ktr_unf))); (case' hokq0 => (k_whole; intro r9 hr9 hn9 od9 kv9 h9 tk9 hod9 hf9 F9 N9; (try dsimp only); (try k_fold))); (case' hbadq0 => (k_whole; intro hn9; intro mu9 G9 e9 t9 dx9 tk9 tx9 h9 tk8 hmu9 F9 fr9 R9 U9; (try dsimp only))); (case' hlateq0 => (k_whole; intro r9 hr9 hb9 hb8; intro mu9 G9 e9 t9 dx9 tk9 tx9 h9 tk8 hmu9 F9 fr9 R9 U9; (try dsimp only)))) | (k_dflt (first | (refine' put_flag ?Bq1 ?Fq1 ?Xq1 ?Tq1 ?hkq1 ?hdq1 ?huq1 ?NLq1 ?h1q1 ?h2q1 ?h3q1 ?hodq1 ?hfq1 ?loq1 ?hlq1 ?hxq1 ?hiq1 ?h4q1 ?h5q1 ?h6q1 ?hDq1 ?Uq1 ?n1q1 ?n2q1 ?n4q1 ?n5q1 ?n6q1 ?hokq1 ?hbadq1 ?hlateq1; (case hiq1 => with_reducible assumption); (case Bq1 => ktr_unf); (case Fq1 => ktr_unf); (case Xq1 => ktr_unf); (case Tq1 => ktr_unf); (case hkq1 => ktr_unf); (case hdq1 => ktr_unf); (case huq1 => ktr_unf); (case NLq1 => ktr_unf); (case h1q1 => ktr_unf); (case h2q1 => ktr_unf); (case h3q1 => ktr_unf); (case hodq1 => ktr_unf); (case hfq1 => ktr_unf); (case loq1 => ktr_unf); (case hlq1 => ktr_unf); (case hxq1 => ktr_unf); (case h4q1 => ktr_unf); (case h5q1 => ktr_unf); (case h6q1 => ktr_unf); (case hDq1 => ktr_unf); (case Uq1 => ktr_unf); (case n1q1 => ktr_unf); (case n2q1 => ktr_unf); (case n4q1 => ktr_unf); (case n5q1 => ktr_unf); (case n6q1 => ktr_unf)) | (refine' put_count ?Bq1 ?Fq1 ?Xq1 ?Tq1 ?hkq1 ?hdq1 ?huq1 ?NLq1 ?h1q1 ?h2q1 ?h3q1 ?hodq1 ?hfq1 ?loq1 ?hlq1 ?hxq1 ?hiq1 ?h4q1 ?h5q1 ?h6q1 ?hDq1 ?Uq1 ?n1q1 ?n2q1 ?n4q1 ?n5q1 ?n6q1 ?hokq1 ?hbadq1 ?hlateq1; (case hiq1 => with_reducible assumption); (case Bq1 => ktr_unf); (case Fq1 => ktr_unf); (case Xq1 => ktr_unf); (case Tq1 => ktr_unf); (case hkq1 => ktr_unf); (case hdq1 => ktr_unf); (case huq1 => ktr_unf); (case NLq1 => ktr_unf); (case h1q1 => ktr_unf); (case h2q1 => ktr_unf); (case h3q1 => ktr_unf); (case hodq1 => ktr_unf); (case hfq1 => ktr_unf); (case loq1 => ktr_unf); (case hlq1 => ktr_unf); (case hxq1 => ktr_unf); (case h4q1 => ktr_unf); (case h5q1 => ktr_unf); (case h6q1 => ktr_unf); (case hDq1 => ktr_unf); (case Uq1 => ktr_unf); (case n1q1 => ktr_unf); (case n2q1 => ktr_unf); (case n4q1 => ktr_unf); (case n5q1 => ktr_unf); (case n6q1 => ktr_unf))); (case' hokq1 => (k_whole; intro r9 hr9 hn9 od9 kv9 h9 tk9 hod9 hf9 F9 N9; (try dsimp only); (try k_fold))); (case' hbadq1 => (k_whole; intro hn9; intro mu9 G9 e9 t9 dx9 tk9 tx9 h9 tk8 hmu9 F9 fr9 R9 U9; (try dsimp only))); (case' hlateq1 => (k_whole; intro r9 hr9 hb9 hb8; intro mu9 G9 e9 t9 dx9 tk9 tx9 h9 tk8 hmu9 F9 fr9 R9 U9; (try dsimp only)))))
  exact True.intro
theorem lputr_flag {o dx d nd : Nat} {hsh : Int} {tv tx : Tok} {od : Obj} {kvs : List (Str × Value)} {D : List (PyData × PyData)} {x : Str} {v : Value} {it : Itm} {a1 a2 a3 : Nat} {o1 o2 o3 : Obj} {bg : Bool} {b : Bool}
    (B : Below A₀ base [] h₀) (F : Fr h₀ L s.heap m) (X : (hd.heap_39 w.params).In h₀) (T : Top hd.view_39 LS mean mg mb h₀) (hk : cs.kind = .function)
    (hdp : dp + 30 < recursionLimit) (hu : un + 500 < cLine) (NL : News h₀ L s.heap led) (XB : (hd.heap_39 w.params).In base) (TB : Top hd.view_39 LS mean mg mb base) (h1 : (o, optI dx) ∈ led) (h2 : (dx, optD hsh tv d nd) ∈ led) (h3 : (d, od) ∈ led) (hod : od.IsDictOf (PySem.strKind PySem.Challenge.rw_nz0133_01.row.prog w) kvs) (hf : FlatPairs PyData.str kvs D) (lo : (d == sysModules) = false) (hl : lookup (.str x) D = some (.bool b)) (hx : x.length ≤ 100) (hi : it.At [(a1, o1), (a2, o2), (a3, o3)] v) (h4 : (a1, o1) ∈ led) (h5 : (a2, o2) ∈ led) (h6 : (a3, o3) ∈ led) (hD : D.length ≤ 100) (U : UpdF d od led G) (n1 : @Ne Nat o d) (n2 : @Ne Nat dx d) (n4 : @Ne Nat a1 d) (n5 : @Ne Nat a2 d) (n6 : @Ne Nat a3 d)
    (hok : ∀ r, it.flag = some r → (bg && (earlyL.any fun y => y == x)) = false → ∀ od' kvs' tk2 h' tk', od'.IsDictOf (PySem.strKind PySem.Challenge.rw_nz0133_01.row.prog w) kvs' → FlatPairs PyData.str kvs' (putD (.str x) (.bool r) D) → Fr h₀ L h' m → News h₀ L h' (G od') → Q (.str (Str.ofString "") tk2) { s with heap := h', toks := tk' })
    (hbad : it.flag = none → ∀ tk2 h' tk', Fr h₀ L h' m → News h₀ L h' led → Q (.str (Str.ofString "true or false") tk2) { s with heap := h', toks := tk' })
    (hlate : ∀ r, it.flag = some r → (bg && (earlyL.any fun y => y == x)) = true → ∀ tk2 h' tk', Fr h₀ L h' m → News h₀ L h' led → Q (.str (Str.ofString "first of all") tk2) { s with heap := h', toks := tk' }) :
    wpAny (model PySem.Challenge.rw_nz0133_01.row.prog w) (ktrTop dp un gd cn cs L a ccd [] []) (call (.ref 181) [.ref o, .str x tx, v, .bool bg]) Q E s := by
  have hmu : ∀ p ∈ [(o, optI dx), (dx, optD hsh tv d nd), (d, od), (a1, o1), (a2, o2), (a3, o3)], p ∈ led := List.forall_mem_cons.mpr ⟨h1, List.forall_mem_cons.mpr ⟨h2, List.forall_mem_cons.mpr ⟨h3, List.forall_mem_cons.mpr ⟨h4, List.forall_mem_cons.mpr ⟨h5, List.forall_mem_singleton.mpr h6⟩⟩⟩⟩⟩
  refine wpAny_call ?_
  k_dflt (k_extra "ktr_enter")
  k_steps
  · rename bg = true => q1
    rename (earlyL.any fun y => y == x) = true => q2
    exact hlate _ (by assumption) (by rw [q1, q2]; rfl) _ _ _ (by assumption) (led_same NL hmu (by assumption) (fun _ h => .tail _ h) (fr_turn NL (by assumption) (by assumption)) (by assumption))
  · first | walk_at "bind" | skip
    k_steps
    exact hbad (by assumption) _ _ _ (by assumption) (led_same NL hmu (by assumption) (fun _ h => .tail _ h) (fr_turn NL (by assumption) (by assumption)) (by assumption))
  · exact hok _ (by assumption) (by assumption) _ _ _ _ _ (by assumption) (by assumption) (by assumption) (led_upd NL U hmu (by assumption) (.tail _ (.tail _ (.tail _ (.head _)))) (fun p hp hn => .tail _ (swap_mem (A := [(o, optI dx), (dx, optD hsh tv d nd)]) hp hn)) (by simp) (by assumption) (by assumption))

theorem lputr_count {o dx d nd : Nat} {hsh : Int} {tv tx : Tok} {od : Obj} {kvs : List (Str × Value)} {D : List (PyData × PyData)} {x : Str} {v : Value} {it : Itm} {a1 a2 a3 : Nat} {o1 o2 o3 : Obj} {bg : Bool} {i : Int}
    (B : Below A₀ base [] h₀) (F : Fr h₀ L s.heap m) (X : (hd.heap_39 w.params).In h₀) (T : Top hd.view_39 LS mean mg mb h₀) (hk : cs.kind = .function)
    (hdp : dp + 30 < recursionLimit) (hu : un + 500 < cLine) (NL : News h₀ L s.heap led) (XB : (hd.heap_39 w.params).In base) (TB : Top hd.view_39 LS mean mg mb base) (h1 : (o, optI dx) ∈ led) (h2 : (dx, optD hsh tv d nd) ∈ led) (h3 : (d, od) ∈ led) (hod : od.IsDictOf (PySem.strKind PySem.Challenge.rw_nz0133_01.row.prog w) kvs) (hf : FlatPairs PyData.str kvs D) (lo : (d == sysModules) = false) (hl : lookup (.str x) D = some (.int i)) (hx : x.length ≤ 100) (hi : it.At [(a1, o1), (a2, o2), (a3, o3)] v) (h4 : (a1, o1) ∈ led) (h5 : (a2, o2) ∈ led) (h6 : (a3, o3) ∈ led) (hD : D.length ≤ 100) (U : UpdF d od led G) (n1 : @Ne Nat o d) (n2 : @Ne Nat dx d) (n4 : @Ne Nat a1 d) (n5 : @Ne Nat a2 d) (n6 : @Ne Nat a3 d)
    (hok : ∀ r, it.count = some r → (bg && (earlyL.any fun y => y == x)) = false → ∀ od' kvs' tk2 h' tk', od'.IsDictOf (PySem.strKind PySem.Challenge.rw_nz0133_01.row.prog w) kvs' → FlatPairs PyData.str kvs' (putD (.str x) (.int r) D) → Fr h₀ L h' m → News h₀ L h' (G od') → Q (.str (Str.ofString "") tk2) { s with heap := h', toks := tk' })
    (hbad : it.count = none → ∀ tk2 h' tk', Fr h₀ L h' m → News h₀ L h' led → Q (.str (Str.ofString "a numeral") tk2) { s with heap := h', toks := tk' })
    (hlate : ∀ r, it.count = some r → (bg && (earlyL.any fun y => y == x)) = true → ∀ tk2 h' tk', Fr h₀ L h' m → News h₀ L h' led → Q (.str (Str.ofString "first of all") tk2) { s with heap := h', toks := tk' }) :
    wpAny (model PySem.Challenge.rw_nz0133_01.row.prog w) (ktrTop dp un gd cn cs L a ccd [] []) (call (.ref 181) [.ref o, .str x tx, v, .bool bg]) Q E s := by
  have hmu : ∀ p ∈ [(o, optI dx), (dx, optD hsh tv d nd), (d, od), (a1, o1), (a2, o2), (a3, o3)], p ∈ led := List.forall_mem_cons.mpr ⟨h1, List.forall_mem_cons.mpr ⟨h2, List.forall_mem_cons.mpr ⟨h3, List.forall_mem_cons.mpr ⟨h4, List.forall_mem_cons.mpr ⟨h5, List.forall_mem_singleton.mpr h6⟩⟩⟩⟩⟩
  refine wpAny_call ?_
  k_dflt (k_extra "ktr_enter")
  k_steps
  · rename bg = true => q1
    rename (earlyL.any fun y => y == x) = true => q2
    exact hlate _ (by assumption) (by rw [q1, q2]; rfl) _ _ _ (by assumption) (led_same NL hmu (by assumption) (fun _ h => .tail _ h) (fr_turn NL (by assumption) (by assumption)) (by assumption))
  · first | walk_at "bind" | skip
    k_steps
    exact hbad (by assumption) _ _ _ (by assumption) (led_same NL hmu (by assumption) (fun _ h => .tail _ h) (fr_turn NL (by assumption) (by assumption)) (by assumption))
  · exact hok _ (by assumption) (by assumption) _ _ _ _ _ (by assumption) (by assumption) (by assumption) (led_upd NL U hmu (by assumption) (.tail _ (.tail _ (.tail _ (.head _)))) (fun p hp hn => .tail _ (swap_mem (A := [(o, optI dx), (dx, optD hsh tv d nd)]) hp hn)) (by simp) (by assumption) (by assumption))
end
end

section
theorem freshLoop : True := by
  w_top off
  k_with_none
  exact True.intro
open PySem PySem.W PyProof.Rows PyProof.V PySem.Calls PySem.Spec
set_option maxRecDepth 100000
set_option maxHeartbeats 400000
section
variable {prog : Program} {w : World} {A : Around} {E : Value → Shared → Prop} {s : Shared} {env : Env} {h₀ : Heap} {target : Expr} {body : List Stmt} {Q : Flow → Shared → Prop}
theorem UnrEndW.mono {L : Addr} {its : List (Addr × Obj)} {r r' : (Str → Option Value) → List (Addr × Obj) → Prop} {s₁ s₂ : Shared} (h : UnrEndW h₀ L s₁ its r s₂) (k : ∀ m n, r m n → r' m n) : UnrEndW h₀ L s₁ its r' s₂ :=
  let ⟨a, b, c, d, e, f, g, i, j⟩ := h; ⟨a, b, c, d, e, f, g, i, k _ _ j⟩
/-- a loop turn by turn, by what holds between the turns -/
theorem items_ind {α : Type} {f : α → PySem.W.Itm} {I : Addr} {c : String} {keep : List (Addr × Obj)} (P : List α → (Str → Option Value) → List (Addr × Obj) → Prop)
    (h0 : ∀ m news, P [] m news → ∀ h tk, Fr h₀ env.locals h m → News h₀ env.locals h news → Q .next { s with heap := h, toks := tk })
    (hs : ∀ a r m news, P (a :: r) m news → ∀ v h tk it, it.cls = .type c → (f a).Is v h → Fr h₀ env.locals h m → News h₀ env.locals h ((I, it) :: news) →
      wpAny (model prog w) A (assign target env v) (fun _ s₂ => wpAny (model prog w) A (execs body env) (UnrPostW h₀ env.locals { s with heap := h, toks := tk } [(I, it)] (fun m' n' => SubL keep n' ∧ P r m' n') Q) E s₂) E { s with heap := h, toks := tk }) :
    ∀ l m news, P l m news → ItemsRest prog w A E h₀ env target body Q s [(I, c)] keep (l.map f) m news := by
  intro l
  induction l with
  | nil => exact fun m news p => h0 m news p
  | cons a r ih =>
    intro m news p v h tk hv F it hc N
    refine wpAny_mono (hs a r m news p v h tk it hc hv F N) (fun _ s₂ x => wpAny_mono x (fun fl s₃ y => ?_) fun _ _ z => z) fun _ _ z => z
    cases fl with
    | ret _ => exact y
    | brk => exact y
    | next => exact UnrEndW.mono y fun m' n' q => ⟨q.1, ih m' n' q.2⟩
    | cont => exact UnrEndW.mono y fun m' n' q => ⟨q.1, ih m' n' q.2⟩
/-- how a turn ends that leaves the ledger as it was -/
structure TurnGo (h₀ : Heap) (L : Addr) (s₁ : Shared) (I : Addr) (it : Obj) (base : List (Addr × Obj)) (P : (Str → Option Value) → Prop) (s₂ : Shared) : Prop where
  go : ∃ h' tk m', s₂ = { s₁ with heap := h', toks := tk } ∧ Fr h₀ L h' m' ∧ News h₀ L h' ((I, it) :: base) ∧ P m'
noncomputable def TurnEnd (h₀ : Heap) (L : Addr) (s₁ : Shared) (I : Addr) (it : Obj) (base : List (Addr × Obj)) (P : (Str → Option Value) → Prop) (Q : Flow → Shared → Prop) : Flow → Shared → Prop
  | .ret v, s₂ => Q (.ret v) s₂
  | .brk, s₂ => Q .next s₂
  | .next, s₂ => TurnGo h₀ L s₁ I it base P s₂
  | .cont, s₂ => TurnGo h₀ L s₁ I it base P s₂
theorem items_fix {α : Type} {f : α → PySem.W.Itm} {I : Addr} {c : String} {keep base : List (Addr × Obj)} (hk : SubL keep base) (hI : ∀ p ∈ base, p.1 < I) (Pl : List α → Prop) (Pm : (Str → Option Value) → Prop)
    (h0 : ∀ m, Pm m → ∀ h tk, Fr h₀ env.locals h m → News h₀ env.locals h base → Q .next { s with heap := h, toks := tk })
    (hs : ∀ a r m, Pl (a :: r) → Pm m → ∀ v h tk it, it.cls = .type c → (f a).Is v h → Fr h₀ env.locals h m → News h₀ env.locals h ((I, it) :: base) →
      wpAny (model prog w) A (assign target env v) (fun _ s₂ => wpAny (model prog w) A (execs body env) (TurnEnd h₀ env.locals { s with heap := h, toks := tk } I it base (fun m' => Pm m' ∧ Pl r) Q) E s₂) E { s with heap := h, toks := tk })
    (l : List α) (m : Str → Option Value) (hl : Pl l) (hm : Pm m) : ItemsRest prog w A E h₀ env target body Q s [(I, c)] keep (l.map f) m base := by
  refine items_ind (fun l m news => news = base ∧ Pl l ∧ Pm m) ?_ ?_ l m base ⟨rfl, hl, hm⟩
  · rintro m news ⟨rfl, _, p⟩
    exact h0 m p
  · rintro a r m news ⟨rfl, p, q⟩ v h tk it hc hv F N
    refine wpAny_mono (hs a r m p q v h tk it hc hv F N) (fun _ s₂ x => wpAny_mono x (fun fl s₃ y => ?_) fun _ _ z => z) fun _ _ z => z
    have go : TurnGo h₀ env.locals { s with heap := h, toks := tk } I it news (fun m' => Pm m' ∧ Pl r) s₃ → UnrEndW h₀ env.locals { s with heap := h, toks := tk } [(I, it)] (fun m' n' => SubL keep n' ∧ n' = news ∧ Pl r ∧ Pm m') s₃ := by
      rintro ⟨h', tk', m', e, F', N', p1, p2⟩
      exact ⟨h', tk', m', news, e, F', N', fun p hp q hq => by rw [List.mem_singleton.mp hq]; exact Nat.ne_of_lt (hI p hp), hk, rfl, p2, p1⟩
    cases fl with
    | ret _ => exact y
    | brk => exact y
    | next => exact go y
    | cont => exact go y
/-- the frame's names that a loop stores are forgotten -/
theorem forget2 {x y : Str} {m₀ : Str → Option Value} {P : (Str → Option Value) → Prop} (k : ∀ u v, P (fun z => if z = y then u else if z = x then v else m₀ z)) : P m₀ := by
  have : m₀ = fun z => if z = y then m₀ y else if z = x then m₀ x else m₀ z := by
    funext z
    by_cases h1 : z = y
    · rw [if_pos h1, h1]
    · rw [if_neg h1]
      by_cases h2 : z = x
      · rw [if_pos h2, h2]
      · rw [if_neg h2]
  rw [this]; exact k _ _
noncomputable def Map2 (x y : Str) (m₀ m' : Str → Option Value) : Prop := ∃ u v, m' = fun z => if z = y then u else if z = x then v else m₀ z
theorem items_fix2 {α : Type} {f : α → PySem.W.Itm} {I : Addr} {c : String} {keep base : List (Addr × Obj)} {l : List α} {m₀ : Str → Option Value} (x y : Str) (Pl : List α → Prop) (hk : SubL keep base) (hI : ∀ p ∈ base, p.1 < I) (hl : Pl l)
    (h0 : ∀ u v h tk, Fr h₀ env.locals h (fun z => if z = y then u else if z = x then v else m₀ z) → News h₀ env.locals h base → Q .next { s with heap := h, toks := tk })
    (hs : ∀ a r, Pl (a :: r) → ∀ u v v' h tk it, it.cls = .type c → (f a).Is v' h → Fr h₀ env.locals h (fun z => if z = y then u else if z = x then v else m₀ z) → News h₀ env.locals h ((I, it) :: base) →
      wpAny (model prog w) A (assign target env v') (fun _ s₂ => wpAny (model prog w) A (execs body env) (TurnEnd h₀ env.locals { s with heap := h, toks := tk } I it base (fun m' => Map2 x y m₀ m' ∧ Pl r) Q) E s₂) E { s with heap := h, toks := tk }) :
    ItemsRest prog w A E h₀ env target body Q s [(I, c)] keep (l.map f) m₀ base := by
  refine items_fix hk hI Pl (Map2 x y m₀) ?_ ?_ l m₀ hl (forget2 (x := x) (y := y) fun u v => ⟨u, v, rfl⟩)
  · rintro m ⟨u, v, rfl⟩ h tk F N
    exact h0 u v h tk F N
  · rintro a r m p ⟨u, v, rfl⟩ v' h tk it hc hv F N
    exact hs a r p u v v' h tk it hc hv F N
end
theorem names_nodup : namesL.Nodup := by decide +kernel
theorem putD_next {st : Str → PyData} {x : Str} {pre r : List Str} (h : pre ++ x :: r = namesL) : putD (.str x) (st x) (pre.map fun y => (PyData.str y, st y)) = (pre ++ [x]).map fun y => (PyData.str y, st y) := by
  have hn : x ∉ pre := by
    have := names_nodup
    rw [← h, List.nodup_append] at this
    intro hx
    exact this.2.2 x hx x (.head _) rfl
  unfold putD
  rw [if_neg]
  · simp
  · rw [Bool.not_eq_true, List.any_eq_false]
    intro p hp
    obtain ⟨y, hy, rfl⟩ := List.mem_map.mp hp
    rw [PyProof.V.same_str]
    intro e
    exact hn (by rw [← of_decide_eq_true e]; exact hy)
end

section
theorem freshRng : True := by
  w_top off
  k_with_none
  exact True.intro
open PySem PySem.W PyProof.Rows PyProof.V PySem.Calls PySem.Spec
set_option maxRecDepth 100000
set_option maxHeartbeats 400000
/-- a goal at which the walk stands still -/
noncomputable def Stop (P : Prop) : Prop := P
theorem Stop.out {P : Prop} (h : Stop P) : P := h
theorem Stop.mk {P : Prop} (h : P) : Stop P := h
section
variable {prog : Program} {w : World} {A : Around} {E : Value → Shared → Prop} {s : Shared} {env : Env} {h₀ : Heap} {x : Str} {body : List Stmt} {Q : Flow → Shared → Prop}
structure TurnNext (h₀ : Heap) (L : Addr) (s₁ : Shared) (I : Addr) (it : Obj) (P : (Str → Option Value) → List (Addr × Obj) → Prop) (s₂ : Shared) : Prop where
  go : ∃ h' tk m' news', s₂ = { s₁ with heap := h', toks := tk } ∧ Fr h₀ L h' m' ∧ News h₀ L h' ((I, it) :: news') ∧ (∀ p ∈ news', p.1 ≠ I) ∧ P m' news'
noncomputable def TurnR (h₀ : Heap) (L : Addr) (s₁ : Shared) (I : Addr) (it : Obj) (P : (Str → Option Value) → List (Addr × Obj) → Prop) (Q : Flow → Shared → Prop) : Flow → Shared → Prop
  | .ret v, s₂ => Q (.ret v) s₂
  | .brk, s₂ => Q .next s₂
  | .next, s₂ => TurnNext h₀ L s₁ I it P s₂
  | .cont, s₂ => TurnNext h₀ L s₁ I it P s₂
theorem range_ind {I : Addr} {a : Int} {n : Nat} (P : Nat → (Str → Option Value) → List (Addr × Obj) → Prop)
    (hz : ∀ m news, P n m news → ∀ h tk, Fr h₀ env.locals h m → News h₀ env.locals h news → Q .next { s with heap := h, toks := tk })
    (hs : ∀ i m news, i < n → P i m news → ∀ t h tk it, it.cls = .type "range_iterator" → Fr h₀ env.locals h (fun y => if y = x then some (.int (a + (i : Int)) t) else m y) → News h₀ env.locals h ((I, it) :: news) →
      wpAny (model prog w) A (execs body env) (TurnR h₀ env.locals { s with heap := h, toks := tk } I it (P (i + 1)) Q) E { s with heap := h, toks := tk }) :
    ∀ k i m news, i + k = n → P i m news → RangeRest prog w A E h₀ env x body Q s I a n k i m news := by
  intro k
  induction k with
  | zero => intro i m news e p h tk F N; exact hz m news (by rw [← e]; exact p) h tk F N
  | succ k ih =>
    intro i m news e p
    refine RangeRest.succ fun t h tk F N => ?_
    refine wpAny_mono (hs i m news (by omega) p t h tk _ rfl F N) (fun fl s₃ y => ?_) fun _ _ z => z
    have go : TurnNext h₀ env.locals { s with heap := h, toks := tk } I (itR (a + ((i + 1 : Nat) : Int)) ((n : Int) - ((i + 1 : Nat) : Int))) (P (i + 1)) s₃ → UnrEnd h₀ env.locals { s with heap := h, toks := tk } I (itR (a + ((i + 1 : Nat) : Int)) ((n : Int) - ((i + 1 : Nat) : Int))) (RangeRest prog w A E h₀ env x body Q s I a n k (i + 1)) s₃ := by
      rintro ⟨h', tk', m', news', e1, F', N', ne, p'⟩
      exact ⟨h', tk', m', news', e1, F', N', ne, ih (i + 1) m' news' (by omega) p'⟩
    cases fl with
    | ret _ => exact y
    | brk => exact y
    | next => exact go y
    | cont => exact go y
/-- a loop over a made list, by what holds between the turns -/
theorem list_ind {I : Addr} {lp : Addr × Obj} {V : Value → Prop} (P : List Value → (Str → Option Value) → List (Addr × Obj) → Prop) (hlp : ∀ l m n, P l m n → lp ∈ n)
    (hz : ∀ m news, P [] m news → ∀ h tk, Fr h₀ env.locals h m → News h₀ env.locals h news → Q .next { s with heap := h, toks := tk })
    (hs : ∀ v r m news, V v → P (v :: r) m news → ∀ h tk it, it.cls = .type "list_iterator" → Fr h₀ env.locals h (fun y => if y = x then some v else m y) → News h₀ env.locals h ((I, it) :: news) →
      wpAny (model prog w) A (execs body env) (TurnR h₀ env.locals { s with heap := h, toks := tk } I it (P r) Q) E { s with heap := h, toks := tk }) :
    ∀ vs, (∀ v ∈ vs, V v) → ∀ m news, P vs m news → ListRest prog w A E h₀ env x body Q s I lp vs m news := by
  intro vs
  induction vs with
  | nil => intro _ m news p h tk F N; exact hz m news p h tk F N
  | cons v r ih =>
    intro hv m news p
    refine ListRest.succ fun it h tk hc F N => ?_
    refine wpAny_mono (hs v r m news (hv v (.head _)) p h tk it hc F N) (fun fl s₃ y => ?_) fun _ _ z => z
    have go : TurnNext h₀ env.locals { s with heap := h, toks := tk } I it (P r) s₃ → UnrEnd h₀ env.locals { s with heap := h, toks := tk } I it (fun m' n' => lp ∈ n' ∧ ListRest prog w A E h₀ env x body Q s I lp r m' n') s₃ := by
      rintro ⟨h', tk', m', news', e1, F', N', ne, p'⟩
      exact ⟨h', tk', m', news', e1, F', N', ne, hlp _ _ _ p', ih (fun u hu => hv u (.tail _ hu)) m' news' p'⟩
    cases fl with
    | ret _ => exact y
    | brk => exact y
    | next => exact go y
    | cont => exact go y
end
end

section
theorem freshMK : True := by
  w_top off
  k_with_none
  exact True.intro
open PySem PySem.W PyProof.Rows PyProof.V PySem.Calls PySem.Spec
set_option maxRecDepth 100000
set_option maxHeartbeats 400000
local macro_rules | `(tactic| ktr_unf) => `(tactic| first | k_asm | exact rfl | k_mem | ktr_room | ktr_units | k_updF | omega)

/-- the table at the start -/
noncomputable def st0 : Str → PyData := fun y => if y = Str.ofString "produce-models" then .bool true else if flagsL.contains y then .bool false else .int 0
theorem sayMKa : True := by
  k_with_none
  k_with "ktr_enter" => (first | ((refine' code_defN ?k1q0 ?k2q0 ?k3q0 ?k4q0 ?kMq0 ?k5q0 ?kAq0 ?kFq0 ?kKq0 ?k6q0 ?k7q0 ?k8q0 ?k9q0 ?kBq0 ?_ ?c2q0 ?c3q0 ?c4q0 ?c5q0; (case kAq0 => exact rfl); (case kFq0 => exact rfl); (case kKq0 => assumption); (case k1q0 => k_asm); (case k2q0 => k_asm); (case k3q0 => k_asm); (case k4q0 => k_asm); (case kMq0 => assumption); (case k5q0 => k_asm); (case k6q0 => k_is); (case k7q0 => k_is); (case k8q0 => ktr_room); (case k9q0 => exact BindsTo.of_eq rfl); (case c5q0 => decide); (case kBq0 => exact locs rfl); (case c2q0 => exact rfl); (case c3q0 => exact rfl); (case c4q0 => exact rfl); k_whole; intro g' L' h' FG' F' N' B' X' T' fr' l1 l2; (try k_lt l1); (try dsimp only); (try k_fold))) | ((refine' code_defN ?k1q1 ?k2q1 ?k3q1 ?k4q1 ?kMq1 ?k5q1 ?kAq1 ?kFq1 ?kKq1 ?k6q1 ?k7q1 ?k8q1 ?k9q1 ?kBq1 ?_ ?c2q1 ?c3q1 ?c4q1 ?c5q1; (case kAq1 => exact rfl); (case kFq1 => exact rfl); (case kKq1 => assumption); (case k1q1 => k_asm); (case k2q1 => k_asm); (case k3q1 => k_asm); (case k4q1 => k_asm); (case kMq1 => assumption); (case k5q1 => k_asm); (case k6q1 => k_is); (case k7q1 => k_is); (case k8q1 => ktr_room); (case k9q1 => exact BindsTo.of_eq rfl); (case c5q1 => decide); (case kBq1 => exact locs rfl); (case c2q1 => exact rfl); (case c3q1 => exact rfl); (case c4q1 => exact rfl); k_whole; intro g' L' h' FG' F' N' B' X' T' fr' l1 l2; (try k_lt l1); (try dsimp only); (try k_fold))))
  exact True.intro
theorem st0_wt : WT st0 := by
  constructor
  · have : ∀ x ∈ flagsL, (match st0 x with | .bool _ => true | _ => false) = true := by decide +kernel
    intro x hx
    have q := this x hx
    cases e : st0 x <;> rw [e] at q <;> first | (cases q; done) | exact ⟨_, rfl⟩
  · have : ∀ x ∈ countsL, (match st0 x with | .int i => i == 0 | _ => false) = true := by decide +kernel
    intro x hx
    have q := this x hx
    cases e : st0 x <;> rw [e] at q <;> first | (cases q; done) | skip
    rename_i i
    have q' : i = 0 := beq_iff_eq.mp q
    exact ⟨i, rfl, by omega, by omega⟩
theorem led_rest {h₀ h h' g : Heap} {L L' : Addr} {m' : Str → Option Value} {led mu : List (Addr × Obj)} (NL : News h₀ L h led) (fr : Frm led mu g) (F' : Fr g L' h' m') : ∀ q ∈ led, q.1 ∉ mu.map (·.1) → h'.get? q.1 = some q.2 ∧ q.1 ≠ L ∧ h₀.get? q.1 = none :=
  fun q hq hn => ⟨F'.keep _ _ (fr q hq hn), (NL q hq).2⟩
theorem subL_of {all : List (Addr × Obj)} : ∀ {l : List (Addr × Obj)}, (∀ p ∈ l, p ∈ all) → SubL l all
  | [], _ => trivial
  | p :: r, h => ⟨h p (.head _), subL_of fun q hq => h q (.tail _ hq)⟩
/-- the table that Options() begins with, as its program bears it -/
noncomputable def initL : List (Nat × Str × PyData) := [(63, Str.ofString "print-success", .bool false), (64, Str.ofString "produce-models", .bool true), (65, Str.ofString "produce-unsat-cores", .bool false), (66, Str.ofString "minimal-unsat-cores", .bool false), (67, Str.ofString "produce-unsat-assumptions", .bool false), (68, Str.ofString "produce-proofs", .bool false), (69, Str.ofString "produce-assertions", .bool false), (70, Str.ofString "produce-assignments", .bool false), (72, Str.ofString "random-seed", .int 0), (73, Str.ofString "reproducible-resource-limit", .int 0), (74, Str.ofString "verbosity", .int 0)]
noncomputable def initD (l : List (Nat × Str × PyData)) : List (PyData × PyData) := l.foldl (fun D q => putD (.str q.2.1) q.2.2 D) []
theorem initD_all : initD initL = stD st0 := by kernel_rfl
theorem initD_len : ∀ (l : List (Nat × Str × PyData)), (initD l).length ≤ l.length := by
  have : ∀ (l : List (Nat × Str × PyData)) D, (l.foldl (fun D q => putD (.str q.2.1) q.2.2 D) D).length ≤ D.length + l.length := by
    intro l
    induction l with
    | nil => intro D; exact Nat.le_refl _
    | cons q r ih =>
      intro D
      have h1 := ih (putD (.str q.2.1) q.2.2 D)
      have h2 := putD_length_le (.str q.2.1) q.2.2 D
      rw [List.length_cons]
      exact Nat.le_trans h1 (by omega)
  intro l
  have := this l []
  simpa [initD] using this
noncomputable def InitAt (K : Frag) (q : Nat × Str × PyData) : Prop := ∃ lo t v n, K.lookup q.1 = some lo ∧ lo.cls = .type "tuple" ∧ lo.data = .seq #[.str q.2.1 t, v] n ∧ Flat v q.2.2
theorem init_loop {w : World} {A : Around} {E : Value → Shared → Prop} {s : Shared} {env : Env} {h₀ : Heap} {target : Expr} {body : List Stmt} {Q : Flow → Shared → Prop} {I f : Addr} {c : String} {keep rest pre0 : List (Addr × Obj)} {o : Obj} {m₀ : Str → Option Value} {kvs : List (Str × Value)} {K : Frag}
    (hq : ∀ q ∈ initL, InitAt K q) (hk : ∀ p ∈ keep, p ∈ pre0 ++ rest) (hI : ∀ p ∈ pre0 ++ (f, o) :: rest, @LT.lt Nat _ p.1 I) (hd : o.IsDictOf (PySem.strKind PySem.Challenge.rw_nz0133_01.row.prog w) kvs) (hf : FlatPairs PyData.str kvs [])
    (hs : ∀ (q : Nat × Str × PyData) t v u u2 o' kvs' D' it h tk lo n, K.lookup q.1 = some lo → lo.cls = .type "tuple" → lo.data = .seq #[.str q.2.1 t, v] n → Flat v q.2.2 → D'.length ≤ 60 → it.cls = .type c → o'.IsDictOf (PySem.strKind PySem.Challenge.rw_nz0133_01.row.prog w) kvs' → FlatPairs PyData.str kvs' D' → Fr h₀ env.locals h (fun y => if y = Str.ofString "value" then u else if y = Str.ofString "name" then u2 else m₀ y) → News h₀ env.locals h ((I, it) :: (pre0 ++ (f, o') :: rest)) →
      wpAny (model PySem.Challenge.rw_nz0133_01.row.prog w) A (assign target env (.ref q.1)) (fun _ s₂ => wpAny (model PySem.Challenge.rw_nz0133_01.row.prog w) A (execs body env) (fun fl s' => fl = .next ∧ ∃ h' tk' o2 kvs2, s' = { s with heap := h', toks := tk' } ∧ Fr h₀ env.locals h' (fun y => if y = Str.ofString "value" then some v else if y = Str.ofString "name" then some (.str q.2.1 t) else if y = Str.ofString "value" then u else if y = Str.ofString "name" then u2 else m₀ y) ∧ News h₀ env.locals h' ((I, it) :: (pre0 ++ (f, o2) :: rest)) ∧ o2.IsDictOf (PySem.strKind PySem.Challenge.rw_nz0133_01.row.prog w) kvs2 ∧ FlatPairs PyData.str kvs2 (putD (.str q.2.1) q.2.2 D')) E s₂) E { s with heap := h, toks := tk })
    (hz : ∀ u u2 o' kvs' h tk, o'.IsDictOf (PySem.strKind PySem.Challenge.rw_nz0133_01.row.prog w) kvs' → FlatPairs PyData.str kvs' (stD st0) → Fr h₀ env.locals h (fun y => if y = Str.ofString "value" then u else if y = Str.ofString "name" then u2 else m₀ y) → News h₀ env.locals h (pre0 ++ (f, o') :: rest) → Q .next { s with heap := h, toks := tk }) :
    ItemsRest PySem.Challenge.rw_nz0133_01.row.prog w A E h₀ env target body Q s [(I, c)] keep (initL.map fun (q : Nat × Str × PyData) => PySem.W.Itm.val (.ref q.1)) m₀ (pre0 ++ (f, o) :: rest) := by
  refine items_ind (fun l m news => (∃ u u2, m = (fun y => if y = Str.ofString "value" then u else if y = Str.ofString "name" then u2 else m₀ y)) ∧ ∃ pre, pre ++ l = initL ∧ ∃ o' kvs', news = pre0 ++ (f, o') :: rest ∧ o'.IsDictOf (PySem.strKind PySem.Challenge.rw_nz0133_01.row.prog w) kvs' ∧ FlatPairs PyData.str kvs' (initD pre)) ?_ ?_ initL m₀ _ ⟨⟨m₀ (Str.ofString "value"), m₀ (Str.ofString "name"), ?_⟩, [], rfl, o, kvs, rfl, hd, hf⟩
  · rintro m news ⟨⟨u, u2, rfl⟩, pre, e, o', kvs', rfl, a, b⟩ h tk F N
    rw [List.append_nil] at e
    subst e
    exact hz u u2 o' kvs' h tk a (by rw [← initD_all]; exact b) F N
  · rintro q r m news ⟨⟨u, u2, rfl⟩, pre, e, o', kvs', rfl, a, b⟩ v' h tk it hc ev F N
    have hx : q ∈ initL := by rw [← e]; exact List.mem_append_right _ (.head _)
    obtain ⟨lo, t, v, n, k1, k2, k3, k4⟩ := hq q hx
    have hl : (initD pre).length ≤ 60 := by
      have q0 := congrArg List.length e
      rw [List.length_append, List.length_cons] at q0
      have q9 : initL.length = 11 := rfl
      have := initD_len pre
      omega
    have ev' : v' = .ref q.1 := ev
    subst ev'
    refine wpAny_mono (hs q t v u u2 o' kvs' _ it h tk lo n k1 k2 k3 k4 hl hc a b F N) (fun _ s₂ y => wpAny_mono y (fun fl s₃ z => ?_) fun _ _ z => z) fun _ _ z => z
    obtain ⟨rfl, h', tk', o2, kvs2, rfl, F2, N2, a2, b2⟩ := z
    have hI2 : ∀ p ∈ pre0 ++ (f, o2) :: rest, @LT.lt Nat _ p.1 I := fun p hp => by
      rcases List.mem_append.mp hp with hp | hp
      · exact hI p (List.mem_append_left _ hp)
      rcases List.mem_cons.mp hp with rfl | hp
      · exact hI (f, o) (List.mem_append_right _ (.head _))
      · exact hI p (List.mem_append_right _ (.tail _ hp))
    refine show UnrEndW _ _ _ _ _ _ from ⟨h', tk', _, _, rfl, F2, N2, fun p hp q hq => by rw [List.mem_singleton.mp hq]; exact Nat.ne_of_lt (hI2 p hp), subL_of fun p hp => ?_, ⟨some v, some (.str q.2.1 t), funext fun y => ?_⟩, pre ++ [q], by rw [List.append_assoc]; exact e, o2, kvs2, rfl, a2, ?_⟩
    · rcases List.mem_append.mp (hk p hp) with h | h
      · exact List.mem_append_left _ h
      · exact List.mem_append_right _ (.tail _ h)
    · by_cases q1 : y = Str.ofString "value"
      · simp only [if_pos q1]
      by_cases q2 : y = Str.ofString "name"
      · simp only [if_neg q1, if_pos q2]
      · simp only [if_neg q1, if_neg q2]
    · unfold initD
      rw [List.foldl_append]
      exact b2
  · funext y
    by_cases e : y = Str.ofString "value"
    · rw [if_pos e, e]
    rw [if_neg e]
    by_cases e2 : y = Str.ofString "name"
    · rw [if_pos e2, e2]
    · rw [if_neg e2]

section
variable {w : World} {mean : ExcName → Option Value} {mg mb : Str → Option Value} {dp un : Nat} {gd : Option (List Code)} {cn : Str} {cs : Scope} {a : Addr} {ccd : Value} {cl : List (Str × Addr)} {outer : List Env} {A₀ : Around} {base h₀ : Heap} {L : Addr} {m : Str → Option Value} {led : List (Addr × Obj)} {G : Obj → List (Addr × Obj)} {s : Shared} {Q E : Value → Shared → Prop}


theorem sayMKb : True := by
  k_with "exec For Tuple BinOp cons nil" => (k_here; (rename Fr _ _ _ _ => lF'); (with_unfolding_all refine' For_turns lF' ?_; k_whole))
  k_with "binaryOp Add ref ref" => (k_here; first | (k_dflt (refine' kde_addT ?k1q0 ?k2q0 ?k3q0 ?k4q0 ?k5q0 ?k6q0 ?k7q0 ?k8q0 ?_; (case k1q0 => k_asm); (case k2q0 => k_asm); (case k3q0 => exact kun_topT (by k_asm) (by k_asm) (by k_is)); (case k4q0 => exact kun_topT (by k_asm) (by k_asm) (by k_is)); (case k5q0 => exact List.cons_ne_nil _ _); (case k6q0 => exact List.cons_ne_nil _ _); (case k7q0 => exact Nat.le_of_ble_eq_true rfl); (case k8q0 => kl_lit); k_whole); intro D' h' F' N' l1; (try k_lt l1); (try k_sweep)) | (k_dflt (refine' kde_addT ?k1q1 ?k2q1 ?k3q1 ?k4q1 ?k5q1 ?k6q1 ?k7q1 ?k8q1 ?_; (case k1q1 => k_asm); (case k2q1 => k_asm); (case k3q1 => exact kun_topT (by k_asm) (by k_asm) (by k_is)); (case k4q1 => exact kun_topT (by k_asm) (by k_asm) (by k_is)); (case k5q1 => exact List.cons_ne_nil _ _); (case k6q1 => exact List.cons_ne_nil _ _); (case k7q1 => exact Nat.le_of_ble_eq_true rfl); (case k8q1 => kl_lit); k_whole); intro D' h' F' N' l1; (try k_lt l1); (try k_sweep)))
  k_with "ItemsRest" => (refine Stop.out ?_)
  k_with "setItem ref str" => (k_here; first | (k_dflt (refine' setItem_K PyProof.V.same_str (strKind_is _ _ _ _) ?vq0 ?Fq0 ?Nq0 ?Uq0 ?dq0 ?fq0 ?_ ?zq0; (case Fq0 => k_asm); (case Nq0 => k_asm); (case Uq0 => k_updF); (case dq0 => assumption); (case fq0 => assumption); (case zq0 => (refine' roomD ?qq0; (case qq0 => omega))); (case vq0 => assumption)); intro h' o' F' N' hd' hf'; (try dsimp only at N')) | (k_dflt (refine' setItem_K PyProof.V.same_str (strKind_is _ _ _ _) ?vq1 ?Fq1 ?Nq1 ?Uq1 ?dq1 ?fq1 ?_ ?zq1; (case Fq1 => k_asm); (case Nq1 => k_asm); (case Uq1 => k_updF); (case dq1 => assumption); (case fq1 => assumption); (case zq1 => (refine' roomD ?qq1; (case qq1 => omega))); (case vq1 => assumption)); intro h' o' F' N' hd' hf'; (try dsimp only at N')))
  exact True.intro
theorem mk_call
    (B : Below A₀ base outer h₀) (F : Fr h₀ L s.heap m) (X : (hd.heap_39 w.params).In h₀) (T : Top hd.view_39 LS mean mg mb h₀) (hk : cs.kind = .function)
    (hdp : dp + 10 < recursionLimit) (hu : un + 100 < cLine) (NL : News h₀ L s.heap led)
    (hret : ∀ o dx d hsh tv nd (od : Obj) kvs h' tk', Fr h₀ L h' m → News h₀ L h' ((d, od) :: (dx, optD hsh tv d nd) :: (o, optI dx) :: led) → od.IsDictOf (PySem.strKind PySem.Challenge.rw_nz0133_01.row.prog w) kvs → FlatPairs PyData.str kvs (stD st0) → (d == sysModules) = false →
      (∀ p ∈ led, @LT.lt Nat _ p.1 dx) → @LT.lt Nat _ dx o → @LT.lt Nat _ o d → Q (.ref o) { s with heap := h', toks := tk' }) :
    wpAny (model PySem.Challenge.rw_nz0133_01.row.prog w) (ktrTop dp un gd cn cs L a ccd cl outer) (call (.ref 142) []) Q E s := by
  k_dflt (refine' call_cls ?k1 ?k2 ?k3 ?k4 ?k5 ?k6 ?_; (case k1 => k_asm); (case k2 => k_asm); (case k3 => k_asm); (case k4 => k_is); (case k5 => k_is); (case k6 => k_is))
  intro x dx hA FA NA lA lB
  replace lB : @LT.lt Nat _ dx x := lB
  have hmu : ∀ p ∈ [(x, instObj 142 dx), (dx, dictOf [] 0)], p ∈ (x, instObj 142 dx) :: (dx, dictOf [] 0) :: led := List.forall_mem_cons.mpr ⟨.head _, List.forall_mem_singleton.mpr (.tail _ (.head _))⟩
  k_dflt (k_extra "ktr_enter")
  k_steps
  refine Stop.mk ?_
  k_dflt (refine' init_loop (K := hd.heap_39 w.params) (pre0 := [_]) ?hq8 ?hk8 ?hI8 ?hd8 ?hf8 ?hs8 ?hz8)
  case hd8 => assumption
  case hf8 => assumption
  case hq8 => (repeat (first | exact List.forall_mem_nil _ | refine List.forall_mem_cons.mpr ⟨⟨_, _, _, _, (by k_is), rfl, rfl, (by first | exact Flat.bool _ | exact Flat.int _ _)⟩, ?_⟩))
  case hk8 => exact fun p hp => List.mem_append_left _ hp
  case hI8 =>
    dsimp only [List.cons_append, List.nil_append]
    (repeat (first | exact List.forall_mem_nil _ | refine List.forall_mem_cons.mpr ⟨(by (try dsimp only); omega), ?_⟩))
  case hs8 =>
    intro q8 t8 v8 u8 w8 o8 kvs8 D8 it8 h8 tk8 lo8 n8 e1 e2 e3 e4 hl8 hc8 hd8 hf8 F8 N8
    dsimp only [List.cons_append, List.nil_append] at N8 ⊢
    clear hret
    rename (hd.heap_39 w.params).In _ => X8
    k_dflt (refine unpackK F8 N8 X8 e1 e2 e3 rfl rfl rfl ?_)
    intro h7 F7 N7
    k_steps
    all_goals assumption
  intro u8 w8 o8 kvs8 h8 tk8 hd8 hf8 F8 N8
  dsimp only [List.cons_append, List.nil_append] at N8
  k_steps
  rename Frm _ _ _ => fr9
  rename News h₀ L _ _ => kN9
  refine' hret _ _ _ _ _ _ _ _ _ _ ?F (List.forall_mem_cons.mpr ⟨kN9 _ ?a, List.forall_mem_cons.mpr ⟨kN9 _ ?b, List.forall_mem_cons.mpr ⟨kN9 _ ?c, ?d⟩⟩⟩) ?od (by assumption) (by assumption) lA lB ?lt
  case F => assumption
  case a => k_mem
  case b => k_mem
  case c => k_mem
  case od => assumption
  case lt => omega
  intro q hq
  refine led_rest NA fr9 (by assumption) q (.tail _ (.tail _ hq)) ?_
  have l9 : @LT.lt Nat _ q.1 dx := lA q hq
  intro hm
  simp only [List.map_cons, List.map_nil, List.mem_cons, List.not_mem_nil, or_false] at hm
  rcases hm with e | e <;> rw [e] at l9 <;> omega
end
end

section
theorem freshCop : True := by
  w_top off
  k_with_none
  exact True.intro
open PySem PySem.W PyProof.Rows PyProof.V PySem.Calls PySem.Spec
set_option maxRecDepth 100000
set_option maxHeartbeats 400000
local macro_rules | `(tactic| ktr_unf) => `(tactic| first | k_asm | exact rfl | k_mem | ktr_room | ktr_units | k_updF | omega)
theorem sayCopa : True := by
  k_with_none
  k_with "ktr_enter" => (first | ((refine' code_defN ?k1q0 ?k2q0 ?k3q0 ?k4q0 ?kMq0 ?k5q0 ?kAq0 ?kFq0 ?kKq0 ?k6q0 ?k7q0 ?k8q0 ?k9q0 ?kBq0 ?_ ?c2q0 ?c3q0 ?c4q0 ?c5q0; (case kAq0 => exact rfl); (case kFq0 => exact rfl); (case kKq0 => assumption); (case k1q0 => k_asm); (case k2q0 => k_asm); (case k3q0 => k_asm); (case k4q0 => k_asm); (case kMq0 => assumption); (case k5q0 => k_asm); (case k6q0 => k_is); (case k7q0 => k_is); (case k8q0 => ktr_room); (case k9q0 => exact BindsTo.of_eq rfl); (case c5q0 => decide); (case kBq0 => exact locs rfl); (case c2q0 => exact rfl); (case c3q0 => exact rfl); (case c4q0 => exact rfl); k_whole; intro g' L' h' FG' F' N' B' X' T' fr' l1 l2; (try k_lt l1); (try dsimp only); (try k_fold))) | ((refine' code_defN ?k1q1 ?k2q1 ?k3q1 ?k4q1 ?kMq1 ?k5q1 ?kAq1 ?kFq1 ?kKq1 ?k6q1 ?k7q1 ?k8q1 ?k9q1 ?kBq1 ?_ ?c2q1 ?c3q1 ?c4q1 ?c5q1; (case kAq1 => exact rfl); (case kFq1 => exact rfl); (case kKq1 => assumption); (case k1q1 => k_asm); (case k2q1 => k_asm); (case k3q1 => k_asm); (case k4q1 => k_asm); (case kMq1 => assumption); (case k5q1 => k_asm); (case k6q1 => k_is); (case k7q1 => k_is); (case k8q1 => ktr_room); (case k9q1 => exact BindsTo.of_eq rfl); (case c5q1 => decide); (case kBq1 => exact locs rfl); (case c2q1 => exact rfl); (case c3q1 => exact rfl); (case c4q1 => exact rfl); k_whole; intro g' L' h' FG' F' N' B' X' T' fr' l1 l2; (try k_lt l1); (try dsimp only); (try k_fold))))
  exact True.intro
theorem skey {w : World} (k : Str) (v : Value) (h : (PySem.strKind PySem.Challenge.rw_nz0133_01.row.prog w).is k v = true) : ∃ t, v = kyVal (PyData.str k) t := by
  cases v <;> first | (cases h; done) | skip
  rename_i y t
  have e : y = k := by
    have := h
    first | exact (of_decide_eq_true this).symm | exact of_decide_eq_true this | exact (beq_iff_eq.mp this) | exact (beq_iff_eq.mp this).symm
  exact ⟨t, by rw [e]; rfl⟩

/-- the loop that fills the copy -/
theorem copy_loop {w : World} {A : Around} {E : Value → Shared → Prop} {s : Shared} {env : Env} {h₀ : Heap} {target : Expr} {body : List Stmt} {Q : Flow → Shared → Prop} {I f : Addr} {c : String} {keep rest : List (Addr × Obj)} {o : Obj} {m₀ : Str → Option Value} {kvs : List (Str × Value)} {st : Str → PyData}
    (hk : ∀ p ∈ keep, p ∈ rest) (hI : ∀ p ∈ (f, o) :: rest, @LT.lt Nat _ p.1 I) (hd : o.IsDictOf (PySem.strKind PySem.Challenge.rw_nz0133_01.row.prog w) kvs) (hf : FlatPairs PyData.str kvs [])
    (hs : ∀ x t u o' kvs' D' it h tk, x ∈ namesL → D'.length ≤ 60 → it.cls = .type c → o'.IsDictOf (PySem.strKind PySem.Challenge.rw_nz0133_01.row.prog w) kvs' → FlatPairs PyData.str kvs' D' → Fr h₀ env.locals h (fun y => if y = Str.ofString "name" then u else m₀ y) → News h₀ env.locals h ((I, it) :: (f, o') :: rest) →
      wpAny (model PySem.Challenge.rw_nz0133_01.row.prog w) A (assign target env (.str x t)) (fun _ s₂ => wpAny (model PySem.Challenge.rw_nz0133_01.row.prog w) A (execs body env) (fun fl s' => fl = .next ∧ ∃ h' tk' o2 kvs2, s' = { s with heap := h', toks := tk' } ∧ Fr h₀ env.locals h' (fun y => if y = Str.ofString "name" then some (.str x t) else if y = Str.ofString "name" then u else m₀ y) ∧ News h₀ env.locals h' ((I, it) :: (f, o2) :: rest) ∧ o2.IsDictOf (PySem.strKind PySem.Challenge.rw_nz0133_01.row.prog w) kvs2 ∧ FlatPairs PyData.str kvs2 (putD (.str x) (st x) D')) E s₂) E { s with heap := h, toks := tk })
    (hz : ∀ u o' kvs' h tk, o'.IsDictOf (PySem.strKind PySem.Challenge.rw_nz0133_01.row.prog w) kvs' → FlatPairs PyData.str kvs' (stD st) → Fr h₀ env.locals h (fun y => if y = Str.ofString "name" then u else m₀ y) → News h₀ env.locals h ((f, o') :: rest) → Q .next { s with heap := h, toks := tk }) :
    ItemsRest PySem.Challenge.rw_nz0133_01.row.prog w A E h₀ env target body Q s [(I, c)] keep (namesL.map fun x => PySem.W.Itm.tok fun t => Value.str x t) m₀ ((f, o) :: rest) := by
  refine items_ind (fun l m news => (∃ u, m = (fun y => if y = Str.ofString "name" then u else m₀ y)) ∧ ∃ pre, pre ++ l = namesL ∧ ∃ o' kvs', news = (f, o') :: rest ∧ o'.IsDictOf (PySem.strKind PySem.Challenge.rw_nz0133_01.row.prog w) kvs' ∧ FlatPairs PyData.str kvs' (pre.map fun y => (PyData.str y, st y))) ?_ ?_ namesL m₀ _ ⟨⟨m₀ (Str.ofString "name"), ?_⟩, [], rfl, o, kvs, rfl, hd, hf⟩
  · rintro m news ⟨⟨u, rfl⟩, pre, e, o', kvs', rfl, a, b⟩ h tk F N
    rw [List.append_nil] at e
    subst e
    exact hz u o' kvs' h tk a b F N
  · rintro x r m news ⟨⟨u, rfl⟩, pre, e, o', kvs', rfl, a, b⟩ v h tk it hc ⟨t, ev⟩ F N
    have hx : x ∈ namesL := by rw [← e]; exact List.mem_append_right _ (.head _)
    have hl : (pre.map fun y => (PyData.str y, st y)).length ≤ 60 := by
      have q := congrArg List.length e
      rw [List.length_append, List.length_cons] at q
      have q9 : namesL.length = 11 := rfl
      rw [List.length_map]; omega
    subst ev
    refine wpAny_mono (hs x t u o' kvs' _ it h tk hx hl hc a b F N) (fun _ s₂ y => wpAny_mono y (fun fl s₃ z => ?_) fun _ _ z => z) fun _ _ z => z
    obtain ⟨rfl, h', tk', o2, kvs2, rfl, F2, N2, a2, b2⟩ := z
    have hI2 : ∀ p ∈ (f, o2) :: rest, @LT.lt Nat _ p.1 I := List.forall_mem_cons.mpr ⟨hI (f, o) (.head _), fun p hp => hI p (.tail _ hp)⟩
    refine show UnrEndW _ _ _ _ _ _ from ⟨h', tk', _, _, rfl, F2, N2, fun p hp q hq => by rw [List.mem_singleton.mp hq]; exact Nat.ne_of_lt (hI2 p hp), subL_of fun p hp => .tail _ (hk p hp), ⟨some (.str x t), funext fun y => ?_⟩, pre ++ [x], by rw [List.append_assoc]; exact e, o2, kvs2, rfl, a2, by rw [← putD_next e]; exact b2⟩
    by_cases q : y = Str.ofString "name"
    · rw [if_pos q, if_pos q]
    · rw [if_neg q, if_neg q, if_neg q]
  · funext y
    by_cases e : y = Str.ofString "name"
    · rw [if_pos e, e]
    · rw [if_neg e]

section
variable {w : World} {mean : ExcName → Option Value} {mg mb : Str → Option Value} {dp un : Nat} {gd : Option (List Code)} {cn : Str} {cs : Scope} {a : Addr} {ccd : Value} {cl : List (Str × Addr)} {outer : List Env} {A₀ : Around} {base h₀ : Heap} {L : Addr} {m : Str → Option Value} {led : List (Addr × Obj)} {G : Obj → List (Addr × Obj)} {s : Shared} {Q E : Value → Shared → Prop}


theorem sayCopb : True := by
  k_with "exec For Name Attribute cons nil" => (k_here; (rename Fr _ _ _ _ => lF'); (with_unfolding_all refine' For_turns lF' ?_; k_whole))
  k_with "pyIter ref" => (k_here; (with_reducible show wpAny _ _ (pyIter (Value.ref _)) (fun it s₂ => TurnsAt _ _ _ _ _ _ _ _ _ it s₂) _ _); first | ((with_unfolding_all refine' kti_keys (knd := PySem.strKind _ _) (enc := PyData.str) (D := stD _) (xs := namesL.map fun x => PySem.W.Itm.tok fun t => Value.str x t) ?hq0 ?Fq0 ?Nq0 ?Tq0 ?mq0 skey ?eq0 ?_; (case hq0 => with_unfolding_all rfl); (case Fq0 => k_asm); (case Nq0 => k_asm); (case Tq0 => k_tabat); (case mq0 => k_mem); (case eq0 => exact rfl)); intro i' l1; (try k_lt l1)) | ((with_unfolding_all refine' kti_keys (knd := PySem.strKind _ _) (enc := PyData.str) (D := stD _) (xs := namesL.map fun x => PySem.W.Itm.tok fun t => Value.str x t) ?hq1 ?Fq1 ?Nq1 ?Tq1 ?mq1 skey ?eq1 ?_; (case hq1 => with_unfolding_all rfl); (case Fq1 => k_asm); (case Nq1 => k_asm); (case Tq1 => k_tabat); (case mq1 => k_mem); (case eq1 => exact rfl)); intro i' l1; (try k_lt l1)))
  k_with "ItemsRest" => (refine Stop.out ?_)
  k_with "setItem ref str" => (k_here; first | (k_dflt (refine' setItem_K PyProof.V.same_str (strKind_is _ _ _ _) ?vq0 ?Fq0 ?Nq0 ?Uq0 ?dq0 ?fq0 ?_ ?zq0; (case Fq0 => k_asm); (case Nq0 => k_asm); (case Uq0 => k_updF); (case dq0 => assumption); (case fq0 => assumption); (case zq0 => (refine' roomD ?qq0; (case qq0 => omega))); (case vq0 => k_flat)); intro h' o' F' N' hd' hf'; (try dsimp only at N')) | (k_dflt (refine' setItem_K PyProof.V.same_str (strKind_is _ _ _ _) ?vq1 ?Fq1 ?Nq1 ?Uq1 ?dq1 ?fq1 ?_ ?zq1; (case Fq1 => k_asm); (case Nq1 => k_asm); (case Uq1 => k_updF); (case dq1 => assumption); (case fq1 => assumption); (case zq1 => (refine' roomD ?qq1; (case qq1 => omega))); (case vq1 => k_flat)); intro h' o' F' N' hd' hf'; (try dsimp only at N')))
  exact True.intro
theorem cop_call {o dx d nd : Nat} {hsh : Int} {tv : Tok} {od : Obj} {kvs : List (Str × Value)} {st : Str → PyData}
    (B : Below A₀ base outer h₀) (F : Fr h₀ L s.heap m) (X : (hd.heap_39 w.params).In h₀) (T : Top hd.view_39 LS mean mg mb h₀) (hk : cs.kind = .function)
    (hdp : dp + 10 < recursionLimit) (hu : un + 100 < cLine) (NL : News h₀ L s.heap led) (h1 : (o, optI dx) ∈ led) (h2 : (dx, optD hsh tv d nd) ∈ led) (h3 : (d, od) ∈ led) (hod : od.IsDictOf (PySem.strKind PySem.Challenge.rw_nz0133_01.row.prog w) kvs) (hf : FlatPairs PyData.str kvs (stD st)) (lo : (d == sysModules) = false)
    (hret : ∀ f (fo : Obj) kvs' h' tk', fo.IsDictOf (PySem.strKind PySem.Challenge.rw_nz0133_01.row.prog w) kvs' → FlatPairs PyData.str kvs' (stD st) → (f == sysModules) = false → Fr h₀ L h' m → News h₀ L h' ((f, fo) :: led) → (∀ p ∈ led, @Ne Nat p.1 f) → Q (.ref f) { s with heap := h', toks := tk' }) :
    wpAny (model PySem.Challenge.rw_nz0133_01.row.prog w) (ktrTop dp un gd cn cs L a ccd cl outer) (call (.ref 139) [.ref o]) Q E s := by
  have hmu : ∀ p ∈ [(o, optI dx), (dx, optD hsh tv d nd), (d, od)], p ∈ led := List.forall_mem_cons.mpr ⟨h1, List.forall_mem_cons.mpr ⟨h2, List.forall_mem_singleton.mpr h3⟩⟩
  refine wpAny_call ?_
  k_dflt (k_extra "ktr_enter")
  k_steps
  refine Stop.mk ?_
  k_dflt (refine' copy_loop (st := st) ?hk8 ?hI8 ?hd8 ?hf8 ?hs8 ?hz8)
  case hd8 => assumption
  case hf8 => assumption
  case hk8 => exact fun p hp => by first | exact .tail _ hp | exact hp | (revert p; refine List.forall_mem_cons.mpr ⟨?_, ?_⟩ <;> first | exact List.forall_mem_nil _ | k_mem)
  case hI8 => (repeat (first | exact List.forall_mem_nil _ | refine List.forall_mem_cons.mpr ⟨(by (try dsimp only); omega), ?_⟩))
  case hs8 =>
    intro x8 t8 u8 o8 kvs8 D8 it8 h8 tk8 hx8 hl8 hc8 hd8 hf8 F8 N8
    have lk8 := st_look (st := st) hx8
    clear hret
    generalize stD st = D9 at hf lk8
    generalize st x8 = dv8 at *
    k_steps
    all_goals assumption
  intro u8 o8 kvs8 h8 tk8 hd8 hf8 F8 N8
  k_steps
  exact hret _ _ _ _ _ (by assumption) (by assumption) (by assumption) (by assumption) (led_new1 NL hmu (by assumption) (by k_sub) (by assumption) (by assumption)) (new_ne (by assumption) (by assumption) (by (refine allNe_all ?_); (simp only [AllNe, and_true]); omega))
end
end

section
theorem freshCompD : True := by
  w_top off
  k_with_none
  exact True.intro
open PySem PySem.W PyProof.Rows PyProof.V PySem.Calls PySem.Spec PyProof.Rows.LCg
set_option maxRecDepth 100000
set_option maxHeartbeats 400000
section
variable {prog : Program} {w : World} {A : Around} {E : Value → Shared → Prop} {s : Shared} {h₀ : Heap} {L : Addr} {m : Str → Option Value} {env : Env} {K : Type} [DecidableEq K] {knd : KeyKind prog w K}
noncomputable def CompSrcDK (knd : KeyKind prog w K) (A : Around) (h₀ : Heap) (L : Addr) (m : Str → Option Value) (env : Env) (elt : Expr) (x : Str) (scope : Scope) (cl : List (Str × Addr)) (Fin : Shared → List Value → List (Addr × Obj) → Prop) (xv : Value) (s₁ : Shared) : Prop :=
  ∃ d od kvs ep news, xv = .ref d ∧ A.handled = none ∧ Fr h₀ L s₁.heap m ∧ News h₀ L s₁.heap news ∧ (d, od) ∈ news ∧ KdkAt knd od kvs ep ∧ (d == sysModules) = false ∧ kvs.length ≤ sizeLine ∧
    ∀ s₂ : Shared, (∃ h, s₂ = { s₁ with heap := h }) → CompRest prog w A h₀ L m env elt x scope cl s₂ (fun nw => (d, od) ∈ nw) (fun i v => ∃ k y, kvs[i]? = some (k, y) ∧ knd.is k v = true) (Fin s₂) kvs.length 0 [] news
theorem ListComp_DK {elt iter : Expr} {x : Str} {px : Pos} {scope : Scope} {cl : List (Str × Addr)} {pos : Pos} {Q : Value → Shared → Prop} (F₀ : Fr h₀ L s.heap m)
    (hclos : closureFor scope env = pure cl) (hcell : ∀ y ∈ scope.names, y.2 ≠ .cell) (hkind : scope.kind = .function)
    (hnames : ∀ y ∈ scope.names, y.2 = .local → scope.names.lookup y.1 = some .local) (hx : scope.names.lookup x = some .local)
    (h : wpAny (model prog w) A (eval iter env) (CompSrcDK knd A h₀ L m env elt x scope cl (fun s₂ => FinE h₀ L m s₂ Q)) E s)
    (hs : ∀ x, foldedSetIterable iter env x = pure x := by intro _; rfl) :
    wpAny (model prog w) A (eval (.ListComp elt [⟨.Name x px, iter, [], 0⟩] scope pos) env) Q E s := by
  rw [eval_ListComp]
  refine wpAny_comprehension_free (use := none) rfl hs hclos hkind hnames (wpAny_mono h (fun xv s₁ h₁ => ?_) fun _ _ e => e)
  obtain ⟨d, od, kvs, ep, news, rfl, hh, F, N, hm, hk, lo, hsz, R⟩ := h₁
  have hat := hk.dictAt (N.get hm)
  have hlt : d < s₁.heap.objs.size := hat.lt_size
  refine wpAny_pyIter_dict lo hat ?_
  refine block_U (Walks.dictKeys (knd := knd) hh s₁.heap.objs.size d (Nat.ne_of_lt hlt) kvs ep) hsz (fun i h st => by obtain ⟨o, e, _⟩ := st.1; exact ⟨o, e⟩)
    (fun i h h' o nw st q q' k N S => ⟨by obtain ⟨o', x, r⟩ := st.1; rw [q] at x; cases x; exact ⟨o, q', r⟩, hk.dictAt (N.get S)⟩) hcell hkind hx ⟨⟨_, Heap.get?_push_size _ rfl, rfl, rfl⟩, hat.push _⟩ (fun b hb => ?_)
    (F.keeps fun _ _ e => Heap.get?_push_of_some _ e) (N.grown fun _ _ e => Heap.get?_push_of_some _ e) (Nat.ne_of_lt F.ns.lt) (next_is_new F) (fun p hp => Nat.ne_of_lt (Heap.lt_size (N p hp).1)) hm (R _ ⟨_, rfl⟩) ?_
  · show b < (s₁.heap.push _).objs.size
    rw [Heap.size_push]
    rcases List.mem_cons.mp hb with rfl | hb
    · exact Nat.lt_succ_self _
    · rw [List.mem_singleton.mp hb]; exact Nat.lt_succ_of_lt hlt
  · intro D C h tk m' ys news' F' N' o1 hn hC₀ hD₀ hCL hDL hCD offC fin
    refine ⟨m', hn, fun h'' hs'' => fin D h'' tk (F'.change hs'' hCL hC₀) (fun p hp => ?_) o1⟩
    refine ⟨hs''.extBut _ _ ?_ (N' p hp).1, (N' p hp).2⟩
    rcases List.mem_cons.mp hp with rfl | hp
    · exact Ne.symm hCD
    · exact offC p hp
theorem comp_ind {elt : Expr} {x : Str} {scope : Scope} {cl : List (Str × Addr)} {S : List (Addr × Obj) → Prop} {Pv : Nat → Value → Prop} {Fin : List Value → List (Addr × Obj) → Prop} (n : Nat) (P : Nat → List Value → List (Addr × Obj) → Prop)
    (hz : ∀ ys news, P n ys news → Fin ys news)
    (hs : ∀ i ys news, i < n → P i ys news → ∀ v I oI C oC D m₂ h tk (E' : Value → Shared → Prop), Pv i v → NsObj oC m₂ → m₂ x = some v → Fr h₀ L h m → News h₀ L h ((I, oI) :: (C, oC) :: (D, lst ys) :: news) → Off3 I C D news → ((@Ne Nat I C) ∧ (@Ne Nat I D) ∧ (@Ne Nat C D)) →
      wpAny (model prog w) A (eval elt (compEnvC scope cl C env)) (CompEnd h₀ L m { s with heap := h, toks := tk } I oI C oC D (lst ys) S (fun y news' => P (i + 1) (ys ++ [y]) news')) E' { s with heap := h, toks := tk }) :
    ∀ k i ys news, i + k = n → P i ys news → CompRest prog w A h₀ L m env elt x scope cl s S Pv Fin k i ys news := by
  intro k
  induction k with
  | zero => intro i ys news e p; exact hz ys news (by rw [← e]; exact p)
  | succ k ih =>
    intro i ys news e p v I oI C oC D m₂ h tk E' a b c F N o ne
    refine wpAny_mono (hs i ys news (by omega) p v I oI C oC D m₂ h tk E' a b c F N o ne) (fun y s₂ z => ?_) fun _ _ z => z
    obtain ⟨a1, a2, a3, a4, a5, a6, a7, a8, a9⟩ := z
    exact ⟨a1, a2, a3, a4, a5, a6, a7, a8, ih (i + 1) _ _ (by omega) a9⟩
end
/-- a sort whose answers are known -/
noncomputable def runB {α : Type} (n : Nat) (lt : Nat → Nat → Bool) : KasT α → Option α
  | .ret a => some a
  | .ask i j k => if i < n ∧ j < n ∧ i ≠ j then runB n lt (k (lt i j)) else none
theorem kas_run {α : Type} {n : Nat} {lt : Nat → Nat → Bool} {cmp : Nat → Nat → (Bool → Shared → Prop) → Shared → Prop} {s : Shared} {Q : α → Shared → Prop}
    (hc : ∀ i j C, i < n → j < n → i ≠ j → C (lt i j) s → cmp i j C s) : ∀ (t : KasT α) (a : α), runB n lt t = some a → Q a s → t.kasWp cmp Q s := by
  intro t
  induction t with
  | ret b => intro a e q; cases e; exact q
  | ask i j k ih =>
    intro a e q
    rw [runB] at e
    split at e
    · rename_i h
      exact hc i j _ h.1 h.2.1 h.2.2 (ih _ a e q)
    · cases e
end

section
theorem freshSortN : True := by
  w_top off
  k_with_none
  exact True.intro
open PySem PySem.W PyProof.Rows PyProof.V PySem.Calls PySem.Spec PyProof.Rows.LCg
set_option maxRecDepth 100000
set_option maxHeartbeats 400000
noncomputable def nameAt (i : Nat) : Str := namesL.getD i (Str.ofString "")
noncomputable def ltN (i j : Nat) : Bool := decide ((nameAt i).cps.toList < (nameAt j).cps.toList)
noncomputable def sortP : List Nat := [3, 0, 6, 7, 1, 5, 4, 2, 8, 9, 10]
theorem sort_run : runB 11 ltN (kas_sort 11) = some sortP.toArray := by kernel_rfl
theorem names_apart : ∀ i < 11, ∀ j < 11, i ≠ j → nameAt i ≠ nameAt j := by decide +kernel
section
variable {prog : Program} {w : World} {A : Around} {E : Value → Shared → Prop} {s : Shared} {h₀ : Heap} {L : Addr} {m : Str → Option Value} {news : List (Addr × Obj)} {vs : List Value} {l : Addr} {nl : Nat} {Q : Value → Shared → Prop}
/-- the i-th value is a tuple of the i-th name and a text -/
noncomputable def PairAt (news : List (Addr × Obj)) (i : Nat) (v : Value) : Prop := ∃ (a : Addr) (y : Str) (t u : Tok), v = .ref a ∧ (a, tupO [.str (nameAt i) t, .str y u]) ∈ news
theorem kat_of : ∀ (vs : List Value) (j : Nat), (∀ i (h : i < vs.length), PairAt news (j + i) vs[i]) → News h₀ L s.heap news → ∃ fs, KatTups s.heap vs fs ∧ fs.length = vs.length ∧ ∀ v ∈ fs, ∃ x t, v = Value.str x t
  | [], _, _, _ => ⟨[], trivial, rfl, fun _ h => nomatch h⟩
  | v :: vs, j, h, N => by
    obtain ⟨a, y, t, u, rfl, hm⟩ : PairAt news j v := h 0 (Nat.zero_lt_succ _)
    obtain ⟨fs, k, e, f⟩ := kat_of vs (j + 1) (fun i hi => by
      have := h (i + 1) (Nat.succ_lt_succ hi)
      rw [show j + (i + 1) = j + 1 + i by omega] at this
      exact this) N
    exact ⟨.str (nameAt j) t :: fs, KatTups.cons (N.get hm) rfl rfl (by simp) k, by simp [e], by
      intro v hv
      rcases List.mem_cons.mp hv with rfl | hv
      · exact ⟨_, _, rfl⟩
      · exact f v hv⟩
theorem sorted_tups (F : Fr h₀ L s.heap m) (N : News h₀ L s.heap news) (hl : (l, PySem.W.listOf vs.toArray nl) ∈ news) (hlen : vs.length = 11) (hv : ∀ i (h : i < vs.length), PairAt news i vs[i])
    (h : ∀ D h' c, Fr h₀ L h' m → News h₀ L h' ((D, PySem.W.listOf (sortP.map fun i => vs.getD i .none).toArray c) :: news) → (∀ p ∈ news, @LT.lt Nat _ p.1 D) → Q (.ref D) { s with heap := h' }) :
    wpAny (model prog w) A (call (.builtin "sorted") [.ref l]) Q E s := by
  refine kat_sorted F N (N.isList hl) (by omega) (by omega) fun D e1 h' F' N' l1 => ?_
  have hv' : ∀ i (h : i < vs.length), PairAt ((D, seqObj "list" #[] e1) :: news) i vs[i] := fun i hi => by
    obtain ⟨a, y, t, u, e, hm⟩ := hv i hi
    exact ⟨a, y, t, u, e, .tail _ hm⟩
  obtain ⟨fs, kt, kl, kf⟩ := kat_of (s := { s with heap := h' }) vs 0 (fun i hi => by rw [Nat.zero_add]; exact hv' i hi) N'
  refine kat_kind (T := .type "str") kt (by omega) (fun v hm => ?_) (by decide) ?_
  · obtain ⟨x, t, rfl⟩ := kf v hm
    exact Looks.of_pure rfl
  rw [hlen]
  refine kas_run (n := 11) (lt := ltN) (fun i j C hi hj hij hC => ?_) _ _ sort_run ?_
  · obtain ⟨a, y, t, u, ea, hma⟩ := hv' i (by omega)
    obtain ⟨b, z, t', u', eb, hmb⟩ := hv' j (by omega)
    unfold kas_ask
    rw [show vs.getD i .none = vs[i] by simp [hlen, hi], show vs.getD j .none = vs[j] by simp [hlen, hj], ea, eb]
    refine kat_lt (N'.get hma) rfl (N'.get hmb) rfl (kat_cons (wpAny_eqBool_str ?_))
    rw [decide_eq_false (names_apart i hi j hj hij)]
    exact kat_no (oneLt_str hC)
  · refine KasFin.intro F' N' (.head fun p hp => Nat.ne_of_lt (l1 p hp)) fun h'' c F'' N'' => h D h'' c F'' ?_ l1
    exact N''
end
end

section
theorem freshPlainL : True := by
  w_top off
  k_with_none
  exact True.intro
open PySem PySem.W PyProof.Rows PyProof.V PySem.Calls PySem.Spec PyProof.Rows.LCg
set_option maxRecDepth 100000
set_option maxHeartbeats 400000
/-- what repr says of an option's value -/
noncomputable def reprS : PyData → Str
  | .bool b => if b then Str.ofString "True" else Str.ofString "False"
  | .int i => Str.ofString (toString i)
  | _ => Str.ofString ""
noncomputable def PairV (led : List (Addr × Obj)) (st : Str → PyData) (i : Nat) (v : Value) : Prop := ∃ (a : Addr) (t u : Tok), v = .ref a ∧ (a, tupO [.str (nameAt i) t, .str (reprS (st (nameAt i))) u]) ∈ led
theorem PairV.mono {led led' : List (Addr × Obj)} {st : Str → PyData} {i : Nat} {v : Value} (h : PairV led st i v) (hs : ∀ p ∈ led, p ∈ led') : PairV led' st i v :=
  let ⟨a, t, u, e, m⟩ := h; ⟨a, t, u, e, hs _ m⟩
/-- the sorted pairs of a table, as a list that the ledger bears -/
noncomputable def PlainAt (led : List (Addr × Obj)) (st : Str → PyData) (l : Addr) : Prop := ∃ (c : Nat) (ws : Nat → Value), (l, PySem.W.listOf (sortP.map ws).toArray c) ∈ led ∧ ∀ i, i < 11 → PairV led st i (ws i)
theorem PlainAt.mono {led led' : List (Addr × Obj)} {st : Str → PyData} {l : Addr} (h : PlainAt led st l) (hs : ∀ p ∈ led, p ∈ led') : PlainAt led' st l :=
  let ⟨c, ws, m, k⟩ := h; ⟨c, ws, hs _ m, fun i hi => (k i hi).mono hs⟩
noncomputable def plainD (st : Str → PyData) : PyData := .list (sortP.map fun i => .tuple [.str (nameAt i), .str (reprS (st (nameAt i)))])
theorem reads_all {h₀ h : Heap} {L : Addr} {led : List (Addr × Obj)} {st : Str → PyData} {ws : Nat → Value} (N : News h₀ L h led) (k : ∀ i, i < 11 → PairV led st i (ws i)) : ∀ ps : List Nat, (∀ i ∈ ps, i < 11) → ∃ as, ReadsAll h (ps.map ws) (ps.map fun i => .tuple [.str (nameAt i), .str (reprS (st (nameAt i)))]) as
  | [], _ => ⟨_, .nil⟩
  | i :: ps, hp => by
    obtain ⟨a, t, u, e, m⟩ := k i (hp i (.head _))
    obtain ⟨as, r⟩ := reads_all N k ps fun j hj => hp j (.tail _ hj)
    have one : ∃ bs, Reads h (ws i) (.tuple [.str (nameAt i), .str (reprS (st (nameAt i)))]) bs := by
      rw [e]; exact ⟨_, reads_tuple_at (N.get m) rfl rfl (.cons (.str _ _) (.cons (.str _ _) .nil))⟩
    obtain ⟨bs, one⟩ := one
    exact ⟨_, .cons one r⟩
theorem PlainAt.reads {h₀ h : Heap} {L l : Addr} {led : List (Addr × Obj)} {st : Str → PyData} (p : PlainAt led st l) (N : News h₀ L h led) : ∃ as, Reads h (.ref l) (plainD st) as := by
  obtain ⟨c, ws, m, k⟩ := p
  obtain ⟨as, r⟩ := reads_all N k sortP (by decide)
  exact ⟨_, reads_list_at (N.get m) rfl rfl (by simpa using r)⟩
section
variable {prog : Program} {w : World} {A : Around} {s : Shared} {h₀ : Heap} {L : Addr} {m : Str → Option Value} {env : Env}
theorem comp_pairs {elt : Expr} {x : Str} {scope : Scope} {cl : List (Str × Addr)} {S : List (Addr × Obj) → Prop} {Pv : Nat → Value → Prop} {Fin : List Value → List (Addr × Obj) → Prop} {base : List (Addr × Obj)} {n : Nat} {st : Str → PyData} (hn : n = 11)
    (hz : ∀ ys tups, ys.length = 11 → (∀ j (h : j < ys.length), PairV tups st j ys[j]) → (∀ q ∈ tups, ∀ p ∈ base, @LT.lt Nat _ p.1 q.1) → Fin ys (tups ++ base))
    (hb : ∀ nw, (∀ p ∈ base, p ∈ nw) → S nw)
    (hs : ∀ i led v C oC m₂ h tk (E' : Value → Shared → Prop), i < 11 → Pv i v → NsObj oC m₂ → m₂ x = some v → Fr h₀ L h m → News h₀ L h led → (C, oC) ∈ led → (∀ p ∈ base, p ∈ led) →
      wpAny (model prog w) A (eval elt (compEnvC scope cl C env)) (fun y s₂ => ∃ (a : Addr) (t u : Tok) (h' : Heap) (tk' : Nat), y = .ref a ∧ s₂ = { s with heap := h', toks := tk' } ∧ Fr h₀ L h' m ∧ News h₀ L h' ((a, tupO [.str (nameAt i) t, .str (reprS (st (nameAt i))) u]) :: led) ∧ (∀ p ∈ led, @LT.lt Nat _ p.1 a)) E' { s with heap := h, toks := tk }) :
    CompRest prog w A h₀ L m env elt x scope cl s S Pv Fin n 0 [] base := by
  subst hn
  refine comp_ind 11 (fun i ys news => ∃ tups, news = tups ++ base ∧ ys.length = i ∧ (∀ j (h : j < ys.length), PairV tups st j ys[j]) ∧ (∀ q ∈ tups, ∀ p ∈ base, @LT.lt Nat _ p.1 q.1)) ?_ ?_ 11 0 [] base rfl ⟨[], rfl, rfl, fun j h => absurd h (Nat.not_lt_zero _), fun _ h => nomatch h⟩
  · rintro ys news ⟨tups, rfl, e, k, l⟩
    exact hz ys tups e k l
  · rintro i ys news hi ⟨tups, rfl, e, k, l⟩ v I oI C oC D m₂ h tk E' hv hC hm F N off ne
    have inb : ∀ p ∈ base, p ∈ (I, oI) :: (C, oC) :: (D, lst ys) :: (tups ++ base) := fun p hp => .tail _ (.tail _ (.tail _ (List.mem_append_right _ hp)))
    refine wpAny_mono (hs i _ v C oC m₂ h tk E' hi hv hC hm F N (.tail _ (.head _)) inb) (fun y s₂ z => ?_) fun _ _ z => z
    obtain ⟨a, t, u, h', tk', rfl, rfl, F', N', l'⟩ := z
    refine CompEnd.intro F' N' ((a, tupO [.str (nameAt i) t, .str (reprS (st (nameAt i))) u]) :: (tups ++ base)) ?_ ⟨⟨?_, ?_, ?_⟩, off⟩ (hb _ fun p hp => .tail _ (List.mem_append_right _ hp)) ⟨(a, tupO [.str (nameAt i) t, .str (reprS (st (nameAt i))) u]) :: tups, rfl, by simp [e], ?_, ?_⟩
    · intro p hp
      rcases List.mem_cons.mp hp with rfl | hp
      · exact .tail _ (.head _)
      rcases List.mem_cons.mp hp with rfl | hp
      · exact .tail _ (.tail _ (.head _))
      rcases List.mem_cons.mp hp with rfl | hp
      · exact .tail _ (.tail _ (.tail _ (.head _)))
      rcases List.mem_cons.mp hp with rfl | hp
      · exact .head _
      · exact .tail _ (.tail _ (.tail _ (.tail _ hp)))
    · exact Nat.ne_of_gt (l' _ (.head _))
    · exact Nat.ne_of_gt (l' _ (.tail _ (.head _)))
    · exact Nat.ne_of_gt (l' _ (.tail _ (.tail _ (.head _))))
    · intro j hj
      by_cases hji : j < ys.length
      · rw [List.getElem_append_left hji]
        exact (k j hji).mono fun p hp => .tail _ hp
      · have : j = i := by rw [List.length_append, List.length_singleton] at hj; omega
        subst this
        rw [List.getElem_append_right (by omega)]
        simp only [e, Nat.sub_self, List.getElem_cons_zero]
        exact ⟨a, t, u, rfl, .head _⟩
    · intro q hq p hp
      rcases List.mem_cons.mp hq with rfl | hq
      · exact l' p (inb p hp)
      · exact l q hq p hp
end
theorem nameAt_mem : ∀ i < 11, nameAt i ∈ namesL := by decide +kernel
end

section
theorem freshPlain : True := by
  w_top off
  k_with_none
  exact True.intro
open PyProof.Rows.LCg PySem PySem.W PyProof.Rows PyProof.V PySem.Calls PySem.Spec
set_option maxRecDepth 100000
set_option maxHeartbeats 400000
local macro_rules | `(tactic| ktr_unf) => `(tactic| first | k_asm | exact rfl | k_mem | ktr_room | ktr_units | k_updF | omega)

theorem sayPlaina : True := by
  k_with_none
  k_with "ktr_enter" => (first | ((refine' code_defN ?k1q0 ?k2q0 ?k3q0 ?k4q0 ?kMq0 ?k5q0 ?kAq0 ?kFq0 ?kKq0 ?k6q0 ?k7q0 ?k8q0 ?k9q0 ?kBq0 ?_ ?c2q0 ?c3q0 ?c4q0 ?c5q0; (case kAq0 => exact rfl); (case kFq0 => exact rfl); (case kKq0 => assumption); (case k1q0 => k_asm); (case k2q0 => k_asm); (case k3q0 => k_asm); (case k4q0 => k_asm); (case kMq0 => assumption); (case k5q0 => k_asm); (case k6q0 => k_is); (case k7q0 => k_is); (case k8q0 => ktr_room); (case k9q0 => exact BindsTo.of_eq rfl); (case c5q0 => decide); (case kBq0 => exact locs rfl); (case c2q0 => exact rfl); (case c3q0 => exact rfl); (case c4q0 => exact rfl); k_whole; intro g' L' h' FG' F' N' B' X' T' fr' l1 l2; (try k_lt l1); (try dsimp only); (try k_fold))) | ((refine' code_defN ?k1q1 ?k2q1 ?k3q1 ?k4q1 ?kMq1 ?k5q1 ?kAq1 ?kFq1 ?kKq1 ?k6q1 ?k7q1 ?k8q1 ?k9q1 ?kBq1 ?_ ?c2q1 ?c3q1 ?c4q1 ?c5q1; (case kAq1 => exact rfl); (case kFq1 => exact rfl); (case kKq1 => assumption); (case k1q1 => k_asm); (case k2q1 => k_asm); (case k3q1 => k_asm); (case k4q1 => k_asm); (case kMq1 => assumption); (case k5q1 => k_asm); (case k6q1 => k_is); (case k7q1 => k_is); (case k8q1 => ktr_room); (case k9q1 => exact BindsTo.of_eq rfl); (case c5q1 => decide); (case kBq1 => exact locs rfl); (case c2q1 => exact rfl); (case c3q1 => exact rfl); (case c4q1 => exact rfl); k_whole; intro g' L' h' FG' F' N' B' X' T' fr' l1 l2; (try k_lt l1); (try dsimp only); (try k_fold))))
  k_with "ktr_enter" => (first | ((refine' code_cellsL ?k1q0 ?k2q0 ?k3q0 ?k4q0 ?kMq0 ?k5q0 ?kAq0 ?kFq0 ?kKq0 ?k6q0 ?k7q0 ?k8q0 ?k9q0 ?kBq0 ?kDq0 ?_ ?c2q0 ?c3q0 ?c4q0; (case kAq0 => exact rfl); (case kFq0 => exact rfl); (case kKq0 => assumption); (case k1q0 => k_asm); (case k2q0 => k_asm); (case k3q0 => k_asm); (case k4q0 => k_asm); (case kMq0 => assumption); (case k5q0 => k_asm); (case k6q0 => k_is); (case k7q0 => k_is); (case k8q0 => ktr_room); (case k9q0 => exact BindsTo.of_eq rfl); (case kBq0 => exact rfl); (case kDq0 => decide +kernel); (case c2q0 => exact rfl); (case c3q0 => exact rfl); (case c4q0 => exact rfl); k_whole; intro g' L' h' tk' cells' FG' F' N' Y' B' X' T' fr' l1; (try k_lt l1); k_cells Y'; (try simp only [List.cons_append, List.nil_append] at N'); (try dsimp only); (try k_lift B'); (try k_fold))) | ((refine' code_cellsL ?k1q1 ?k2q1 ?k3q1 ?k4q1 ?kMq1 ?k5q1 ?kAq1 ?kFq1 ?kKq1 ?k6q1 ?k7q1 ?k8q1 ?k9q1 ?kBq1 ?kDq1 ?_ ?c2q1 ?c3q1 ?c4q1; (case kAq1 => exact rfl); (case kFq1 => exact rfl); (case kKq1 => assumption); (case k1q1 => k_asm); (case k2q1 => k_asm); (case k3q1 => k_asm); (case k4q1 => k_asm); (case kMq1 => assumption); (case k5q1 => k_asm); (case k6q1 => k_is); (case k7q1 => k_is); (case k8q1 => ktr_room); (case k9q1 => exact BindsTo.of_eq rfl); (case kBq1 => exact rfl); (case kDq1 => decide +kernel); (case c2q1 => exact rfl); (case c3q1 => exact rfl); (case c4q1 => exact rfl); k_whole; intro g' L' h' tk' cells' FG' F' N' Y' B' X' T' fr' l1; (try k_lt l1); k_cells Y'; (try simp only [List.cons_append, List.nil_append] at N'); (try dsimp only); (try k_lift B'); (try k_fold))))
  exact True.intro
theorem CompSrcDK.ledger {prog : Program} {w : World} {A : Around} {h₀ : Heap} {L : Addr} {m : Str → Option Value} {env : Env} {K : Type} [DecidableEq K] {knd : KeyKind prog w K} {elt : Expr} {x : Str} {scope : Scope} {cl : List (Str × Addr)} {Fin : Shared → List Value → List (Addr × Obj) → Prop} {s₁ : Shared} {d : Addr} {od : Obj} {kvs : List (K × Value)} {news : List (Addr × Obj)}
    (hh : A.handled = none) (F : Fr h₀ L s₁.heap m) (N : News h₀ L s₁.heap news) (hm : (d, od) ∈ news) (hk : od.IsDictOf knd kvs) (lo : (d == sysModules) = false) (hsz : kvs.length ≤ sizeLine)
    (h : ∀ g, CompRest prog w A h₀ L m env elt x scope cl { s₁ with heap := g } (fun nw => (d, od) ∈ nw) (fun i v => ∃ k y, kvs[i]? = some (k, y) ∧ knd.is k v = true) (Fin { s₁ with heap := g }) kvs.length 0 [] news) :
    CompSrcDK knd A h₀ L m env elt x scope cl Fin (.ref d) s₁ :=
  let ⟨ep, hk⟩ := KdkAt.of hk
  ⟨d, od, kvs, ep, news, rfl, hh, F, N, hm, hk, lo, hsz, fun _ ⟨g, e⟩ => e ▸ h g⟩
theorem open_led {h₀ h : Heap} {L D : Addr} {ys : List Value} {o : Obj} {tups base : List (Addr × Obj)} {st : Str → PyData} (N : News h₀ L h ((D, o) :: (tups ++ base))) (kk : ∀ j (h : j < ys.length), PairV tups st j ys[j]) :
    ∃ led8, led8 = (D, o) :: (tups ++ base) ∧ News h₀ L h led8 ∧ (D, o) ∈ led8 ∧ ∀ i (h : i < ys.length), PairAt led8 i ys[i] :=
  ⟨_, rfl, N, .head _, fun i hi => by
    obtain ⟨a, t, u, e, m⟩ := kk i hi
    exact ⟨a, _, t, u, e, .tail _ (List.mem_append_left _ m)⟩⟩
theorem Off1_mem {D : Addr} : ∀ {l : List (Addr × Obj)}, Off1 D l → ∀ p ∈ l, @Ne Nat p.1 D
  | [], _, _, h => nomatch h
  | _ :: _, x, p, h => by
    rcases List.mem_cons.mp h with rfl | h
    · exact x.1
    · exact Off1_mem x.2 p h

section
variable {w : World} {mean : ExcName → Option Value} {mg mb : Str → Option Value} {dp un : Nat} {gd : Option (List Code)} {cn : Str} {cs : Scope} {a : Addr} {ccd : Value} {cl : List (Str × Addr)} {outer : List Env} {A₀ : Around} {base h₀ : Heap} {L : Addr} {m : Str → Option Value} {led : List (Addr × Obj)} {G : Obj → List (Addr × Obj)} {s : Shared} {Q E : Value → Shared → Prop}

theorem sayPlainb : True := by
  k_with "call builtin:sorted" => (k_here; first | (k_dflt (refine' sorted_tups ?Fq0 ?Nq0 ?hlq0 ?hlenq0 ?hvq0 ?_; (case Fq0 => k_asm); (case Nq0 => k_asm); (case hlq0 => assumption); (case hlenq0 => assumption); (case hvq0 => assumption)); intro D' h' c' F' N' l1) | (k_dflt (refine' sorted_tups ?Fq1 ?Nq1 ?hlq1 ?hlenq1 ?hvq1 ?_; (case Fq1 => k_asm); (case Nq1 => k_asm); (case hlq1 => assumption); (case hlenq1 => assumption); (case hvq1 => assumption)); intro D' h' c' F' N' l1))
  k_with "eval ListComp" => (k_here; k_dflt (refine ListComp_DK (knd := PySem.strKind PySem.Challenge.rw_nz0133_01.row.prog w) (F₀ := by k_asm) (by with_unfolding_all rfl) (by decide) (by rfl) (by decide) (by rfl) ?_))
  k_with "CompSrcDK" => (k_here; first | (k_dflt (refine' CompSrcDK.ledger ?hhq0 ?Fq0 ?Nq0 ?hmq0 ?hkq0 ?loq0 ?hzq0 ?_; (case hhq0 => exact rfl); (case Fq0 => k_asm); (case Nq0 => k_asm); (case hmq0 => k_mem); (case hkq0 => assumption); (case loq0 => assumption); (case hzq0 => assumption)); intro g') | (k_dflt (refine' CompSrcDK.ledger ?hhq1 ?Fq1 ?Nq1 ?hmq1 ?hkq1 ?loq1 ?hzq1 ?_; (case hhq1 => exact rfl); (case Fq1 => k_asm); (case Nq1 => k_asm); (case hmq1 => k_mem); (case hkq1 => assumption); (case loq1 => assumption); (case hzq1 => assumption)); intro g'))
  exact True.intro
theorem plain_call {d : Nat} {od : Obj} {kvs : List (Str × Value)} {st : Str → PyData}
    (B : Below A₀ base outer h₀) (F : Fr h₀ L s.heap m) (X : (hd.heap_39 w.params).In h₀) (T : Top hd.view_39 LS mean mg mb h₀) (hk : cs.kind = .function)
    (hdp : dp + 10 < recursionLimit) (hu : un + 100 < cLine) (NL : News h₀ L s.heap led) (h3 : (d, od) ∈ led) (hod : od.IsDictOf (PySem.strKind PySem.Challenge.rw_nz0133_01.row.prog w) kvs) (hf : FlatPairs PyData.str kvs (stD st)) (lo : (d == sysModules) = false) (W : WT st)
    (hret : ∀ l new h' tk', PlainAt new st l → Fr h₀ L h' m → News h₀ L h' (new ++ led) → (∀ p ∈ led, ∀ q ∈ new, @Ne Nat p.1 q.1) → Q (.ref l) { s with heap := h', toks := tk' }) :
    wpAny (model PySem.Challenge.rw_nz0133_01.row.prog w) (ktrTop dp un gd cn cs L a ccd cl outer) (call (.ref 193) [.ref d]) Q E s := by
  have hmu : ∀ p ∈ [(d, od)], p ∈ led := List.forall_mem_singleton.mpr h3
  have hz9 : kvs.length ≤ sizeLine := by rw [← hf.length, sizeLine_eq]; show 11 ≤ _; decide
  refine wpAny_call ?_
  k_dflt (k_extra "ktr_enter")
  k_steps
  refine' comp_pairs (st := st) ?hn ?hz ?hb ?hs
  case hn => exact hf.length.symm
  case hb => exact fun nw h => h _ (.tail _ (.head _))
  case hs =>
    intro i led9 v C oC m2 h9 tk9 E9 hi hv hC hm F9 N9 mC mB
    have m1 := mB _ (.head _)
    have m2 := mB _ (.tail _ (.head _))
    obtain ⟨k9, y9, e9, q9⟩ := hv
    have hn9 := nameAt_mem i hi
    obtain ⟨t9, rfl⟩ : ∃ t, v = .str (nameAt i) t := by
      obtain ⟨t, e⟩ := skey k9 v q9
      obtain ⟨dv, hD, _⟩ := hf.at e9
      have : k9 = nameAt i := by
        have hD' : (stD st)[i]? = some (.str (nameAt i), st (nameAt i)) := by
          unfold stD
          rw [List.getElem?_map]
          have : namesL[i]? = some (nameAt i) := by
            have h11 : i < namesL.length := hi
            rw [List.getElem?_eq_getElem h11]; unfold nameAt; simp [h11]
          rw [this]; rfl
        rw [hD'] at hD
        injection hD with hD
        injection hD with hD _
        injection hD with hD
        exact hD.symm
      exact ⟨t, by rw [e, this]; rfl⟩
    have lk9 := st_look (st := st) hn9
    rcases flag_or hn9 with hfl | hfl
    · obtain ⟨b9, hb9⟩ := W.flag _ hfl
      rw [hb9] at lk9 ⊢
      clear hret W
      generalize stD st = D9 at hf lk9
      generalize nameAt i = x9 at *
      k_steps
      any_goals (refine (show Fr _ _ _ _ from ?_); assumption)
      any_goals (refine (show News _ _ _ _ from ?_); assumption)
      rename News _ _ _ led9 => N8
      rename_i p9 hp9
      exact Heap.lt_size (N8 _ hp9).1
    · obtain ⟨i9, hb9, i0, i30⟩ := W.count _ hfl
      rw [hb9] at lk9 ⊢
      clear hret W
      generalize stD st = D9 at hf lk9
      generalize nameAt i = x9 at *
      k_steps
      any_goals (refine (show Fr _ _ _ _ from ?_); assumption)
      any_goals (refine (show News _ _ _ _ from ?_); assumption)
      rename News _ _ _ led9 => N8
      rename_i p9 hp9
      exact Heap.lt_size (N8 _ hp9).1
  case hz =>
    intro ys tups e11 kk ll D h9 tk9 F9 N9 o9
    obtain ⟨led8, h8, N8, mD, kk8⟩ := open_led N9 kk
    clear N9
    k_steps
    rename Frm _ _ _ => fr9
    rename News _ _ _ (_ :: led8) => kN
    have md : (d, od) ∈ led8 := by rw [h8]; exact .tail _ (List.mem_append_right _ (.tail _ (.head _)))
    have mt : ∀ q ∈ tups, q ∈ led8 := fun q hq => by rw [h8]; exact .tail _ (List.mem_append_left _ hq)
    refine hret _ ((D', PySem.W.listOf (List.map (fun i => ys.getD i Value.none) sortP).toArray c') :: tups) _ _ ⟨c', fun i => ys.getD i Value.none, .head _, fun i hi => ?_⟩ (by assumption) (led_new NL hmu kN (List.forall_mem_singleton.mpr (.tail _ md)) (fun p hp => ?_) fr9 F') (fun p hp q hq => ?_)
    · have := (kk i (by omega)).mono fun p hp => List.mem_cons_of_mem (D', PySem.W.listOf (List.map (fun i => ys.getD i Value.none) sortP).toArray c') hp
      show PairV _ st i (ys.getD i Value.none)
      rw [show ys.getD i Value.none = ys[i] by simp [e11, hi]]
      exact this
    · rcases List.mem_cons.mp hp with rfl | hp
      · exact .head _
      · exact .tail _ (mt p hp)
    · rcases List.mem_cons.mp hq with rfl | hq
      · exact new_neM fr9 N' (.head _) (List.forall_mem_singleton.mpr (Nat.ne_of_lt (l1 _ md))) p hp
      · exact new_neM fr9 N' (.tail _ (mt q hq)) (List.forall_mem_singleton.mpr (Nat.ne_of_lt (ll q hq _ (.tail _ (.head _))))) p hp
end
end

section
theorem freshDraw : True := by
  w_top off
  k_with_none
  exact True.intro
open PySem PySem.W PyProof.Rows PyProof.V PySem.Calls PySem.Spec
set_option maxRecDepth 100000
set_option maxHeartbeats 8000000

section
variable {w : World} {mean : ExcName → Option Value} {mg mb : Str → Option Value} {dp un : Nat} {gd : Option (List Code)} {cn : Str} {cs : Scope} {a : Addr} {ccd : Value} {cl : List (Str × Addr)} {outer : List Env} {A₀ : Around} {base h₀ : Heap} {L : Addr} {m : Str → Option Value} {led : List (Addr × Obj)} {G : Obj → List (Addr × Obj)} {s : Shared} {Q E : Value → Shared → Prop}

theorem sayDrawa : True := by
  k_with_none
  k_with "ktr_enter" => (first | ((refine' code_defL ?k1q0 ?k2q0 ?k3q0 ?k4q0 ?kMq0 ?k5q0 ?kAq0 ?kFq0 ?kKq0 ?k6q0 ?k7q0 ?k8q0 ?k9q0 ?kBq0 ?_ ?c2q0 ?c3q0 ?c4q0 ?c5q0; (case kAq0 => exact rfl); (case kFq0 => exact rfl); (case kKq0 => assumption); (case k1q0 => k_asm); (case k2q0 => k_asm); (case k3q0 => k_asm); (case k4q0 => k_asm); (case kMq0 => assumption); (case k5q0 => k_asm); (case k6q0 => k_is); (case k7q0 => k_is); (case k8q0 => ktr_room); (case k9q0 => exact BindsTo.of_eq rfl); (case c5q0 => decide); (case kBq0 => exact locs rfl); (case c2q0 => exact rfl); (case c3q0 => exact rfl); (case c4q0 => exact rfl); k_whole; intro g' L' h' FG' F' N' B' X' T' fr' l1; (try k_lt l1); (try dsimp only); (try k_fold))) | ((refine' code_defL ?k1q1 ?k2q1 ?k3q1 ?k4q1 ?kMq1 ?k5q1 ?kAq1 ?kFq1 ?kKq1 ?k6q1 ?k7q1 ?k8q1 ?k9q1 ?kBq1 ?_ ?c2q1 ?c3q1 ?c4q1 ?c5q1; (case kAq1 => exact rfl); (case kFq1 => exact rfl); (case kKq1 => assumption); (case k1q1 => k_asm); (case k2q1 => k_asm); (case k3q1 => k_asm); (case k4q1 => k_asm); (case kMq1 => assumption); (case k5q1 => k_asm); (case k6q1 => k_is); (case k7q1 => k_is); (case k8q1 => ktr_room); (case k9q1 => exact BindsTo.of_eq rfl); (case c5q1 => decide); (case kBq1 => exact locs rfl); (case c2q1 => exact rfl); (case c3q1 => exact rfl); (case c4q1 => exact rfl); k_whole; intro g' L' h' FG' F' N' B' X' T' fr' l1; (try k_lt l1); (try dsimp only); (try k_fold))))
  exact True.intro
theorem draw_call {t c : Nat} {t3 tm : Tok} {ot : Obj} {nl : Nat} {k many : Int} {vs : List Value} {ns : List Int}
    (B : Below A₀ base outer h₀) (F : Fr h₀ L s.heap m) (X : (hd.heap_39 w.params).In h₀) (T : Top hd.view_39 LS mean mg mb h₀) (hk : cs.kind = .function)
    (hdp : dp + 1 < recursionLimit) (hu : un + 8 < cLine)
    (NL : News h₀ L s.heap led) (U : UpdF t ot led G) (hc : (c, PySem.W.listOf vs.toArray nl) ∈ led) (hot : ot.IsDictOf (PySem.strKind PySem.Challenge.rw_nz0133_01.row.prog w) (tapeK c k t3)) (lo : (t == sysModules) = false)
    (hI : IntsAre vs ns) (hlen : ns.length < 100) (hk0 : 0 ≤ k) (hk1 : k < 1000) (hm : 0 < many) (htc : @Ne Nat t c)
    (hret : ∀ r t' t4 ot' h' tk', 0 ≤ r → r < many → Fr h₀ L h' m → News h₀ L h' (G ot') → ot'.IsDictOf (PySem.strKind PySem.Challenge.rw_nz0133_01.row.prog w) (tapeK c (k + 1) t4) → Q (.int r t') { s with heap := h', toks := tk' }) :
    wpAny (model PySem.Challenge.rw_nz0133_01.row.prog w) (ktrTop dp un gd cn cs L a ccd cl outer) (call (.ref 162) [.ref t, .int many tm]) Q E s := by
  have hmu : ∀ p ∈ [(t, ot), (c, PySem.W.listOf vs.toArray nl)], p ∈ led := List.forall_mem_cons.mpr ⟨UpdF.mem U, List.forall_mem_singleton.mpr hc⟩
  refine wpAny_call ?_
  k_dflt (k_extra "ktr_enter")
  k_steps
  all_goals
    refine hret _ _ _ _ _ _ ?_ ?_ (by assumption) (led_upd NL U hmu (by assumption) (.head _) ?_ (by simp) (by assumption) (by assumption)) (by assumption)
  all_goals first
    | exact Int.fmod_nonneg_of_pos _ hm
    | exact Int.fmod_lt_of_pos _ hm
    | (intro q hq hne; simp only [List.mem_cons, List.not_mem_nil, or_false] at hq; rcases hq with rfl | rfl; exact absurd rfl hne; exact .tail _ (.head _))
end
end

section
theorem freshLItem : True := by
  w_top off
  k_with_none
  exact True.intro
open PySem PySem.W PyProof.Rows PyProof.V PySem.Calls PySem.Spec
set_option maxRecDepth 100000
set_option maxHeartbeats 400000
local macro_rules | `(tactic| ktr_unf) => `(tactic| first | k_asm | exact rfl | k_mem | ktr_room | ktr_units | k_updF | omega)

theorem sayLItema : True := by
  k_with_none
  k_with "ktr_enter" => (first | ((refine' code_defN ?k1q0 ?k2q0 ?k3q0 ?k4q0 ?kMq0 ?k5q0 ?kAq0 ?kFq0 ?kKq0 ?k6q0 ?k7q0 ?k8q0 ?k9q0 ?kBq0 ?_ ?c2q0 ?c3q0 ?c4q0 ?c5q0; (case kAq0 => exact rfl); (case kFq0 => exact rfl); (case kKq0 => assumption); (case k1q0 => k_asm); (case k2q0 => k_asm); (case k3q0 => k_asm); (case k4q0 => k_asm); (case kMq0 => assumption); (case k5q0 => k_asm); (case k6q0 => k_is); (case k7q0 => k_is); (case k8q0 => ktr_room); (case k9q0 => exact BindsTo.of_eq rfl); (case c5q0 => decide); (case kBq0 => exact locs rfl); (case c2q0 => exact rfl); (case c3q0 => exact rfl); (case c4q0 => exact rfl); k_whole; intro g' L' h' FG' F' N' B' X' T' fr' l1 l2; (try k_lt l1); (try dsimp only); (try k_fold))) | ((refine' code_defN ?k1q1 ?k2q1 ?k3q1 ?k4q1 ?kMq1 ?k5q1 ?kAq1 ?kFq1 ?kKq1 ?k6q1 ?k7q1 ?k8q1 ?k9q1 ?kBq1 ?_ ?c2q1 ?c3q1 ?c4q1 ?c5q1; (case kAq1 => exact rfl); (case kFq1 => exact rfl); (case kKq1 => assumption); (case k1q1 => k_asm); (case k2q1 => k_asm); (case k3q1 => k_asm); (case k4q1 => k_asm); (case kMq1 => assumption); (case k5q1 => k_asm); (case k6q1 => k_is); (case k7q1 => k_is); (case k8q1 => ktr_room); (case k9q1 => exact BindsTo.of_eq rfl); (case c5q1 => decide); (case kBq1 => exact locs rfl); (case c2q1 => exact rfl); (case c3q1 => exact rfl); (case c4q1 => exact rfl); k_whole; intro g' L' h' FG' F' N' B' X' T' fr' l1 l2; (try k_lt l1); (try dsimp only); (try k_fold))))
  exact True.intro
theorem pow30 {r : Int} (h : r < 10 ^ Int.toNat 30) : r < 10 ^ 30 := h
section
variable {w : World} {mean : ExcName → Option Value} {mg mb : Str → Option Value} {dp un : Nat} {gd : Option (List Code)} {cn : Str} {cs : Scope} {a : Addr} {ccd : Value} {cl : List (Str × Addr)} {outer : List Env} {A₀ : Around} {base h₀ : Heap} {L : Addr} {m : Str → Option Value} {led : List (Addr × Obj)} {G : Obj → List (Addr × Obj)} {s : Shared} {Q E : Value → Shared → Prop}

theorem sayLItemb : True := by
  k_with "call ref" => (k_here; (with_reducible show wpAny _ _ (call (Value.ref 162) _) _ _ _); first | (k_dflt (refine' draw_call ?Bq0 ?Fq0 ?Xq0 ?Tq0 ?hkq0 ?hdq0 ?huq0 ?NLq0 ?Uq0 ?hcq0 ?hotq0 ?loq0 ?hIq0 ?hlenq0 ?hk0q0 ?hk1q0 ?hmq0 ?htcq0 ?_; (case hIq0 => assumption); (case hotq0 => assumption); (case Bq0 => ktr_unf); (case Fq0 => ktr_unf); (case Xq0 => ktr_unf); (case Tq0 => ktr_unf); (case hkq0 => ktr_unf); (case hdq0 => ktr_unf); (case huq0 => ktr_unf); (case NLq0 => ktr_unf); (case Uq0 => ktr_unf); (case hcq0 => ktr_unf); (case loq0 => ktr_unf); (case htcq0 => ktr_unf); (case hlenq0 => assumption); (case hmq0 => decide); (case hk1q0 => omega); (case hk0q0 => omega); k_whole); intro r9 t9 t4 ot9 h9 tk9 r90 r91 F9 N9 hot9; (try (have r92 := pow30 r91)); (try dsimp only at N9); (try dsimp only); (try k_fold)) | (k_dflt (refine' draw_call ?Bq1 ?Fq1 ?Xq1 ?Tq1 ?hkq1 ?hdq1 ?huq1 ?NLq1 ?Uq1 ?hcq1 ?hotq1 ?loq1 ?hIq1 ?hlenq1 ?hk0q1 ?hk1q1 ?hmq1 ?htcq1 ?_; (case hIq1 => assumption); (case hotq1 => assumption); (case Bq1 => ktr_unf); (case Fq1 => ktr_unf); (case Xq1 => ktr_unf); (case Tq1 => ktr_unf); (case hkq1 => ktr_unf); (case hdq1 => ktr_unf); (case huq1 => ktr_unf); (case NLq1 => ktr_unf); (case Uq1 => ktr_unf); (case hcq1 => ktr_unf); (case loq1 => ktr_unf); (case htcq1 => ktr_unf); (case hlenq1 => assumption); (case hmq1 => decide); (case hk1q1 => omega); (case hk0q1 => omega); k_whole); intro r9 t9 t4 ot9 h9 tk9 r90 r91 F9 N9 hot9; (try (have r92 := pow30 r91)); (try dsimp only at N9); (try dsimp only); (try k_fold)))
  exact True.intro
theorem strOk_of (x : String) : PyData.strOk (Str.ofString x) = true := by
  rw [Str.ofString_eq_toList]
  unfold PyData.strOk
  simp only [List.all_toArray, List.all_map, List.all_eq_true, Function.comp_apply, decide_eq_true_eq]
  intro c _
  have := c.valid
  show c.val.toNat < 1114112
  rcases this with h | h
  · exact Nat.lt_trans h (by decide)
  · exact h.2
theorem item_fin {t c : Nat} {ot oc ot' o1 o2 o3 : Obj} {t4 : Tok} {k : Int} {it : Itm} {v : Value} {a1 a2 a3 : Addr} {g h' : Heap} {L' : Addr} {m' : Str → Option Value} {mu' : List (Addr × Obj)} {tk' : Nat}
    (hret : ∀ (it : Itm) (v : Value) (a1 a2 a3 : Nat) (o1 o2 o3 : Obj) (t4 : Tok) (ot' : Obj) (h' : Heap) (tk' : Nat), it.At [(a1, o1), (a2, o2), (a3, o3)] v → (∀ r, it.count = some r → r < 10 ^ 30) → ot'.IsDictOf (PySem.strKind PySem.Challenge.rw_nz0133_01.row.prog w) (tapeK c (k + 2) t4) → Fr h₀ L h' m →
      News h₀ L h' ((a1, o1) :: (a2, o2) :: (a3, o3) :: G ot') → (∀ p ∈ led, @Ne Nat p.1 a1) → (∀ p ∈ led, @Ne Nat p.1 a2) → (∀ p ∈ led, @Ne Nat p.1 a3) → Q v { s with heap := h', toks := tk' })
    (NL : News h₀ L s.heap led) (U : UpdF t ot led G) (hmu : ∀ p ∈ [(t, ot), (c, oc)], p ∈ led) (hi : it.At [(a1, o1), (a2, o2), (a3, o3)] v) (hb : ∀ r, it.count = some r → r < 10 ^ 30) (hot : ot'.IsDictOf (PySem.strKind PySem.Challenge.rw_nz0133_01.row.prog w) (tapeK c (k + 2) t4)) (F : Fr h₀ L h' m)
    (fr : Frm led [(t, ot), (c, oc)] g) (N' : News g L' h' mu') (F' : Fr g L' h' m') (kN : News h₀ L h' mu') (ht' : (t, ot') ∈ mu') (hc' : (c, oc) ∈ mu') (h1 : (a1, o1) ∈ mu') (h2 : (a2, o2) ∈ mu') (h3 : (a3, o3) ∈ mu')
    (hn : ((@Ne Nat t a1 ∧ @Ne Nat c a1) ∧ (@Ne Nat t a2 ∧ @Ne Nat c a2)) ∧ (@Ne Nat t a3 ∧ @Ne Nat c a3)) : Q v { s with heap := h', toks := tk' } := by
  refine hret it v a1 a2 a3 o1 o2 o3 t4 ot' h' tk' hi hb hot F ?_ (new_neM fr N' h1 ?_) (new_neM fr N' h2 ?_) (new_neM fr N' h3 ?_)
  · have W := led_upd NL U hmu kN ht' (fun p hp hne => by
      simp only [List.mem_cons, List.not_mem_nil, or_false] at hp
      rcases hp with rfl | rfl
      · exact absurd rfl hne
      · exact hc') (by simp) fr F'
    intro q hq
    rcases List.mem_cons.mp hq with rfl | hq
    · exact kN _ h1
    rcases List.mem_cons.mp hq with rfl | hq
    · exact kN _ h2
    rcases List.mem_cons.mp hq with rfl | hq
    · exact kN _ h3
    exact W q hq
  · exact List.forall_mem_cons.mpr ⟨hn.1.1.1, List.forall_mem_singleton.mpr hn.1.1.2⟩
  · exact List.forall_mem_cons.mpr ⟨hn.1.2.1, List.forall_mem_singleton.mpr hn.1.2.2⟩
  · exact List.forall_mem_cons.mpr ⟨hn.2.1, List.forall_mem_singleton.mpr hn.2.2⟩
theorem num_b {i : Int} (h : i < 10 ^ 30) : ∀ r, (Itm.num i).count = some r → r < 10 ^ 30 := fun r e => by
  simp only [Itm.count] at e
  by_cases q : i < 0
  · rw [if_pos q] at e; cases e
  · rw [if_neg q] at e; cases e; exact h
theorem kk2 {w : World} {o : Obj} {c : Addr} {k : Int} {t4 : Tok} (h : o.IsDictOf (PySem.strKind PySem.Challenge.rw_nz0133_01.row.prog w) (tapeK c (k + 1 + 1) t4)) : o.IsDictOf (PySem.strKind PySem.Challenge.rw_nz0133_01.row.prog w) (tapeK c (k + 2) t4) := by
  rw [Int.add_assoc] at h; exact h

theorem item_call {t c : Nat} {t3 : Tok} {ot : Obj} {nl : Nat} {k : Int} {vs : List Value} {ns : List Int}
    (B : Below A₀ base outer h₀) (F : Fr h₀ L s.heap m) (X : (hd.heap_39 w.params).In h₀) (T : Top hd.view_39 LS mean mg mb h₀) (hk : cs.kind = .function)
    (hdp : dp + 4 < recursionLimit) (hu : un + 40 < cLine) (NL : News h₀ L s.heap led) (U : UpdF t ot led G) (hc : (c, PySem.W.listOf vs.toArray nl) ∈ led) (hot : ot.IsDictOf (PySem.strKind PySem.Challenge.rw_nz0133_01.row.prog w) (tapeK c k t3)) (lo : (t == sysModules) = false)
    (hI : IntsAre vs ns) (hlen : ns.length < 100) (hk0 : 0 ≤ k) (hk1 : k < 900) (htc : @Ne Nat t c)
    (hret : ∀ (it : Itm) (v : Value) (a1 a2 a3 : Nat) (o1 o2 o3 : Obj) (t4 : Tok) (ot' : Obj) (h' : Heap) (tk' : Nat), it.At [(a1, o1), (a2, o2), (a3, o3)] v → (∀ r, it.count = some r → r < 10 ^ 30) → ot'.IsDictOf (PySem.strKind PySem.Challenge.rw_nz0133_01.row.prog w) (tapeK c (k + 2) t4) → Fr h₀ L h' m →
      News h₀ L h' ((a1, o1) :: (a2, o2) :: (a3, o3) :: G ot') → (∀ p ∈ led, @Ne Nat p.1 a1) → (∀ p ∈ led, @Ne Nat p.1 a2) → (∀ p ∈ led, @Ne Nat p.1 a3) → Q v { s with heap := h', toks := tk' }) :
    wpAny (model PySem.Challenge.rw_nz0133_01.row.prog w) (ktrTop dp un gd cn cs L a ccd cl outer) (call (.ref 169) [.ref t]) Q E s := by
  have hmu : ∀ p ∈ [(t, ot), (c, PySem.W.listOf vs.toArray nl)], p ∈ led := List.forall_mem_cons.mpr ⟨UpdF.mem U, List.forall_mem_singleton.mpr hc⟩
  refine wpAny_call ?_
  k_dflt (k_extra "ktr_enter")
  k_steps
  · (refine' item_fin (it := .sym _) hret NL U hmu ⟨strOk_of _, _, _, _, rfl, .head _⟩ (fun _ h => nomatch h) (kk2 ?ko) ?F ?fr ?N ?F2 ?kN ?m1 ?m2 ?m3 ?m4 ?m5 ?hn; (case ko => assumption); (case F => assumption); (case fr => assumption); (case N => assumption); (case F2 => assumption); (case kN => assumption); (case m1 => k_mem); (case m2 => k_mem); (case m3 => k_mem); (case m4 => k_mem); (case m5 => k_mem); (case hn => (try dsimp only); omega))
  · (refine' item_fin (it := .sym _) hret NL U hmu ⟨strOk_of _, _, _, _, rfl, .head _⟩ (fun _ h => nomatch h) (kk2 ?ko) ?F ?fr ?N ?F2 ?kN ?m1 ?m2 ?m3 ?m4 ?m5 ?hn; (case ko => assumption); (case F => assumption); (case fr => assumption); (case N => assumption); (case F2 => assumption); (case kN => assumption); (case m1 => k_mem); (case m2 => k_mem); (case m3 => k_mem); (case m4 => k_mem); (case m5 => k_mem); (case hn => (try dsimp only); omega))
  · (refine' item_fin (it := .sym _) hret NL U hmu ⟨strOk_of _, _, _, _, rfl, .head _⟩ (fun _ h => nomatch h) (kk2 ?ko) ?F ?fr ?N ?F2 ?kN ?m1 ?m2 ?m3 ?m4 ?m5 ?hn; (case ko => assumption); (case F => assumption); (case fr => assumption); (case N => assumption); (case F2 => assumption); (case kN => assumption); (case m1 => k_mem); (case m2 => k_mem); (case m3 => k_mem); (case m4 => k_mem); (case m5 => k_mem); (case hn => (try dsimp only); omega))
  · (refine' item_fin (it := .sym _) hret NL U hmu ⟨strOk_of _, _, _, _, rfl, .head _⟩ (fun _ h => nomatch h) (kk2 ?ko) ?F ?fr ?N ?F2 ?kN ?m1 ?m2 ?m3 ?m4 ?m5 ?hn; (case ko => assumption); (case F => assumption); (case fr => assumption); (case N => assumption); (case F2 => assumption); (case kN => assumption); (case m1 => k_mem); (case m2 => k_mem); (case m3 => k_mem); (case m4 => k_mem); (case m5 => k_mem); (case hn => (try dsimp only); omega))
  · (refine' item_fin (it := .sym _) hret NL U hmu ⟨strOk_of _, _, _, _, rfl, .head _⟩ (fun _ h => nomatch h) (kk2 ?ko) ?F ?fr ?N ?F2 ?kN ?m1 ?m2 ?m3 ?m4 ?m5 ?hn; (case ko => assumption); (case F => assumption); (case fr => assumption); (case N => assumption); (case F2 => assumption); (case kN => assumption); (case m1 => k_mem); (case m2 => k_mem); (case m3 => k_mem); (case m4 => k_mem); (case m5 => k_mem); (case hn => (try dsimp only); omega))
  · (refine' item_fin (it := .num _) hret NL U hmu ⟨_, _, _, rfl, .head _⟩ ?hb (kk2 ?ko) ?F ?fr ?N ?F2 ?kN ?m1 ?m2 ?m3 ?m4 ?m5 ?hn; (case ko => assumption); (case F => assumption); (case fr => assumption); (case N => assumption); (case F2 => assumption); (case kN => assumption); (case m1 => k_mem); (case m2 => k_mem); (case m3 => k_mem); (case m4 => k_mem); (case m5 => k_mem); (case hn => (try dsimp only); omega); (case hb => exact num_b (by first | with_reducible assumption | omega)))
  · (refine' item_fin (it := .num _) hret NL U hmu ⟨_, _, _, rfl, .head _⟩ ?hb (kk2 ?ko) ?F ?fr ?N ?F2 ?kN ?m1 ?m2 ?m3 ?m4 ?m5 ?hn; (case ko => assumption); (case F => assumption); (case fr => assumption); (case N => assumption); (case F2 => assumption); (case kN => assumption); (case m1 => k_mem); (case m2 => k_mem); (case m3 => k_mem); (case m4 => k_mem); (case m5 => k_mem); (case hn => (try dsimp only); omega); (case hb => exact num_b (Int.lt_trans (Int.fmod_lt_of_pos _ (by decide)) (by decide))))
  · (refine' item_fin (it := .num _) hret NL U hmu ⟨_, _, _, rfl, .head _⟩ ?hb (kk2 ?ko) ?F ?fr ?N ?F2 ?kN ?m1 ?m2 ?m3 ?m4 ?m5 ?hn; (case ko => assumption); (case F => assumption); (case fr => assumption); (case N => assumption); (case F2 => assumption); (case kN => assumption); (case m1 => k_mem); (case m2 => k_mem); (case m3 => k_mem); (case m4 => k_mem); (case m5 => k_mem); (case hn => (try dsimp only); omega); (case hb => exact num_b (by omega)))
  · (refine' item_fin (it := .dec _) hret NL U hmu ⟨_, _, _, _, _, rfl, .head _, .tail _ (.head _)⟩ (fun _ h => nomatch h) (kk2 ?ko) ?F ?fr ?N ?F2 ?kN ?m1 ?m2 ?m3 ?m4 ?m5 ?hn; (case ko => assumption); (case F => assumption); (case fr => assumption); (case N => assumption); (case F2 => assumption); (case kN => assumption); (case m1 => k_mem); (case m2 => k_mem); (case m3 => k_mem); (case m4 => k_mem); (case m5 => k_mem); (case hn => (try dsimp only); omega))
  · (refine' item_fin (it := .txt) hret NL U hmu ⟨_, _, _, rfl, .head _⟩ (fun _ h => nomatch h) (kk2 ?ko) ?F ?fr ?N ?F2 ?kN ?m1 ?m2 ?m3 ?m4 ?m5 ?hn; (case ko => assumption); (case F => assumption); (case fr => assumption); (case N => assumption); (case F2 => assumption); (case kN => assumption); (case m1 => k_mem); (case m2 => k_mem); (case m3 => k_mem); (case m4 => k_mem); (case m5 => k_mem); (case hn => (try dsimp only); omega))
  · (refine' item_fin (it := .lst) hret NL U hmu ⟨_, _, _, _, _, _, rfl, .head _, .tail _ (.head _), .tail _ (.tail _ (.head _))⟩ (fun _ h => nomatch h) (kk2 ?ko) ?F ?fr ?N ?F2 ?kN ?m1 ?m2 ?m3 ?m4 ?m5 ?hn; (case ko => assumption); (case F => assumption); (case fr => assumption); (case N => assumption); (case F2 => assumption); (case kN => assumption); (case m1 => k_mem); (case m2 => k_mem); (case m3 => k_mem); (case m4 => k_mem); (case m5 => k_mem); (case hn => (try dsimp only); omega))
  · (refine' item_fin (it := .none) hret NL U hmu rfl (fun _ h => nomatch h) (kk2 ?ko) ?F ?fr ?N ?F2 ?kN ?m1 ?m2 ?m3 ?m4 ?m5 ?hn; (case ko => assumption); (case F => assumption); (case fr => assumption); (case N => assumption); (case F2 => assumption); (case kN => assumption); (case m1 => k_mem); (case m2 => k_mem); (case m3 => k_mem); (case m4 => k_mem); (case m5 => k_mem); (case hn => (try dsimp only); omega))
end
end

section
theorem freshPlainE : True := by
  w_top off
  k_with_none
  exact True.intro
open PySem PySem.W PyProof.Rows PyProof.V PySem.Calls PySem.Spec PyProof.Rows.LCg
set_option maxRecDepth 100000
set_option maxHeartbeats 400000
theorem repr_ok (v : PyData) : PyData.strOk (reprS v) = true := by
  unfold reprS
  split
  · split <;> exact strOk_of _
  · exact strOk_of _
  · exact strOk_of _
theorem name_ok : ∀ i ∈ sortP, PyData.strOk (nameAt i) = true := by decide +kernel
theorem plain_eqv (st : Str → PyData) : (plainD st).eqv (plainD st) = true := by
  simp [plainD, sortP, PyData.eqv, PyData.eqvAll]
theorem plain_shaped (st : Str → PyData) : SeqAt.shaped (plainD st) = true := by
  have h1 : PyData.canLayAll0 (sortP.map fun i => .tuple [.str (nameAt i), .str (reprS (st (nameAt i)))]) = true := by
    have : ∀ l : List Nat, (∀ i ∈ l, PyData.strOk (nameAt i) = true) → PyData.canLayAll0 (l.map fun i => .tuple [.str (nameAt i), .str (reprS (st (nameAt i)))]) = true := by
      intro l
      induction l with
      | nil => intro _; rfl
      | cons i l ih =>
        intro h
        simp only [List.map_cons, PyData.canLayAll0, PyData.canLay0, h i (.head _), repr_ok, Bool.and_true, Bool.true_and]
        exact ih fun j hj => h j (.tail _ hj)
    exact this sortP name_ok
  have h2 : (plainD st).depth ≤ 64 := by
    simp [plainD, sortP, PyData.depth, PyData.depthAll]
  unfold SeqAt.shaped
  rw [show (plainD st).canLay0 = true from by simpa [plainD, PyData.canLay0] using h1, decide_eq_true h2]
  rfl
section
variable {prog : Program} {w : World} {A : Around} {E : Value → Shared → Prop} {s : Shared} {h₀ : Heap} {L l1 l2 : Addr} {led new1 new2 : List (Addr × Obj)} {st : Str → PyData} {Q : Value → Shared → Prop}
theorem eq_plain (N : News h₀ L s.heap led) (P1 : PlainAt new1 st l1) (P2 : PlainAt new2 st l2) (s1 : ∀ p ∈ new1, p ∈ led) (s2 : ∀ p ∈ new2, p ∈ led) (hu : A.units + 64 < cLine) (h : Q (.bool true) s) : wpAny (model prog w) A (compareOp .Eq (.ref l1) (.ref l2)) Q E s := by
  obtain ⟨as, r1⟩ := (P1.mono s1).reads N
  obtain ⟨bs, r2⟩ := (P2.mono s2).reads N
  exact eq_dataH r1 r2 (plain_shaped st) (plain_shaped st) hu (by rw [plain_eqv]; exact h)
theorem ne_plain (N : News h₀ L s.heap led) (P1 : PlainAt new1 st l1) (P2 : PlainAt new2 st l2) (s1 : ∀ p ∈ new1, p ∈ led) (s2 : ∀ p ∈ new2, p ∈ led) (hu : A.units + 64 < cLine) (h : Q (.bool false) s) : wpAny (model prog w) A (compareOp .NotEq (.ref l1) (.ref l2)) Q E s := by
  obtain ⟨as, r1⟩ := (P1.mono s1).reads N
  obtain ⟨bs, r2⟩ := (P2.mono s2).reads N
  exact ne_dataH r1 r2 (plain_shaped st) (plain_shaped st) hu (by rw [plain_eqv]; exact h)
end
theorem map2_again {x y : Str} {a b u v : Option Value} {m₀ : Str → Option Value} : (fun z => if z = y then a else if z = x then b else if z = y then u else if z = x then v else m₀ z) = fun z => if z = y then a else if z = x then b else m₀ z := by
  funext z
  by_cases h1 : z = y
  · simp [h1]
  · by_cases h2 : z = x
    · simp [h1, h2]
    · simp [h1, h2]
end

section
theorem freshWritten : True := by
  w_top off
  k_with_none
  exact True.intro
open PySem PySem.W PyProof.Rows PyProof.V PySem.Calls PySem.Spec
set_option maxRecDepth 100000
set_option maxHeartbeats 400000
local macro_rules | `(tactic| ktr_unf) => `(tactic| first | k_asm | exact rfl | k_mem | ktr_room | ktr_units | k_updF | omega)

section
variable {w : World} {mean : ExcName → Option Value} {mg mb : Str → Option Value} {dp un : Nat} {gd : Option (List Code)} {cn : Str} {cs : Scope} {a : Addr} {ccd : Value} {cl : List (Str × Addr)} {outer : List Env} {A₀ : Around} {base h₀ : Heap} {L : Addr} {m : Str → Option Value} {led : List (Addr × Obj)} {G : Obj → List (Addr × Obj)} {s : Shared} {Q E : Value → Shared → Prop}

theorem sayWrittena : True := by
  k_with_none
  k_with "ktr_enter" => (first | ((refine' code_defN ?k1q0 ?k2q0 ?k3q0 ?k4q0 ?kMq0 ?k5q0 ?kAq0 ?kFq0 ?kKq0 ?k6q0 ?k7q0 ?k8q0 ?k9q0 ?kBq0 ?_ ?c2q0 ?c3q0 ?c4q0 ?c5q0; (case kAq0 => exact rfl); (case kFq0 => exact rfl); (case kKq0 => assumption); (case k1q0 => k_asm); (case k2q0 => k_asm); (case k3q0 => k_asm); (case k4q0 => k_asm); (case kMq0 => assumption); (case k5q0 => k_asm); (case k6q0 => k_is); (case k7q0 => k_is); (case k8q0 => ktr_room); (case k9q0 => exact BindsTo.of_eq rfl); (case c5q0 => decide); (case kBq0 => exact locs rfl); (case c2q0 => exact rfl); (case c3q0 => exact rfl); (case c4q0 => exact rfl); k_whole; intro g' L' h' FG' F' N' B' X' T' fr' l1 l2; (try k_lt l1); (try dsimp only); (try k_fold))) | ((refine' code_defN ?k1q1 ?k2q1 ?k3q1 ?k4q1 ?kMq1 ?k5q1 ?kAq1 ?kFq1 ?kKq1 ?k6q1 ?k7q1 ?k8q1 ?k9q1 ?kBq1 ?_ ?c2q1 ?c3q1 ?c4q1 ?c5q1; (case kAq1 => exact rfl); (case kFq1 => exact rfl); (case kKq1 => assumption); (case k1q1 => k_asm); (case k2q1 => k_asm); (case k3q1 => k_asm); (case k4q1 => k_asm); (case kMq1 => assumption); (case k5q1 => k_asm); (case k6q1 => k_is); (case k7q1 => k_is); (case k8q1 => ktr_room); (case k9q1 => exact BindsTo.of_eq rfl); (case c5q1 => decide); (case kBq1 => exact locs rfl); (case c2q1 => exact rfl); (case c3q1 => exact rfl); (case c4q1 => exact rfl); k_whole; intro g' L' h' FG' F' N' B' X' T' fr' l1 l2; (try k_lt l1); (try dsimp only); (try k_fold))))
  k_with "call builtin:str.lower" => (simp only [if_true, eq_self, Bool.false_eq_true, if_false])
  exact True.intro
theorem written_bool {b : Bool}
    (B : Below A₀ base outer h₀) (F : Fr h₀ L s.heap m) (X : (hd.heap_39 w.params).In h₀) (T : Top hd.view_39 LS mean mg mb h₀) (hk : cs.kind = .function)
    (hdp : dp + 2 < recursionLimit) (hu : un + 40 < cLine) (NL : News h₀ L s.heap led) 
    (hret : ∀ t h' tk', Fr h₀ L h' m → News h₀ L h' led → Q (.str (if b then Str.ofString "true" else Str.ofString "false") t) { s with heap := h', toks := tk' }) :
    wpAny (model PySem.Challenge.rw_nz0133_01.row.prog w) (ktrTop dp un gd cn cs L a ccd cl outer) (call (.ref 188) [.bool b]) Q E s := by
  have hmu : ∀ p ∈ ([] : List (Addr × Obj)), p ∈ led := List.forall_mem_nil _
  cases b
  · refine wpAny_call ?_
    k_dflt (k_extra "ktr_enter")
    k_steps
    exact hret _ _ _ (by assumption) (led_same NL hmu (by assumption) (List.forall_mem_nil _) (by assumption) (by assumption))
  · refine wpAny_call ?_
    k_dflt (k_extra "ktr_enter")
    k_steps
    exact hret _ _ _ (by assumption) (led_same NL hmu (by assumption) (List.forall_mem_nil _) (by assumption) (by assumption))

theorem written_int {i : Int} {t9 : Tok}
    (B : Below A₀ base outer h₀) (F : Fr h₀ L s.heap m) (X : (hd.heap_39 w.params).In h₀) (T : Top hd.view_39 LS mean mg mb h₀) (hk : cs.kind = .function)
    (hdp : dp + 2 < recursionLimit) (hu : un + 40 < cLine) (NL : News h₀ L s.heap led) (h0 : 0 ≤ i) (h30 : i < 10 ^ 30)
    (hret : ∀ t h' tk', Fr h₀ L h' m → News h₀ L h' led → Q (.str (Str.ofString (toString i)) t) { s with heap := h', toks := tk' }) :
    wpAny (model PySem.Challenge.rw_nz0133_01.row.prog w) (ktrTop dp un gd cn cs L a ccd cl outer) (call (.ref 188) [.int i t9]) Q E s := by
  have hmu : ∀ p ∈ ([] : List (Addr × Obj)), p ∈ led := List.forall_mem_nil _
  refine wpAny_call ?_
  k_dflt (k_extra "ktr_enter")
  k_steps
  exact hret _ _ _ (by assumption) (led_same NL hmu (by assumption) (List.forall_mem_nil _) (by assumption) (by assumption))
end
end

section
theorem freshStands : True := by
  w_top off
  k_with_none
  exact True.intro
open PySem PySem.W PyProof.Rows PyProof.V PySem.Calls PySem.Spec
set_option maxRecDepth 100000
set_option maxHeartbeats 400000
local macro_rules | `(tactic| ktr_unf) => `(tactic| first | k_asm | exact rfl | k_mem | ktr_room | ktr_units | k_updF | omega)

theorem sayStandsa : True := by
  k_with_none
  k_with "ktr_enter" => (first | ((refine' code_defN ?k1q0 ?k2q0 ?k3q0 ?k4q0 ?kMq0 ?k5q0 ?kAq0 ?kFq0 ?kKq0 ?k6q0 ?k7q0 ?k8q0 ?k9q0 ?kBq0 ?_ ?c2q0 ?c3q0 ?c4q0 ?c5q0; (case kAq0 => exact rfl); (case kFq0 => exact rfl); (case kKq0 => assumption); (case k1q0 => k_asm); (case k2q0 => k_asm); (case k3q0 => k_asm); (case k4q0 => k_asm); (case kMq0 => assumption); (case k5q0 => k_asm); (case k6q0 => k_is); (case k7q0 => k_is); (case k8q0 => ktr_room); (case k9q0 => exact BindsTo.of_eq rfl); (case c5q0 => decide); (case kBq0 => exact locs rfl); (case c2q0 => exact rfl); (case c3q0 => exact rfl); (case c4q0 => exact rfl); k_whole; intro g' L' h' FG' F' N' B' X' T' fr' l1 l2; (try k_lt l1); (try dsimp only); (try k_fold))) | ((refine' code_defN ?k1q1 ?k2q1 ?k3q1 ?k4q1 ?kMq1 ?k5q1 ?kAq1 ?kFq1 ?kKq1 ?k6q1 ?k7q1 ?k8q1 ?k9q1 ?kBq1 ?_ ?c2q1 ?c3q1 ?c4q1 ?c5q1; (case kAq1 => exact rfl); (case kFq1 => exact rfl); (case kKq1 => assumption); (case k1q1 => k_asm); (case k2q1 => k_asm); (case k3q1 => k_asm); (case k4q1 => k_asm); (case kMq1 => assumption); (case k5q1 => k_asm); (case k6q1 => k_is); (case k7q1 => k_is); (case k8q1 => ktr_room); (case k9q1 => exact BindsTo.of_eq rfl); (case c5q1 => decide); (case kBq1 => exact locs rfl); (case c2q1 => exact rfl); (case c3q1 => exact rfl); (case c4q1 => exact rfl); k_whole; intro g' L' h' FG' F' N' B' X' T' fr' l1 l2; (try k_lt l1); (try dsimp only); (try k_fold))))
  exact True.intro
theorem known_T {w : World} {mean : ExcName → Option Value} {mg mb : Str → Option Value} {dp un : Nat} {gd : Option (List Code)} {cn : Str} {cs : Scope} {a : Addr} {ccd : Value} {cl : List (Str × Addr)} {outer : List Env} {A₀ : Around} {base h₀ : Heap} {L : Addr} {m : Str → Option Value} {led : List (Addr × Obj)} {s : Shared} {Q E : Value → Shared → Prop}
    {o dx d nd : Nat} {hsh : Int} {tv tx : Tok} {od : Obj} {kvs : List (Str × Value)} {D : List (PyData × PyData)} {x : Str} {dv : PyData}
    (B : Below A₀ base outer h₀) (F : Fr h₀ L s.heap m) (X : (hd.heap_39 w.params).In h₀) (T : Top hd.view_39 LS mean mg mb h₀) (hk : cs.kind = .function)
    (hdp : dp + 1 < recursionLimit) (hu : un + 8 < cLine) (NL : News h₀ L s.heap led) (h1 : (o, optI dx) ∈ led) (h2 : (dx, optD hsh tv d nd) ∈ led) (h3 : (d, od) ∈ led) (hod : od.IsDictOf (PySem.strKind PySem.Challenge.rw_nz0133_01.row.prog w) kvs) (hf : FlatPairs PyData.str kvs D) (lo : (d == sysModules) = false) (hl : lookup (.str x) D = some dv)
    (hret : ∀ h' tk', Fr h₀ L h' m → News h₀ L h' led → Q (.bool true) { s with heap := h', toks := tk' }) :
    wpAny (model PySem.Challenge.rw_nz0133_01.row.prog w) (ktrTop dp un gd cn cs L a ccd cl outer) (call (.ref 97) [.ref o, .str x tx]) Q E s :=
  known_call B F X T hk hdp hu NL h1 h2 h3 hod hf lo fun h' tk' F' N' => by rw [hl]; exact hret h' tk' F' N'
theorem known_F {w : World} {mean : ExcName → Option Value} {mg mb : Str → Option Value} {dp un : Nat} {gd : Option (List Code)} {cn : Str} {cs : Scope} {a : Addr} {ccd : Value} {cl : List (Str × Addr)} {outer : List Env} {A₀ : Around} {base h₀ : Heap} {L : Addr} {m : Str → Option Value} {led : List (Addr × Obj)} {s : Shared} {Q E : Value → Shared → Prop}
    {o dx d nd : Nat} {hsh : Int} {tv tx : Tok} {od : Obj} {kvs : List (Str × Value)} {D : List (PyData × PyData)} {x : Str}
    (B : Below A₀ base outer h₀) (F : Fr h₀ L s.heap m) (X : (hd.heap_39 w.params).In h₀) (T : Top hd.view_39 LS mean mg mb h₀) (hk : cs.kind = .function)
    (hdp : dp + 1 < recursionLimit) (hu : un + 8 < cLine) (NL : News h₀ L s.heap led) (h1 : (o, optI dx) ∈ led) (h2 : (dx, optD hsh tv d nd) ∈ led) (h3 : (d, od) ∈ led) (hod : od.IsDictOf (PySem.strKind PySem.Challenge.rw_nz0133_01.row.prog w) kvs) (hf : FlatPairs PyData.str kvs D) (lo : (d == sysModules) = false) (hl : lookup (.str x) D = none)
    (hret : ∀ h' tk', Fr h₀ L h' m → News h₀ L h' led → Q (.bool false) { s with heap := h', toks := tk' }) :
    wpAny (model PySem.Challenge.rw_nz0133_01.row.prog w) (ktrTop dp un gd cn cs L a ccd cl outer) (call (.ref 97) [.ref o, .str x tx]) Q E s :=
  known_call B F X T hk hdp hu NL h1 h2 h3 hod hf lo fun h' tk' F' N' => by rw [hl]; exact hret h' tk' F' N'
section
variable {w : World} {mean : ExcName → Option Value} {mg mb : Str → Option Value} {dp un : Nat} {gd : Option (List Code)} {cn : Str} {cs : Scope} {a : Addr} {ccd : Value} {cl : List (Str × Addr)} {outer : List Env} {A₀ : Around} {base h₀ : Heap} {L : Addr} {m : Str → Option Value} {led : List (Addr × Obj)} {G : Obj → List (Addr × Obj)} {s : Shared} {Q E : Value → Shared → Prop}
theorem sayStandsb : True := by
  k_with "exec For Name BinOp cons nil" => (k_here; (rename Fr _ _ _ _ => lF'); (with_unfolding_all refine' For_turns lF' ?_; k_whole))
  exact True.intro
theorem strs_append : ∀ {vs : List Value} {xs : List Str} {us : List Value} {ys : List Str}, StrsAre vs xs → StrsAre us ys → StrsAre (vs ++ us) (xs ++ ys)
  | [], _, _, _, .nil, h => h
  | _ :: _, _, _, _, .cons x t r, h => .cons x t (strs_append r h)
theorem strs_mem : ∀ {vs : List Value} {xs : List Str}, StrsAre vs xs → ∀ v ∈ vs, ∃ x t, v = Value.str x t ∧ x ∈ xs
  | [], _, .nil, _, h => nomatch h
  | _ :: _, _, .cons x t r, v, h => by
    rcases List.mem_cons.mp h with rfl | h
    · exact ⟨x, t, rfl, .head _⟩
    · obtain ⟨y, u, e, m⟩ := strs_mem r v h
      exact ⟨y, u, e, .tail _ m⟩
theorem add_words {prog : Program} {w : World} {A : Around} {E : Value → Shared → Prop} {s : Shared} {h₀ : Heap} {L a b : Addr} {m : Str → Option Value} {news : List (Addr × Obj)} {xs ys : List Str} {Q : Value → Shared → Prop} (F : Fr h₀ L s.heap m) (N : News h₀ L s.heap news) (W1 : KTD.Words h₀ a xs) (W2 : KTD.Words h₀ b ys) (hz : xs.length + ys.length ≤ 100)
    (h : ∀ D h' vs, StrsAre vs (xs ++ ys) → Fr h₀ L h' m → News h₀ L h' ((D, PySem.W.listOf vs.toArray 0) :: news) → (∀ p ∈ news, @LT.lt Nat _ p.1 D) → Q (.ref D) { s with heap := h' }) : wpAny (model prog w) A (binaryOp .Add (.ref a) (.ref b)) Q E s := by
  obtain ⟨v1, l1, s1⟩ := W1.keep F.keep
  obtain ⟨v2, l2, s2⟩ := W2.keep F.keep
  have e1 := s1.length
  have e2 := s2.length
  refine kmk_add_lit F N l1 l2 rfl (fun D h' F' N' lt => h D h' (v1 ++ v2) ?_ F' ?_ lt) ?_
  · exact strs_append s1 s2
  · simpa using N'
  · show v1.toArray.toList.length + v2.toArray.toList.length ≤ _
    rw [sizeLine_eq]; simp; omega
local macro_rules | `(tactic| k_mem) => `(tactic| (with_reducible refine List.mem_append_right _ ?_; k_mem))

theorem sayStandsc : True := by
  k_with "binaryOp Add ref ref" => (k_here; (with_reducible show wpAny _ _ (binaryOp Operator.Add (Value.ref 147) (Value.ref 148)) _ _ _); first | (k_dflt (refine' add_words ?Fq0 ?Nq0 (kt_words_in ?Xq0 flags_in) (kt_words_in ?Yq0 counts_in) ?zq0 ?_; (case Fq0 => k_asm); (case Nq0 => k_asm); (case Xq0 => assumption); (case Yq0 => assumption); (case zq0 => decide)); intro D9 h' vs9 sa9 F' N' l1; (try k_lt l1)) | (k_dflt (refine' add_words ?Fq1 ?Nq1 (kt_words_in ?Xq1 flags_in) (kt_words_in ?Yq1 counts_in) ?zq1 ?_; (case Fq1 => k_asm); (case Nq1 => k_asm); (case Xq1 => assumption); (case Yq1 => assumption); (case zq1 => decide)); intro D9 h' vs9 sa9 F' N' l1; (try k_lt l1)))
  k_with "pyIter ref" => (k_here; (with_reducible show wpAny _ _ (pyIter (Value.ref _)) (fun it s₂ => TurnsAt _ _ _ _ _ _ _ _ _ it s₂) _ _); first | ((with_unfolding_all refine' iter_listTurns ?hq0 ?Fq0 ?Nq0 ?mq0 ?cq0 ?dq0 ?_; (case hq0 => with_unfolding_all rfl); (case Fq0 => k_asm); (case Nq0 => k_asm); (case mq0 => k_mem); (case cq0 => exact rfl); (case dq0 => exact rfl)); intro i9 lI9) | ((with_unfolding_all refine' iter_listTurns ?hq1 ?Fq1 ?Nq1 ?mq1 ?cq1 ?dq1 ?_; (case hq1 => with_unfolding_all rfl); (case Fq1 => k_asm); (case Nq1 => k_asm); (case mq1 => k_mem); (case cq1 => exact rfl); (case dq1 => exact rfl)); intro i9 lI9))
  k_with "call ref" => (k_here; (with_reducible show wpAny _ _ (call (Value.ref 139) _) _ _ _); first | (k_dflt (refine' cop_call ?Bq0 ?Fq0 ?Xq0 ?Tq0 ?hkq0 ?hdq0 ?huq0 ?NLq0 ?h1q0 ?h2q0 ?h3q0 ?hodq0 ?hfq0 ?loq0 ?_; (case Bq0 => ktr_unf); (case Fq0 => ktr_unf); (case Xq0 => ktr_unf); (case Tq0 => ktr_unf); (case hkq0 => ktr_unf); (case hdq0 => ktr_unf); (case huq0 => ktr_unf); (case NLq0 => ktr_unf); (case h1q0 => ktr_unf); (case h2q0 => ktr_unf); (case h3q0 => ktr_unf); (case hodq0 => ktr_unf); (case loq0 => ktr_unf); (case hfq0 => assumption); k_whole); intro f9 fo9 kvf9 h9 tk9 hof9 hff9 lof9 F9 N9 ne9; (try dsimp only); (try k_fold)) | (k_dflt (refine' cop_call ?Bq1 ?Fq1 ?Xq1 ?Tq1 ?hkq1 ?hdq1 ?huq1 ?NLq1 ?h1q1 ?h2q1 ?h3q1 ?hodq1 ?hfq1 ?loq1 ?_; (case Bq1 => ktr_unf); (case Fq1 => ktr_unf); (case Xq1 => ktr_unf); (case Tq1 => ktr_unf); (case hkq1 => ktr_unf); (case hdq1 => ktr_unf); (case huq1 => ktr_unf); (case NLq1 => ktr_unf); (case h1q1 => ktr_unf); (case h2q1 => ktr_unf); (case h3q1 => ktr_unf); (case hodq1 => ktr_unf); (case loq1 => ktr_unf); (case hfq1 => assumption); k_whole); intro f9 fo9 kvf9 h9 tk9 hof9 hff9 lof9 F9 N9 ne9; (try dsimp only); (try k_fold)))
  k_with "call ref" => (k_here; (with_reducible show wpAny _ _ (call (Value.ref 193) _) _ _ _); first | (k_dflt (first | (refine' plain_call ?Bq0 ?Fq0 ?Xq0 ?Tq0 ?hkq0 ?hdq0 ?huq0 ?NLq0 ?h3q0 ?hodq0 ?hfq0 ?loq0 ?Wq0 ?_; (case Bq0 => ktr_unf); (case Fq0 => ktr_unf); (case Xq0 => ktr_unf); (case Tq0 => ktr_unf); (case hkq0 => ktr_unf); (case hdq0 => ktr_unf); (case huq0 => ktr_unf); (case NLq0 => ktr_unf); (case h3q0 => ktr_unf); (case hodq0 => ktr_unf); (case loq0 => ktr_unf); (case hfq0 => assumption); (case Wq0 => assumption); k_whole)); intro l9 new9 h9 tk9 P9 F9 N9 ne9; (try dsimp only); (try k_fold)) | (k_dflt (first | (refine' plain_call ?Bq1 ?Fq1 ?Xq1 ?Tq1 ?hkq1 ?hdq1 ?huq1 ?NLq1 ?h3q1 ?hodq1 ?hfq1 ?loq1 ?Wq1 ?_; (case Bq1 => ktr_unf); (case Fq1 => ktr_unf); (case Xq1 => ktr_unf); (case Tq1 => ktr_unf); (case hkq1 => ktr_unf); (case hdq1 => ktr_unf); (case huq1 => ktr_unf); (case NLq1 => ktr_unf); (case h3q1 => ktr_unf); (case hodq1 => ktr_unf); (case loq1 => ktr_unf); (case hfq1 => assumption); (case Wq1 => assumption); k_whole)); intro l9 new9 h9 tk9 P9 F9 N9 ne9; (try dsimp only); (try k_fold)))
  k_with "compareOp Eq ref ref" => (k_here; first | (k_dflt (refine' eq_plain ?Nq0 ?P1q0 ?P2q0 ?s1q0 ?s2q0 ?uq0 ?_; (case Nq0 => k_asm); (case P1q0 => assumption); (case P2q0 => assumption); (case s1q0 => exact fun p hp => by first | exact List.mem_append_left _ hp | exact List.mem_append_right _ (List.mem_append_left _ hp)); (case s2q0 => exact fun p hp => by first | exact List.mem_append_left _ hp | exact List.mem_append_right _ (List.mem_append_left _ hp)); (case uq0 => ktr_units))) | (k_dflt (refine' eq_plain ?Nq1 ?P1q1 ?P2q1 ?s1q1 ?s2q1 ?uq1 ?_; (case Nq1 => k_asm); (case P1q1 => assumption); (case P2q1 => assumption); (case s1q1 => exact fun p hp => by first | exact List.mem_append_left _ hp | exact List.mem_append_right _ (List.mem_append_left _ hp)); (case s2q1 => exact fun p hp => by first | exact List.mem_append_left _ hp | exact List.mem_append_right _ (List.mem_append_left _ hp)); (case uq1 => ktr_units))))
  k_with "call ref" => (k_here; (with_reducible show wpAny _ _ (call (Value.ref 97) _) _ _ _); first | (k_dflt (first | (refine' known_T ?Bq0 ?Fq0 ?Xq0 ?Tq0 ?hkq0 ?hdq0 ?huq0 ?NLq0 ?h1q0 ?h2q0 ?h3q0 ?hodq0 ?hfq0 ?loq0 ?hlq0 ?_; (case Bq0 => ktr_unf); (case Fq0 => ktr_unf); (case Xq0 => ktr_unf); (case Tq0 => ktr_unf); (case hkq0 => ktr_unf); (case hdq0 => ktr_unf); (case huq0 => ktr_unf); (case NLq0 => ktr_unf); (case h1q0 => ktr_unf); (case h2q0 => ktr_unf); (case h3q0 => ktr_unf); (case hodq0 => ktr_unf); (case hfq0 => with_reducible assumption); (case loq0 => ktr_unf); (case hlq0 => with_reducible assumption); k_whole) | (refine' known_F ?Bq0 ?Fq0 ?Xq0 ?Tq0 ?hkq0 ?hdq0 ?huq0 ?NLq0 ?h1q0 ?h2q0 ?h3q0 ?hodq0 ?hfq0 ?loq0 ?hlq0 ?_; (case Bq0 => ktr_unf); (case Fq0 => ktr_unf); (case Xq0 => ktr_unf); (case Tq0 => ktr_unf); (case hkq0 => ktr_unf); (case hdq0 => ktr_unf); (case huq0 => ktr_unf); (case NLq0 => ktr_unf); (case h1q0 => ktr_unf); (case h2q0 => ktr_unf); (case h3q0 => ktr_unf); (case hodq0 => ktr_unf); (case hfq0 => with_reducible assumption); (case loq0 => ktr_unf); (case hlq0 => with_reducible assumption); k_whole)); intro h9 tk9 F9 N9; (try dsimp only); (try k_fold)) | (k_dflt (first | (refine' known_T ?Bq1 ?Fq1 ?Xq1 ?Tq1 ?hkq1 ?hdq1 ?huq1 ?NLq1 ?h1q1 ?h2q1 ?h3q1 ?hodq1 ?hfq1 ?loq1 ?hlq1 ?_; (case Bq1 => ktr_unf); (case Fq1 => ktr_unf); (case Xq1 => ktr_unf); (case Tq1 => ktr_unf); (case hkq1 => ktr_unf); (case hdq1 => ktr_unf); (case huq1 => ktr_unf); (case NLq1 => ktr_unf); (case h1q1 => ktr_unf); (case h2q1 => ktr_unf); (case h3q1 => ktr_unf); (case hodq1 => ktr_unf); (case hfq1 => with_reducible assumption); (case loq1 => ktr_unf); (case hlq1 => with_reducible assumption); k_whole) | (refine' known_F ?Bq1 ?Fq1 ?Xq1 ?Tq1 ?hkq1 ?hdq1 ?huq1 ?NLq1 ?h1q1 ?h2q1 ?h3q1 ?hodq1 ?hfq1 ?loq1 ?hlq1 ?_; (case Bq1 => ktr_unf); (case Fq1 => ktr_unf); (case Xq1 => ktr_unf); (case Tq1 => ktr_unf); (case hkq1 => ktr_unf); (case hdq1 => ktr_unf); (case huq1 => ktr_unf); (case NLq1 => ktr_unf); (case h1q1 => ktr_unf); (case h2q1 => ktr_unf); (case h3q1 => ktr_unf); (case hodq1 => ktr_unf); (case hfq1 => with_reducible assumption); (case loq1 => ktr_unf); (case hlq1 => with_reducible assumption); k_whole)); intro h9 tk9 F9 N9; (try dsimp only); (try k_fold)))
  k_with "call ref" => (k_here; (with_reducible show wpAny _ _ (call (Value.ref 111) _) _ _ _); first | (k_dflt (first | (refine' flag_callF ?Bq0 ?Fq0 ?Xq0 ?Tq0 ?hkq0 ?hdq0 ?huq0 ?NLq0 ?h1q0 ?h2q0 ?h3q0 ?hodq0 ?hfq0 ?loq0 ?hlq0 ?_; (case Bq0 => ktr_unf); (case Fq0 => ktr_unf); (case Xq0 => ktr_unf); (case Tq0 => ktr_unf); (case hkq0 => ktr_unf); (case hdq0 => ktr_unf); (case huq0 => ktr_unf); (case NLq0 => ktr_unf); (case h1q0 => ktr_unf); (case h2q0 => ktr_unf); (case h3q0 => ktr_unf); (case hodq0 => ktr_unf); (case hfq0 => with_reducible assumption); (case loq0 => ktr_unf); (case hlq0 => with_reducible assumption); k_whole) | (refine' flag_callC ?Bq0 ?Fq0 ?Xq0 ?Tq0 ?hkq0 ?hdq0 ?huq0 ?NLq0 ?h1q0 ?h2q0 ?h3q0 ?hodq0 ?hfq0 ?loq0 ?hlq0 ?_; (case Bq0 => ktr_unf); (case Fq0 => ktr_unf); (case Xq0 => ktr_unf); (case Tq0 => ktr_unf); (case hkq0 => ktr_unf); (case hdq0 => ktr_unf); (case huq0 => ktr_unf); (case NLq0 => ktr_unf); (case h1q0 => ktr_unf); (case h2q0 => ktr_unf); (case h3q0 => ktr_unf); (case hodq0 => ktr_unf); (case hfq0 => with_reducible assumption); (case loq0 => ktr_unf); (case hlq0 => with_reducible assumption); k_whole)); intro h9 tk9 F9 N9; (try dsimp only); (try k_fold)) | (k_dflt (first | (refine' flag_callF ?Bq1 ?Fq1 ?Xq1 ?Tq1 ?hkq1 ?hdq1 ?huq1 ?NLq1 ?h1q1 ?h2q1 ?h3q1 ?hodq1 ?hfq1 ?loq1 ?hlq1 ?_; (case Bq1 => ktr_unf); (case Fq1 => ktr_unf); (case Xq1 => ktr_unf); (case Tq1 => ktr_unf); (case hkq1 => ktr_unf); (case hdq1 => ktr_unf); (case huq1 => ktr_unf); (case NLq1 => ktr_unf); (case h1q1 => ktr_unf); (case h2q1 => ktr_unf); (case h3q1 => ktr_unf); (case hodq1 => ktr_unf); (case hfq1 => with_reducible assumption); (case loq1 => ktr_unf); (case hlq1 => with_reducible assumption); k_whole) | (refine' flag_callC ?Bq1 ?Fq1 ?Xq1 ?Tq1 ?hkq1 ?hdq1 ?huq1 ?NLq1 ?h1q1 ?h2q1 ?h3q1 ?hodq1 ?hfq1 ?loq1 ?hlq1 ?_; (case Bq1 => ktr_unf); (case Fq1 => ktr_unf); (case Xq1 => ktr_unf); (case Tq1 => ktr_unf); (case hkq1 => ktr_unf); (case hdq1 => ktr_unf); (case huq1 => ktr_unf); (case NLq1 => ktr_unf); (case h1q1 => ktr_unf); (case h2q1 => ktr_unf); (case h3q1 => ktr_unf); (case hodq1 => ktr_unf); (case hfq1 => with_reducible assumption); (case loq1 => ktr_unf); (case hlq1 => with_reducible assumption); k_whole)); intro h9 tk9 F9 N9; (try dsimp only); (try k_fold)))
  k_with "call ref" => (k_here; (with_reducible show wpAny _ _ (call (Value.ref 104) _) _ _ _); first | (k_dflt (first | (refine' on_callF ?Bq0 ?Fq0 ?Xq0 ?Tq0 ?hkq0 ?hdq0 ?huq0 ?NLq0 ?h1q0 ?h2q0 ?h3q0 ?hodq0 ?hfq0 ?loq0 ?hlq0 ?_; (case Bq0 => ktr_unf); (case Fq0 => ktr_unf); (case Xq0 => ktr_unf); (case Tq0 => ktr_unf); (case hkq0 => ktr_unf); (case hdq0 => ktr_unf); (case huq0 => ktr_unf); (case NLq0 => ktr_unf); (case h1q0 => ktr_unf); (case h2q0 => ktr_unf); (case h3q0 => ktr_unf); (case hodq0 => ktr_unf); (case hfq0 => with_reducible assumption); (case loq0 => ktr_unf); (case hlq0 => with_reducible assumption); k_whole) | (refine' on_callC ?Bq0 ?Fq0 ?Xq0 ?Tq0 ?hkq0 ?hdq0 ?huq0 ?NLq0 ?h1q0 ?h2q0 ?h3q0 ?hodq0 ?hfq0 ?loq0 ?hlq0 ?_; (case Bq0 => ktr_unf); (case Fq0 => ktr_unf); (case Xq0 => ktr_unf); (case Tq0 => ktr_unf); (case hkq0 => ktr_unf); (case hdq0 => ktr_unf); (case huq0 => ktr_unf); (case NLq0 => ktr_unf); (case h1q0 => ktr_unf); (case h2q0 => ktr_unf); (case h3q0 => ktr_unf); (case hodq0 => ktr_unf); (case hfq0 => with_reducible assumption); (case loq0 => ktr_unf); (case hlq0 => with_reducible assumption); k_whole)); intro h9 tk9 F9 N9; (try dsimp only); (try k_fold)) | (k_dflt (first | (refine' on_callF ?Bq1 ?Fq1 ?Xq1 ?Tq1 ?hkq1 ?hdq1 ?huq1 ?NLq1 ?h1q1 ?h2q1 ?h3q1 ?hodq1 ?hfq1 ?loq1 ?hlq1 ?_; (case Bq1 => ktr_unf); (case Fq1 => ktr_unf); (case Xq1 => ktr_unf); (case Tq1 => ktr_unf); (case hkq1 => ktr_unf); (case hdq1 => ktr_unf); (case huq1 => ktr_unf); (case NLq1 => ktr_unf); (case h1q1 => ktr_unf); (case h2q1 => ktr_unf); (case h3q1 => ktr_unf); (case hodq1 => ktr_unf); (case hfq1 => with_reducible assumption); (case loq1 => ktr_unf); (case hlq1 => with_reducible assumption); k_whole) | (refine' on_callC ?Bq1 ?Fq1 ?Xq1 ?Tq1 ?hkq1 ?hdq1 ?huq1 ?NLq1 ?h1q1 ?h2q1 ?h3q1 ?hodq1 ?hfq1 ?loq1 ?hlq1 ?_; (case Bq1 => ktr_unf); (case Fq1 => ktr_unf); (case Xq1 => ktr_unf); (case Tq1 => ktr_unf); (case hkq1 => ktr_unf); (case hdq1 => ktr_unf); (case huq1 => ktr_unf); (case NLq1 => ktr_unf); (case h1q1 => ktr_unf); (case h2q1 => ktr_unf); (case h3q1 => ktr_unf); (case hodq1 => ktr_unf); (case hfq1 => with_reducible assumption); (case loq1 => ktr_unf); (case hlq1 => with_reducible assumption); k_whole)); intro h9 tk9 F9 N9; (try dsimp only); (try k_fold)))
  k_with "call ref" => (k_here; (with_reducible show wpAny _ _ (call (Value.ref 132) _) _ _ _); first | (k_dflt (first | (refine' text_callF ?Bq0 ?Fq0 ?Xq0 ?Tq0 ?hkq0 ?hdq0 ?huq0 ?NLq0 ?h1q0 ?h2q0 ?h3q0 ?hodq0 ?hfq0 ?loq0 ?hlq0 ?_; (case Bq0 => ktr_unf); (case Fq0 => ktr_unf); (case Xq0 => ktr_unf); (case Tq0 => ktr_unf); (case hkq0 => ktr_unf); (case hdq0 => ktr_unf); (case huq0 => ktr_unf); (case NLq0 => ktr_unf); (case h1q0 => ktr_unf); (case h2q0 => ktr_unf); (case h3q0 => ktr_unf); (case hodq0 => ktr_unf); (case hfq0 => with_reducible assumption); (case loq0 => ktr_unf); (case hlq0 => with_reducible assumption); k_whole) | (refine' text_callC ?Bq0 ?Fq0 ?Xq0 ?Tq0 ?hkq0 ?hdq0 ?huq0 ?NLq0 ?h1q0 ?h2q0 ?h3q0 ?hodq0 ?hfq0 ?loq0 ?hlq0 ?h0q0 ?h30q0 ?_; (case Bq0 => ktr_unf); (case Fq0 => ktr_unf); (case Xq0 => ktr_unf); (case Tq0 => ktr_unf); (case hkq0 => ktr_unf); (case hdq0 => ktr_unf); (case huq0 => ktr_unf); (case NLq0 => ktr_unf); (case h1q0 => ktr_unf); (case h2q0 => ktr_unf); (case h3q0 => ktr_unf); (case hodq0 => ktr_unf); (case hfq0 => with_reducible assumption); (case loq0 => ktr_unf); (case hlq0 => with_reducible assumption); (case h0q0 => with_reducible assumption); (case h30q0 => with_reducible assumption); k_whole)); intro t9 h9 tk9 F9 N9; (try dsimp only); (try k_fold)) | (k_dflt (first | (refine' text_callF ?Bq1 ?Fq1 ?Xq1 ?Tq1 ?hkq1 ?hdq1 ?huq1 ?NLq1 ?h1q1 ?h2q1 ?h3q1 ?hodq1 ?hfq1 ?loq1 ?hlq1 ?_; (case Bq1 => ktr_unf); (case Fq1 => ktr_unf); (case Xq1 => ktr_unf); (case Tq1 => ktr_unf); (case hkq1 => ktr_unf); (case hdq1 => ktr_unf); (case huq1 => ktr_unf); (case NLq1 => ktr_unf); (case h1q1 => ktr_unf); (case h2q1 => ktr_unf); (case h3q1 => ktr_unf); (case hodq1 => ktr_unf); (case hfq1 => with_reducible assumption); (case loq1 => ktr_unf); (case hlq1 => with_reducible assumption); k_whole) | (refine' text_callC ?Bq1 ?Fq1 ?Xq1 ?Tq1 ?hkq1 ?hdq1 ?huq1 ?NLq1 ?h1q1 ?h2q1 ?h3q1 ?hodq1 ?hfq1 ?loq1 ?hlq1 ?h0q1 ?h30q1 ?_; (case Bq1 => ktr_unf); (case Fq1 => ktr_unf); (case Xq1 => ktr_unf); (case Tq1 => ktr_unf); (case hkq1 => ktr_unf); (case hdq1 => ktr_unf); (case huq1 => ktr_unf); (case NLq1 => ktr_unf); (case h1q1 => ktr_unf); (case h2q1 => ktr_unf); (case h3q1 => ktr_unf); (case hodq1 => ktr_unf); (case hfq1 => with_reducible assumption); (case loq1 => ktr_unf); (case hlq1 => with_reducible assumption); (case h0q1 => with_reducible assumption); (case h30q1 => with_reducible assumption); k_whole)); intro t9 h9 tk9 F9 N9; (try dsimp only); (try k_fold)))
  k_with "call ref" => (k_here; (with_reducible show wpAny _ _ (call (Value.ref 188) _) _ _ _); first | (k_dflt (first | (refine' written_bool ?Bq0 ?Fq0 ?Xq0 ?Tq0 ?hkq0 ?hdq0 ?huq0 ?NLq0 ?_; (case Bq0 => ktr_unf); (case Fq0 => ktr_unf); (case Xq0 => ktr_unf); (case Tq0 => ktr_unf); (case hkq0 => ktr_unf); (case hdq0 => ktr_unf); (case huq0 => ktr_unf); (case NLq0 => ktr_unf); k_whole) | (refine' written_int ?Bq0 ?Fq0 ?Xq0 ?Tq0 ?hkq0 ?hdq0 ?huq0 ?NLq0 ?h0q0 ?h30q0 ?_; (case Bq0 => ktr_unf); (case Fq0 => ktr_unf); (case Xq0 => ktr_unf); (case Tq0 => ktr_unf); (case hkq0 => ktr_unf); (case hdq0 => ktr_unf); (case huq0 => ktr_unf); (case NLq0 => ktr_unf); (case h0q0 => with_reducible assumption); (case h30q0 => with_reducible assumption); k_whole)); intro t9 h9 tk9 F9 N9; (try dsimp only); (try k_fold)) | (k_dflt (first | (refine' written_bool ?Bq1 ?Fq1 ?Xq1 ?Tq1 ?hkq1 ?hdq1 ?huq1 ?NLq1 ?_; (case Bq1 => ktr_unf); (case Fq1 => ktr_unf); (case Xq1 => ktr_unf); (case Tq1 => ktr_unf); (case hkq1 => ktr_unf); (case hdq1 => ktr_unf); (case huq1 => ktr_unf); (case NLq1 => ktr_unf); k_whole) | (refine' written_int ?Bq1 ?Fq1 ?Xq1 ?Tq1 ?hkq1 ?hdq1 ?huq1 ?NLq1 ?h0q1 ?h30q1 ?_; (case Bq1 => ktr_unf); (case Fq1 => ktr_unf); (case Xq1 => ktr_unf); (case Tq1 => ktr_unf); (case hkq1 => ktr_unf); (case hdq1 => ktr_unf); (case huq1 => ktr_unf); (case NLq1 => ktr_unf); (case h0q1 => with_reducible assumption); (case h30q1 => with_reducible assumption); k_whole)); intro t9 h9 tk9 F9 N9; (try dsimp only); (try k_fold)))
  k_with "compareOp In str ref" => (k_here; (with_reducible show wpAny _ _ (compareOp CmpOp.In _ (Value.ref 147)) _ _ _); first | (k_dflt (first | (refine' in_flags_T ?Xq0 ?Fq0 ?hxq0 ?_; (case Xq0 => assumption); (case Fq0 => assumption); (case hxq0 => with_reducible assumption)) | (refine' in_flags_F ?Xq0 ?Fq0 ?hxq0 ?_; (case Xq0 => assumption); (case Fq0 => assumption); (case hxq0 => with_reducible assumption)))) | (k_dflt (first | (refine' in_flags_T ?Xq1 ?Fq1 ?hxq1 ?_; (case Xq1 => assumption); (case Fq1 => assumption); (case hxq1 => with_reducible assumption)) | (refine' in_flags_F ?Xq1 ?Fq1 ?hxq1 ?_; (case Xq1 => assumption); (case Fq1 => assumption); (case hxq1 => with_reducible assumption)))))
  exact True.intro
theorem stands_call {o dx d nd bk : Nat} {hsh : Int} {tv : Tok} {od ob : Obj} {kvs kvb : List (Str × Value)} {st : Str → PyData}
    (B : Below A₀ base outer h₀) (F : Fr h₀ L s.heap m) (X : (hd.heap_39 w.params).In h₀) (T : Top hd.view_39 LS mean mg mb h₀) (hk : cs.kind = .function)
    (hdp : dp + 20 < recursionLimit) (hu : un + 300 < cLine) (NL : News h₀ L s.heap led) (h1 : (o, optI dx) ∈ led) (h2 : (dx, optD hsh tv d nd) ∈ led) (h3 : (d, od) ∈ led) (hod : od.IsDictOf (PySem.strKind PySem.Challenge.rw_nz0133_01.row.prog w) kvs) (hf : FlatPairs PyData.str kvs (stD st)) (lo : (d == sysModules) = false) (h4 : (bk, ob) ∈ led) (hob : ob.IsDictOf (PySem.strKind PySem.Challenge.rw_nz0133_01.row.prog w) kvb) (hfb : FlatPairs PyData.str kvb (stD st)) (lob : (bk == sysModules) = false) (W : WT st)
    (hret : ∀ h' tk', Fr h₀ L h' m → News h₀ L h' led → Q (.bool true) { s with heap := h', toks := tk' }) :
    wpAny (model PySem.Challenge.rw_nz0133_01.row.prog w) (ktrTop dp un gd cn cs L a ccd cl outer) (call (.ref 200) [.ref o, .ref bk]) Q E s := by
  have hmu : ∀ p ∈ [(o, optI dx), (dx, optD hsh tv d nd), (d, od), (bk, ob)], p ∈ led := List.forall_mem_cons.mpr ⟨h1, List.forall_mem_cons.mpr ⟨h2, List.forall_mem_cons.mpr ⟨h3, List.forall_mem_singleton.mpr h4⟩⟩⟩
  refine wpAny_call ?_
  k_dflt (k_extra "ktr_enter")
  k_steps
  rename StrsAre _ _ => sa9
  refine' items_fix2 (Str.ofString "name") (Str.ofString "is_truth") (fun l => ∀ v ∈ l, ∃ x t, v = Value.str x t ∧ x ∈ namesL) ?hk ?hI ?hl ?h0 ?hs
  case hk => exact And.intro (List.Mem.head _) trivial
  case hI => assumption
  case hl => exact strs_mem sa9
  case h0 =>
    intro u9 v9 h9 tk9 F9 N9
    have hk1 : lookup (.str (Str.ofString "produce-core")) (stD st) = none := st_none (by decide +kernel)
    have hk2 : lookup (.str (Str.ofString "")) (stD st) = none := st_none (by decide +kernel)
    k_steps
    exact hret _ _ (by assumption) (led_same NL hmu (by assumption) (fun p hp => List.mem_append_right _ (List.mem_append_right _ (.tail _ (.tail _ hp)))) (by assumption) (by assumption))
  case hs =>
    intro v r hl u9 v9 v' h9 tk9 it9 hc9 hv9 F9 N9
    obtain ⟨x, tx, rfl, hx⟩ := hl v (.head _)
    obtain rfl : v' = Value.str x tx := hv9
    rcases flag_or hx with hfl | hfl
    · obtain ⟨b9, hb9⟩ := W.flag _ hfl
      have lk9 := st_look (st := st) hx
      rw [hb9] at lk9
      generalize hD9 : stD st = D9 at hf hfb lk9
      k_steps
      · rename (_ != _) = true => q9
        simp at q9
      · rename News _ _ _ _ => N8
        exact ⟨⟨_, _, _, rfl, by assumption, fun p hp => N8 p (by first | exact .tail _ (.tail _ hp) | exact .tail _ hp), ⟨_, _, map2_again⟩, fun v hv => hl v (.tail _ hv)⟩⟩
    · obtain ⟨i9, hb9, i0, i30⟩ := W.count _ hfl
      have lk9 := st_look (st := st) hx
      rw [hb9] at lk9
      generalize hD9 : stD st = D9 at hf hfb lk9
      k_steps
      · rename (_ != _) = true => q9
        simp at q9
      · rename News _ _ _ _ => N8
        exact ⟨⟨_, _, _, rfl, by assumption, fun p hp => N8 p (by first | exact .tail _ (.tail _ hp) | exact .tail _ hp), ⟨_, _, map2_again⟩, fun v hv => hl v (.tail _ hv)⟩⟩
end
end

section
theorem freshIntT : True := by
  w_top off
  k_with_none
  exact True.intro
open PySem PySem.W PyProof.Rows PyProof.V PySem.Calls PySem.Spec
set_option maxRecDepth 100000
set_option maxHeartbeats 400000
open PySem.W.KIN
/-- a numeral of at most thirty figures is read back -/
theorem reads30 {n : Int} (h0 : 0 ≤ n) (h1 : n < 10 ^ 30) : PySem.intText? (Str.ofString (toString n)) = some n := by
  have short : (Str.ofString (toString n)).length ≤ 30 := toString_length_le h0 (by decide) h1
  cases n with
  | negSucc k => exact absurd h0 (by omega)
  | ofNat k =>
    have sg : (Str.ofString (toString (Int.ofNat k))).cps.toList = (Nat.toDigits 10 k).map Char.toNat := signs_num k
    have some_ : Nat.toDigits 10 k ≠ [] := fun e => by
      have v := val_back k
      have l : 0 < (Nat.toDigits 10 k).length := by
        have := @Nat.length_toDigits_pos 10 k
        exact this
      rw [e] at l; exact absurd l (by decide)
    have := intText_digits (x := Str.ofString (toString (Int.ofNat k))) (fun c hc => by
      rw [sg] at hc
      obtain ⟨ch, hm, rfl⟩ := List.mem_map.mp hc
      exact digit_range (Nat.isDigit_of_mem_toDigits (by decide) (by decide) hm)) (by rw [sg]; exact fun e => some_ (List.map_eq_nil_iff.mp e)) (by omega)
    rw [sg, val_back] at this
    exact this
theorem int_text {prog : Program} {w : World} {A : Around} {E : Value → Shared → Prop} {s : Shared} {Q : Value → Shared → Prop} {n : Int} {t : Tok} (h0 : 0 ≤ n) (h1 : n < 10 ^ 30) (h : Q (.int n s.toks) { s with toks := s.toks + 1 }) :
    wpAny (model prog w) A (call (.type "int") [.str (Str.ofString (toString n)) t]) Q E s :=
  call_text (reads30 h0 h1) (Nat.le_trans (toString_length_le h0 (by decide) h1) (by decide)) h
end

section
theorem freshTold : True := by
  w_top off
  k_with_none
  exact True.intro
open PySem PySem.W PyProof.Rows PyProof.V PySem.Calls PySem.Spec
set_option maxRecDepth 100000
set_option maxHeartbeats 8000000
local macro_rules | `(tactic| ktr_unf) => `(tactic| first | k_asm | exact rfl | k_mem | ktr_room | ktr_units | k_updF | omega)
theorem sayTolda : True := by
  k_with_none
  k_with "ktr_enter" => (first | ((refine' code_defN ?k1q0 ?k2q0 ?k3q0 ?k4q0 ?kMq0 ?k5q0 ?kAq0 ?kFq0 ?kKq0 ?k6q0 ?k7q0 ?k8q0 ?k9q0 ?kBq0 ?_ ?c2q0 ?c3q0 ?c4q0 ?c5q0; (case kAq0 => exact rfl); (case kFq0 => exact rfl); (case kKq0 => assumption); (case k1q0 => k_asm); (case k2q0 => k_asm); (case k3q0 => k_asm); (case k4q0 => k_asm); (case kMq0 => assumption); (case k5q0 => k_asm); (case k6q0 => k_is); (case k7q0 => k_is); (case k8q0 => ktr_room); (case k9q0 => exact BindsTo.of_eq rfl); (case c5q0 => decide); (case kBq0 => exact locs rfl); (case c2q0 => exact rfl); (case c3q0 => exact rfl); (case c4q0 => exact rfl); k_whole; intro g' L' h' FG' F' N' B' X' T' fr' l1 l2; (try k_lt l1); (try dsimp only); (try k_fold))) | ((refine' code_defN ?k1q1 ?k2q1 ?k3q1 ?k4q1 ?kMq1 ?k5q1 ?kAq1 ?kFq1 ?kKq1 ?k6q1 ?k7q1 ?k8q1 ?k9q1 ?kBq1 ?_ ?c2q1 ?c3q1 ?c4q1 ?c5q1; (case kAq1 => exact rfl); (case kFq1 => exact rfl); (case kKq1 => assumption); (case k1q1 => k_asm); (case k2q1 => k_asm); (case k3q1 => k_asm); (case k4q1 => k_asm); (case kMq1 => assumption); (case k5q1 => k_asm); (case k6q1 => k_is); (case k7q1 => k_is); (case k8q1 => ktr_room); (case k9q1 => exact BindsTo.of_eq rfl); (case c5q1 => decide); (case kBq1 => exact locs rfl); (case c2q1 => exact rfl); (case c3q1 => exact rfl); (case c4q1 => exact rfl); k_whole; intro g' L' h' FG' F' N' B' X' T' fr' l1 l2; (try k_lt l1); (try dsimp only); (try k_fold))))
  exact True.intro
theorem led_chg {h₀ h h' g : Heap} {L L' : Addr} {m' : Str → Option Value} {led mu mu' : List (Addr × Obj)} (ch : List Nat) (NL : News h₀ L h led) (hmu : ∀ p ∈ mu, p ∈ led) (kN : News h₀ L h' mu') (hs : ∀ p ∈ mu, p.1 ∉ ch → p ∈ mu') (fr : Frm led mu g) (F' : Fr g L' h' m') : ∀ led₂, (∀ p ∈ led₂, p ∈ led ∧ p.1 ∉ ch) → News h₀ L h' led₂ := fun led₂ hl q hq => by
  obtain ⟨hq, hc⟩ := hl q hq
  refine ⟨?_, (NL q hq).2⟩
  by_cases hm : q.1 ∈ mu.map (·.1)
  · obtain ⟨p, hp, e⟩ := List.mem_map.mp hm
    have h1 := (NL p (hmu p hp)).1
    have h2 := (NL q hq).1
    rw [e, h2] at h1
    have h3 := (kN p (hs p hp (by rw [e]; exact hc))).1
    rw [e] at h3
    rw [h3, Option.some.inj h1]
  · exact F'.keep _ _ (fr q hq hm)
theorem not_two {a b c : Nat} (h : @Ne Nat a b ∧ @Ne Nat a c) : a ∉ [b, c] := by simp [h.1, h.2]
theorem stD_short (st : Str → PyData) : (stD st).length ≤ 100 := by show 11 ≤ 100; decide
theorem sym_ok (b : Bool) : PyData.strOk (if b then Str.ofString "true" else Str.ofString "false") = true := by cases b <;> exact strOk_of _
theorem sym_flag (b : Bool) : (Itm.sym (if b then Str.ofString "true" else Str.ofString "false")).flag = some b := by cases b <;> decide +kernel
theorem num_count {i : Int} (h : 0 ≤ i) : (Itm.num i).count = some i := by simp only [Itm.count]; rw [if_neg (by omega)]
theorem name_short : ∀ x ∈ namesL, x.length ≤ 100 := by decide +kernel

section
variable {w : World} {mean : ExcName → Option Value} {mg mb : Str → Option Value} {dp un : Nat} {gd : Option (List Code)} {cn : Str} {cs : Scope} {a : Addr} {ccd : Value} {cl : List (Str × Addr)} {outer : List Env} {A₀ : Around} {base h₀ : Heap} {L : Addr} {m : Str → Option Value} {led : List (Addr × Obj)} {G : Obj → List (Addr × Obj)} {s : Shared} {Q E : Value → Shared → Prop}

theorem sayToldb : True := by
  k_with "call ref" => (k_here; (with_reducible show wpAny _ _ (call (Value.ref 181) _) _ _ _); first | (k_dflt (first | (refine' lput_flag (it := Itm.sym _) ?Bq0 ?Fq0 ?Xq0 ?Tq0 ?hkq0 ?hdq0 ?huq0 ?NLq0 ?h1q0 ?h2q0 ?h3q0 ?hodq0 ?hfq0 ?loq0 ?hlq0 ?hxq0 ⟨sym_ok _, _, _, _, rfl, .head _⟩ ?h4q0 ?h5q0 ?h6q0 ?hDq0 ?Uq0 ?n1q0 ?n2q0 ?n4q0 ?n5q0 ?n6q0 (sym_flag _) rfl ?_; (case Bq0 => ktr_unf); (case Fq0 => ktr_unf); (case Xq0 => ktr_unf); (case Tq0 => ktr_unf); (case hkq0 => ktr_unf); (case hdq0 => ktr_unf); (case huq0 => ktr_unf); (case NLq0 => ktr_unf); (case h1q0 => ktr_unf); (case h2q0 => ktr_unf); (case h3q0 => ktr_unf); (case hodq0 => ktr_unf); (case loq0 => ktr_unf); (case hfq0 => with_reducible assumption); (case hlq0 => with_reducible assumption); (case hxq0 => with_reducible assumption); (case h4q0 => ktr_unf); (case h5q0 => ktr_unf); (case h6q0 => ktr_unf); (case hDq0 => with_reducible assumption); (case Uq0 => ktr_unf); (case n1q0 => ktr_unf); (case n2q0 => ktr_unf); (case n4q0 => ktr_unf); (case n5q0 => ktr_unf); (case n6q0 => ktr_unf); k_whole) | (refine' lput_count (it := Itm.num _) ?Bq0 ?Fq0 ?Xq0 ?Tq0 ?hkq0 ?hdq0 ?huq0 ?NLq0 ?h1q0 ?h2q0 ?h3q0 ?hodq0 ?hfq0 ?loq0 ?hlq0 ?hxq0 ⟨_, _, _, rfl, .head _⟩ ?h4q0 ?h5q0 ?h6q0 ?hDq0 ?Uq0 ?n1q0 ?n2q0 ?n4q0 ?n5q0 ?n6q0 (num_count ?q0q0) rfl ?_; (case Bq0 => ktr_unf); (case Fq0 => ktr_unf); (case Xq0 => ktr_unf); (case Tq0 => ktr_unf); (case hkq0 => ktr_unf); (case hdq0 => ktr_unf); (case huq0 => ktr_unf); (case NLq0 => ktr_unf); (case h1q0 => ktr_unf); (case h2q0 => ktr_unf); (case h3q0 => ktr_unf); (case hodq0 => ktr_unf); (case loq0 => ktr_unf); (case hfq0 => with_reducible assumption); (case hlq0 => with_reducible assumption); (case hxq0 => with_reducible assumption); (case h4q0 => ktr_unf); (case h5q0 => ktr_unf); (case h6q0 => ktr_unf); (case hDq0 => with_reducible assumption); (case Uq0 => ktr_unf); (case n1q0 => ktr_unf); (case n2q0 => ktr_unf); (case n4q0 => ktr_unf); (case n5q0 => ktr_unf); (case n6q0 => ktr_unf); (case q0q0 => with_reducible assumption); k_whole)); intro od9 kv9 tk8 h9 tk9 hod9 hf9 F9 N9; (try dsimp only at N9); (try dsimp only); (try k_fold)) | (k_dflt (first | (refine' lput_flag (it := Itm.sym _) ?Bq1 ?Fq1 ?Xq1 ?Tq1 ?hkq1 ?hdq1 ?huq1 ?NLq1 ?h1q1 ?h2q1 ?h3q1 ?hodq1 ?hfq1 ?loq1 ?hlq1 ?hxq1 ⟨sym_ok _, _, _, _, rfl, .head _⟩ ?h4q1 ?h5q1 ?h6q1 ?hDq1 ?Uq1 ?n1q1 ?n2q1 ?n4q1 ?n5q1 ?n6q1 (sym_flag _) rfl ?_; (case Bq1 => ktr_unf); (case Fq1 => ktr_unf); (case Xq1 => ktr_unf); (case Tq1 => ktr_unf); (case hkq1 => ktr_unf); (case hdq1 => ktr_unf); (case huq1 => ktr_unf); (case NLq1 => ktr_unf); (case h1q1 => ktr_unf); (case h2q1 => ktr_unf); (case h3q1 => ktr_unf); (case hodq1 => ktr_unf); (case loq1 => ktr_unf); (case hfq1 => with_reducible assumption); (case hlq1 => with_reducible assumption); (case hxq1 => with_reducible assumption); (case h4q1 => ktr_unf); (case h5q1 => ktr_unf); (case h6q1 => ktr_unf); (case hDq1 => with_reducible assumption); (case Uq1 => ktr_unf); (case n1q1 => ktr_unf); (case n2q1 => ktr_unf); (case n4q1 => ktr_unf); (case n5q1 => ktr_unf); (case n6q1 => ktr_unf); k_whole) | (refine' lput_count (it := Itm.num _) ?Bq1 ?Fq1 ?Xq1 ?Tq1 ?hkq1 ?hdq1 ?huq1 ?NLq1 ?h1q1 ?h2q1 ?h3q1 ?hodq1 ?hfq1 ?loq1 ?hlq1 ?hxq1 ⟨_, _, _, rfl, .head _⟩ ?h4q1 ?h5q1 ?h6q1 ?hDq1 ?Uq1 ?n1q1 ?n2q1 ?n4q1 ?n5q1 ?n6q1 (num_count ?q0q1) rfl ?_; (case Bq1 => ktr_unf); (case Fq1 => ktr_unf); (case Xq1 => ktr_unf); (case Tq1 => ktr_unf); (case hkq1 => ktr_unf); (case hdq1 => ktr_unf); (case huq1 => ktr_unf); (case NLq1 => ktr_unf); (case h1q1 => ktr_unf); (case h2q1 => ktr_unf); (case h3q1 => ktr_unf); (case hodq1 => ktr_unf); (case loq1 => ktr_unf); (case hfq1 => with_reducible assumption); (case hlq1 => with_reducible assumption); (case hxq1 => with_reducible assumption); (case h4q1 => ktr_unf); (case h5q1 => ktr_unf); (case h6q1 => ktr_unf); (case hDq1 => with_reducible assumption); (case Uq1 => ktr_unf); (case n1q1 => ktr_unf); (case n2q1 => ktr_unf); (case n4q1 => ktr_unf); (case n5q1 => ktr_unf); (case n6q1 => ktr_unf); (case q0q1 => with_reducible assumption); k_whole)); intro od9 kv9 tk8 h9 tk9 hod9 hf9 F9 N9; (try dsimp only at N9); (try dsimp only); (try k_fold)))
  k_with "call ref" => (k_here; (with_reducible show wpAny _ _ (call (Value.ref 132) _) _ _ _); first | (k_dflt (first | (refine' text_callF ?Bq0 ?Fq0 ?Xq0 ?Tq0 ?hkq0 ?hdq0 ?huq0 ?NLq0 ?h1q0 ?h2q0 ?h3q0 ?hodq0 ?hfq0 ?loq0 ?hlq0 ?_; (case Bq0 => ktr_unf); (case Fq0 => ktr_unf); (case Xq0 => ktr_unf); (case Tq0 => ktr_unf); (case hkq0 => ktr_unf); (case hdq0 => ktr_unf); (case huq0 => ktr_unf); (case NLq0 => ktr_unf); (case h1q0 => ktr_unf); (case h2q0 => ktr_unf); (case h3q0 => ktr_unf); (case hodq0 => ktr_unf); (case hfq0 => with_reducible assumption); (case loq0 => ktr_unf); (case hlq0 => with_reducible assumption); k_whole) | (refine' text_callC ?Bq0 ?Fq0 ?Xq0 ?Tq0 ?hkq0 ?hdq0 ?huq0 ?NLq0 ?h1q0 ?h2q0 ?h3q0 ?hodq0 ?hfq0 ?loq0 ?hlq0 ?h0q0 ?h30q0 ?_; (case Bq0 => ktr_unf); (case Fq0 => ktr_unf); (case Xq0 => ktr_unf); (case Tq0 => ktr_unf); (case hkq0 => ktr_unf); (case hdq0 => ktr_unf); (case huq0 => ktr_unf); (case NLq0 => ktr_unf); (case h1q0 => ktr_unf); (case h2q0 => ktr_unf); (case h3q0 => ktr_unf); (case hodq0 => ktr_unf); (case hfq0 => with_reducible assumption); (case loq0 => ktr_unf); (case hlq0 => with_reducible assumption); (case h0q0 => with_reducible assumption); (case h30q0 => with_reducible assumption); k_whole)); intro t9 h9 tk9 F9 N9; (try dsimp only); (try k_fold)) | (k_dflt (first | (refine' text_callF ?Bq1 ?Fq1 ?Xq1 ?Tq1 ?hkq1 ?hdq1 ?huq1 ?NLq1 ?h1q1 ?h2q1 ?h3q1 ?hodq1 ?hfq1 ?loq1 ?hlq1 ?_; (case Bq1 => ktr_unf); (case Fq1 => ktr_unf); (case Xq1 => ktr_unf); (case Tq1 => ktr_unf); (case hkq1 => ktr_unf); (case hdq1 => ktr_unf); (case huq1 => ktr_unf); (case NLq1 => ktr_unf); (case h1q1 => ktr_unf); (case h2q1 => ktr_unf); (case h3q1 => ktr_unf); (case hodq1 => ktr_unf); (case hfq1 => with_reducible assumption); (case loq1 => ktr_unf); (case hlq1 => with_reducible assumption); k_whole) | (refine' text_callC ?Bq1 ?Fq1 ?Xq1 ?Tq1 ?hkq1 ?hdq1 ?huq1 ?NLq1 ?h1q1 ?h2q1 ?h3q1 ?hodq1 ?hfq1 ?loq1 ?hlq1 ?h0q1 ?h30q1 ?_; (case Bq1 => ktr_unf); (case Fq1 => ktr_unf); (case Xq1 => ktr_unf); (case Tq1 => ktr_unf); (case hkq1 => ktr_unf); (case hdq1 => ktr_unf); (case huq1 => ktr_unf); (case NLq1 => ktr_unf); (case h1q1 => ktr_unf); (case h2q1 => ktr_unf); (case h3q1 => ktr_unf); (case hodq1 => ktr_unf); (case hfq1 => with_reducible assumption); (case loq1 => ktr_unf); (case hlq1 => with_reducible assumption); (case h0q1 => with_reducible assumption); (case h30q1 => with_reducible assumption); k_whole)); intro t9 h9 tk9 F9 N9; (try dsimp only); (try k_fold)))
  k_with "compareOp In str ref" => (k_here; (with_reducible show wpAny _ _ (compareOp CmpOp.In _ (Value.ref 147)) _ _ _); first | (k_dflt (first | (refine' in_flags_T ?Xq0 ?Fq0 ?hxq0 ?_; (case Xq0 => assumption); (case Fq0 => assumption); (case hxq0 => with_reducible assumption)) | (refine' in_flags_F ?Xq0 ?Fq0 ?hxq0 ?_; (case Xq0 => assumption); (case Fq0 => assumption); (case hxq0 => with_reducible assumption)))) | (k_dflt (first | (refine' in_flags_T ?Xq1 ?Fq1 ?hxq1 ?_; (case Xq1 => assumption); (case Fq1 => assumption); (case hxq1 => with_reducible assumption)) | (refine' in_flags_F ?Xq1 ?Fq1 ?hxq1 ?_; (case Xq1 => assumption); (case Fq1 => assumption); (case hxq1 => with_reducible assumption)))))
  k_with "call type:int" => (k_here; first | (k_dflt (refine' int_text ?aq0 ?bq0 ?_; (case aq0 => with_reducible assumption); (case bq0 => with_reducible assumption))) | (k_dflt (refine' int_text ?aq1 ?bq1 ?_; (case aq1 => with_reducible assumption); (case bq1 => with_reducible assumption))))
  k_with "setItem ref str" => (k_here; first | (k_dflt (refine' setItem_K PyProof.V.same_str (strKind_is _ _ _ _) ?vq0 ?Fq0 ?Nq0 ?Uq0 ?dq0 ?fq0 ?_ ?zq0; (case Fq0 => k_asm); (case Nq0 => k_asm); (case Uq0 => k_updF); (case dq0 => k_asm); (case fq0 => with_reducible assumption); (case zq0 => (refine' roomD ?_; with_reducible assumption)); (case vq0 => k_flat)); intro h' o' F' N' hd' hf'; (try dsimp only at N'); (try k_sweep)) | (k_dflt (refine' setItem_K PyProof.V.same_str (strKind_is _ _ _ _) ?vq1 ?Fq1 ?Nq1 ?Uq1 ?dq1 ?fq1 ?_ ?zq1; (case Fq1 => k_asm); (case Nq1 => k_asm); (case Uq1 => k_updF); (case dq1 => k_asm); (case fq1 => with_reducible assumption); (case zq1 => (refine' roomD ?_; with_reducible assumption)); (case vq1 => k_flat)); intro h' o' F' N' hd' hf'; (try dsimp only at N'); (try k_sweep)))
  exact True.intro
theorem told_call {o1 dx1 d1 nd1 o2 dx2 d2 nd2 b1 b2 : Nat} {hsh1 hsh2 : Int} {tv1 tv2 tx : Tok} {od1 od2 ob1 ob2 : Obj} {kv1 kv2 kvb1 kvb2 : List (Str × Value)} {st1 st2 stb : Str → PyData} {x : Str}
    (B : Below A₀ base outer h₀) (F : Fr h₀ L s.heap m) (X : (hd.heap_39 w.params).In h₀) (T : Top hd.view_39 LS mean mg mb h₀) (hk : cs.kind = .function)
    (hdp : dp + 40 < recursionLimit) (hu : un + 600 < cLine) (NL : News h₀ L s.heap led) (h1 : (o1, optI dx1) ∈ led) (h2 : (dx1, optD hsh1 tv1 d1 nd1) ∈ led) (h3 : (d1, od1) ∈ led) (h4 : (o2, optI dx2) ∈ led) (h5 : (dx2, optD hsh2 tv2 d2 nd2) ∈ led) (h6 : (d2, od2) ∈ led) (h7 : (b1, ob1) ∈ led) (h8 : (b2, ob2) ∈ led)
    (hod1 : od1.IsDictOf (PySem.strKind PySem.Challenge.rw_nz0133_01.row.prog w) kv1) (hod2 : od2.IsDictOf (PySem.strKind PySem.Challenge.rw_nz0133_01.row.prog w) kv2) (hob1 : ob1.IsDictOf (PySem.strKind PySem.Challenge.rw_nz0133_01.row.prog w) kvb1) (hob2 : ob2.IsDictOf (PySem.strKind PySem.Challenge.rw_nz0133_01.row.prog w) kvb2)
    (hf1 : FlatPairs PyData.str kv1 (stD st1)) (hf2 : FlatPairs PyData.str kv2 (stD st2)) (hfb1 : FlatPairs PyData.str kvb1 (stD st1)) (hfb2 : FlatPairs PyData.str kvb2 (stD st2))
    (lo1 : (d1 == sysModules) = false) (lo2 : (d2 == sysModules) = false) (lob1 : (b1 == sysModules) = false) (lob2 : (b2 == sysModules) = false) (W1 : WT st1) (W2 : WT st2) (hx : x ∈ namesL)
    (hne : (@Ne Nat o1 d2 ∧ @Ne Nat dx1 d2 ∧ @Ne Nat d1 d2 ∧ @Ne Nat o2 d2 ∧ @Ne Nat dx2 d2 ∧ @Ne Nat b1 d2 ∧ @Ne Nat b2 d2) ∧ @Ne Nat o1 b2 ∧ @Ne Nat dx1 b2 ∧ @Ne Nat d1 b2 ∧ @Ne Nat o2 b2 ∧ @Ne Nat dx2 b2 ∧ @Ne Nat b1 b2)
    (hret : ∀ od2' kv2' ob2' kvb2' h' tk', od2'.IsDictOf (PySem.strKind PySem.Challenge.rw_nz0133_01.row.prog w) kv2' → FlatPairs PyData.str kv2' (stD (St.put st2 x (st1 x))) → ob2'.IsDictOf (PySem.strKind PySem.Challenge.rw_nz0133_01.row.prog w) kvb2' → FlatPairs PyData.str kvb2' (stD (St.put st2 x (st1 x))) →
      Fr h₀ L h' m → (∀ led₂, (∀ p ∈ led₂, p ∈ led ∧ @Ne Nat p.1 d2 ∧ @Ne Nat p.1 b2) → News h₀ L h' ((d2, od2') :: (b2, ob2') :: led₂)) → Q (.bool true) { s with heap := h', toks := tk' }) :
    wpAny (model PySem.Challenge.rw_nz0133_01.row.prog w) (ktrTop dp un gd cn cs L a ccd cl outer) (call (.ref 207) [.ref o1, .ref o2, .ref b1, .ref b2, .str x tx]) Q E s := by
  have hmu : ∀ p ∈ [(o1, optI dx1), (dx1, optD hsh1 tv1 d1 nd1), (d1, od1), (o2, optI dx2), (dx2, optD hsh2 tv2 d2 nd2), (d2, od2), (b1, ob1), (b2, ob2)], p ∈ led := List.forall_mem_cons.mpr ⟨h1, List.forall_mem_cons.mpr ⟨h2, List.forall_mem_cons.mpr ⟨h3, List.forall_mem_cons.mpr ⟨h4, List.forall_mem_cons.mpr ⟨h5, List.forall_mem_cons.mpr ⟨h6, List.forall_mem_cons.mpr ⟨h7, List.forall_mem_singleton.mpr h8⟩⟩⟩⟩⟩⟩⟩
  have hx9 := name_short x hx
  have lk1 := st_look (st := st1) hx
  have lk2 := st_look (st := st2) hx
  rcases flag_or hx with hfl | hfl
  · obtain ⟨v1, hv1⟩ := W1.flag _ hfl
    obtain ⟨v2, hv2⟩ := W2.flag _ hfl
    rw [hv1] at lk1
    rw [hv2] at lk2
    have hz1 := stD_short st1
    have hz2 := stD_short st2
    generalize hD1 : stD st1 = D1 at hf1 hfb1 lk1 hz1
    generalize hD2 : stD st2 = D2 at hf2 hfb2 lk2 hz2
    refine wpAny_call ?_
    k_dflt (k_extra "ktr_enter")
    k_steps
    rw [beq_self_eq_true]
    rename Frm _ _ _ => fr9
    rename News h₀ L _ _ => kN9
    refine' hret _ _ _ _ _ _ ?a ?f1 ?b ?f2 ?c fun led2 hl => List.forall_mem_cons.mpr ⟨kN9 _ ?d, List.forall_mem_cons.mpr ⟨kN9 _ ?e, led_chg [d2, b2] NL hmu kN9 ?f fr9 ?g led2 fun p hp => ⟨(hl p hp).1, not_two (hl p hp).2⟩⟩⟩
    case d => k_mem
    case e => k_mem
    case a => assumption
    case b => assumption
    case f1 => rw [hv1, ← st_put _ hx, hD2]; assumption
    case f2 => rw [hv1, ← st_put _ hx, hD2]; assumption
    case c => assumption
    case g => assumption
    case f =>
      intro p hp hc
      simp only [List.mem_cons, List.not_mem_nil, or_false, not_or] at hc
      simp only [List.mem_cons, List.not_mem_nil, or_false] at hp
      rcases hp with rfl | rfl | rfl | rfl | rfl | rfl | rfl | rfl
      · k_mem
      · k_mem
      · k_mem
      · k_mem
      · k_mem
      · exact absurd rfl hc.1
      · k_mem
      · exact absurd rfl hc.2
  · obtain ⟨v1, hv1, i0, i30⟩ := W1.count _ hfl
    obtain ⟨v2, hv2, j0, j30⟩ := W2.count _ hfl
    rw [hv1] at lk1
    rw [hv2] at lk2
    have hz1 := stD_short st1
    have hz2 := stD_short st2
    generalize hD1 : stD st1 = D1 at hf1 hfb1 lk1 hz1
    generalize hD2 : stD st2 = D2 at hf2 hfb2 lk2 hz2
    refine wpAny_call ?_
    k_dflt (k_extra "ktr_enter")
    k_steps
    rw [beq_self_eq_true]
    rename Frm _ _ _ => fr9
    rename News h₀ L _ _ => kN9
    refine' hret _ _ _ _ _ _ ?a ?f1 ?b ?f2 ?c fun led2 hl => List.forall_mem_cons.mpr ⟨kN9 _ ?d, List.forall_mem_cons.mpr ⟨kN9 _ ?e, led_chg [d2, b2] NL hmu kN9 ?f fr9 ?g led2 fun p hp => ⟨(hl p hp).1, not_two (hl p hp).2⟩⟩⟩
    case d => k_mem
    case e => k_mem
    case a => assumption
    case b => assumption
    case f1 => rw [hv1, ← st_put _ hx, hD2]; assumption
    case f2 => rw [hv1, ← st_put _ hx, hD2]; assumption
    case c => assumption
    case g => assumption
    case f =>
      intro p hp hc
      simp only [List.mem_cons, List.not_mem_nil, or_false, not_or] at hc
      simp only [List.mem_cons, List.not_mem_nil, or_false] at hp
      rcases hp with rfl | rfl | rfl | rfl | rfl | rfl | rfl | rfl
      · k_mem
      · k_mem
      · k_mem
      · k_mem
      · k_mem
      · exact absurd rfl hc.1
      · k_mem
      · exact absurd rfl hc.2
end
end

section
theorem freshLCop : True := by
  w_top off
  k_with_none
  exact True.intro
open PySem PySem.W PyProof.Rows PyProof.V PySem.Calls PySem.Spec
set_option maxRecDepth 100000
set_option maxHeartbeats 8000000
local macro_rules | `(tactic| ktr_unf) => `(tactic| first | k_asm | exact rfl | k_mem | ktr_room | ktr_units | k_updF | omega)
theorem sayLCopa : True := by
  k_with_none
  k_with "ktr_enter" => (first | ((refine' code_defN ?k1q0 ?k2q0 ?k3q0 ?k4q0 ?kMq0 ?k5q0 ?kAq0 ?kFq0 ?kKq0 ?k6q0 ?k7q0 ?k8q0 ?k9q0 ?kBq0 ?_ ?c2q0 ?c3q0 ?c4q0 ?c5q0; (case kAq0 => exact rfl); (case kFq0 => exact rfl); (case kKq0 => assumption); (case k1q0 => k_asm); (case k2q0 => k_asm); (case k3q0 => k_asm); (case k4q0 => k_asm); (case kMq0 => assumption); (case k5q0 => k_asm); (case k6q0 => k_is); (case k7q0 => k_is); (case k8q0 => ktr_room); (case k9q0 => exact BindsTo.of_eq rfl); (case c5q0 => decide); (case kBq0 => exact locs rfl); (case c2q0 => exact rfl); (case c3q0 => exact rfl); (case c4q0 => exact rfl); k_whole; intro g' L' h' FG' F' N' B' X' T' fr' l1 l2; (try k_lt l1); (try dsimp only); (try k_fold))) | ((refine' code_defN ?k1q1 ?k2q1 ?k3q1 ?k4q1 ?kMq1 ?k5q1 ?kAq1 ?kFq1 ?kKq1 ?k6q1 ?k7q1 ?k8q1 ?k9q1 ?kBq1 ?_ ?c2q1 ?c3q1 ?c4q1 ?c5q1; (case kAq1 => exact rfl); (case kFq1 => exact rfl); (case kKq1 => assumption); (case k1q1 => k_asm); (case k2q1 => k_asm); (case k3q1 => k_asm); (case k4q1 => k_asm); (case kMq1 => assumption); (case k5q1 => k_asm); (case k6q1 => k_is); (case k7q1 => k_is); (case k8q1 => ktr_room); (case k9q1 => exact BindsTo.of_eq rfl); (case c5q1 => decide); (case kBq1 => exact locs rfl); (case c2q1 => exact rfl); (case c3q1 => exact rfl); (case c4q1 => exact rfl); k_whole; intro g' L' h' FG' F' N' B' X' T' fr' l1 l2; (try k_lt l1); (try dsimp only); (try k_fold))))
  exact True.intro
theorem upd_app {d : Addr} {o o' : Obj} {r r' : List (Addr × Obj)} : ∀ (pre : List (Addr × Obj)), (∀ p ∈ pre, p.1 ≠ d) → Upd d o o' r r' → Upd d o o' (pre ++ r) (pre ++ r')
  | [], _, u => u
  | p :: pre, h, u => .tail (h p (.head _)) (upd_app pre (fun q hq => h q (.tail _ hq)) u)
theorem allLt_app {d : Addr} : ∀ {a b : List (Addr × Obj)}, AllLt d (a ++ b) = (AllLt d a ∧ AllLt d b)
  | [], b => by simp [AllLt]
  | p :: a, b => by
    show (@LT.lt Nat _ p.1 d ∧ AllLt d (a ++ b)) = ((@LT.lt Nat _ p.1 d ∧ AllLt d a) ∧ AllLt d b)
    rw [allLt_app, and_assoc]
local macro_rules | `(tactic| k_ne) => `(tactic| first | (refine neN ?_; (try dsimp only); omega) | (refine neN ?_; rename (∀ p : Addr × Obj, p ∈ _ ++ _ → p.1 < _) => q9; replace q9 := allLt_of q9; (simp only [allLt_app, AllLt, and_true] at q9); omega))
theorem ne_of {lits new : List (Addr × Obj)} {d : Addr} {o : Obj} (ne : ∀ p ∈ lits, ∀ q ∈ new, @Ne Nat p.1 q.1) (hm : (d, o) ∈ lits) : ∀ q ∈ new, q.1 ≠ d := fun q hq => Ne.symm (ne _ hm q hq)
local macro_rules | `(tactic| k_upd) => `(tactic| ((with_reducible refine' upd_app _ ?a ?b); (case a => (refine' ne_of ?n ?m; (case n => assumption); (case m => k_mem))); (case b => k_upd)))
theorem room_vs {its : Array Value} (h : its.size ≤ 100) : its.size ≤ sizeLine := by rw [sizeLine_eq]; omega

section
variable {w : World} {mean : ExcName → Option Value} {mg mb : Str → Option Value} {dp un : Nat} {gd : Option (List Code)} {cn : Str} {cs : Scope} {a : Addr} {ccd : Value} {cl : List (Str × Addr)} {outer : List Env} {A₀ : Around} {base h₀ : Heap} {L : Addr} {m : Str → Option Value} {led : List (Addr × Obj)} {G : Obj → List (Addr × Obj)} {s : Shared} {Q E : Value → Shared → Prop}
local macro_rules | `(tactic| k_mem) => `(tactic| ((refine' List.mem_append_right _ ?_); k_mem))

/-- the loop that spoils a copy -/
theorem sayLCopb : True := by
  k_with "call builtin:list.append" => (k_here; first | (k_dflt (refine' append_K ?k1q0 ?k2q0 ?k3q0 ?_ ?zq0; (case k1q0 => k_asm); (case k2q0 => k_asm); (case k3q0 => k_upd); (case zq0 => exact room_vs (by assumption)); k_whole); intro h' F' N'; (try k_sweep)) | (k_dflt (refine' append_K ?k1q1 ?k2q1 ?k3q1 ?_ ?zq1; (case k1q1 => k_asm); (case k2q1 => k_asm); (case k3q1 => k_upd); (case zq1 => exact room_vs (by assumption)); k_whole); intro h' F' N'; (try k_sweep)))
  k_with "call ref" => (k_here; (with_reducible show wpAny _ _ (call (Value.ref 139) _) _ _ _); first | (k_dflt (refine' cop_call ?Bq0 ?Fq0 ?Xq0 ?Tq0 ?hkq0 ?hdq0 ?huq0 ?NLq0 ?h1q0 ?h2q0 ?h3q0 ?hodq0 ?hfq0 ?loq0 ?_; (case Bq0 => ktr_unf); (case Fq0 => ktr_unf); (case Xq0 => ktr_unf); (case Tq0 => ktr_unf); (case hkq0 => ktr_unf); (case hdq0 => ktr_unf); (case huq0 => ktr_unf); (case NLq0 => ktr_unf); (case h1q0 => ktr_unf); (case h2q0 => ktr_unf); (case h3q0 => ktr_unf); (case hodq0 => ktr_unf); (case loq0 => ktr_unf); (case hfq0 => assumption); k_whole); intro f9 fo9 kvf9 h9 tk9 hof9 hff9 lof9 F9 N9 ne9; (try (replace ne9 := allNe_of ne9; simp only [AllNe, and_true] at ne9)); (try dsimp only); (try k_fold)) | (k_dflt (refine' cop_call ?Bq1 ?Fq1 ?Xq1 ?Tq1 ?hkq1 ?hdq1 ?huq1 ?NLq1 ?h1q1 ?h2q1 ?h3q1 ?hodq1 ?hfq1 ?loq1 ?_; (case Bq1 => ktr_unf); (case Fq1 => ktr_unf); (case Xq1 => ktr_unf); (case Tq1 => ktr_unf); (case hkq1 => ktr_unf); (case hdq1 => ktr_unf); (case huq1 => ktr_unf); (case NLq1 => ktr_unf); (case h1q1 => ktr_unf); (case h2q1 => ktr_unf); (case h3q1 => ktr_unf); (case hodq1 => ktr_unf); (case loq1 => ktr_unf); (case hfq1 => assumption); k_whole); intro f9 fo9 kvf9 h9 tk9 hof9 hff9 lof9 F9 N9 ne9; (try (replace ne9 := allNe_of ne9; simp only [AllNe, and_true] at ne9)); (try dsimp only); (try k_fold)))
  k_with "call ref" => (k_here; (with_reducible show wpAny _ _ (call (Value.ref 193) _) _ _ _); first | (k_dflt (first | (refine' plain_call ?Bq0 ?Fq0 ?Xq0 ?Tq0 ?hkq0 ?hdq0 ?huq0 ?NLq0 ?h3q0 ?hodq0 ?hfq0 ?loq0 ?Wq0 ?_; (case Bq0 => ktr_unf); (case Fq0 => ktr_unf); (case Xq0 => ktr_unf); (case Tq0 => ktr_unf); (case hkq0 => ktr_unf); (case hdq0 => ktr_unf); (case huq0 => ktr_unf); (case NLq0 => ktr_unf); (case h3q0 => ktr_unf); (case hodq0 => ktr_unf); (case loq0 => ktr_unf); (case hfq0 => assumption); (case Wq0 => assumption); k_whole)); intro l9 new9 h9 tk9 P9 F9 N9 ne9; (try dsimp only); (try k_fold)) | (k_dflt (first | (refine' plain_call ?Bq1 ?Fq1 ?Xq1 ?Tq1 ?hkq1 ?hdq1 ?huq1 ?NLq1 ?h3q1 ?hodq1 ?hfq1 ?loq1 ?Wq1 ?_; (case Bq1 => ktr_unf); (case Fq1 => ktr_unf); (case Xq1 => ktr_unf); (case Tq1 => ktr_unf); (case hkq1 => ktr_unf); (case hdq1 => ktr_unf); (case huq1 => ktr_unf); (case NLq1 => ktr_unf); (case h3q1 => ktr_unf); (case hodq1 => ktr_unf); (case loq1 => ktr_unf); (case hfq1 => assumption); (case Wq1 => assumption); k_whole)); intro l9 new9 h9 tk9 P9 F9 N9 ne9; (try dsimp only); (try k_fold)))
  k_with "compareOp Eq ref ref" => (k_here; first | (k_dflt (refine' eq_plain ?Nq0 ?P1q0 ?P2q0 ?s1q0 ?s2q0 ?uq0 ?_; (case Nq0 => k_asm); (case P1q0 => assumption); (case P2q0 => assumption); (case s1q0 => exact fun p hp => by first | exact List.mem_append_left _ hp | exact List.mem_append_right _ (List.mem_append_left _ hp)); (case s2q0 => exact fun p hp => by first | exact List.mem_append_left _ hp | exact List.mem_append_right _ (List.mem_append_left _ hp)); (case uq0 => ktr_units))) | (k_dflt (refine' eq_plain ?Nq1 ?P1q1 ?P2q1 ?s1q1 ?s2q1 ?uq1 ?_; (case Nq1 => k_asm); (case P1q1 => assumption); (case P2q1 => assumption); (case s1q1 => exact fun p hp => by first | exact List.mem_append_left _ hp | exact List.mem_append_right _ (List.mem_append_left _ hp)); (case s2q1 => exact fun p hp => by first | exact List.mem_append_left _ hp | exact List.mem_append_right _ (List.mem_append_left _ hp)); (case uq1 => ktr_units))))
  exact True.intro
theorem spoil_loop {w : World} {A : Around} {E : Value → Shared → Prop} {s : Shared} {env : Env} {h₀ : Heap} {body : List Stmt} {Q : Flow → Shared → Prop} {D f : Addr} {vs : List Value} {n : Nat} {o : Obj} {rest : List (Addr × Obj)} {m₀ : Str → Option Value} {kvs : List (Str × Value)} {D₀ : List (PyData × PyData)}
    (hh : A.handled = none) (F : Fr h₀ env.locals s.heap m₀) (N : News h₀ env.locals s.heap ((D, PySem.W.listOf vs.toArray n) :: (f, o) :: rest)) (hd : o.IsDictOf (PySem.strKind PySem.Challenge.rw_nz0133_01.row.prog w) kvs) (hf : FlatPairs PyData.str kvs D₀) (hl : D₀.length + vs.length ≤ 60) (hv : ∀ v ∈ vs, ∃ x t, v = Value.str x t)
    (hs : ∀ x t u o' kvs' D' I it h tk, it.cls = .type "list_iterator" → D'.length ≤ 60 → o'.IsDictOf (PySem.strKind PySem.Challenge.rw_nz0133_01.row.prog w) kvs' → FlatPairs PyData.str kvs' D' → (∀ p ∈ (D, PySem.W.listOf vs.toArray n) :: (f, o) :: rest, @LT.lt Nat _ p.1 I) →
      Fr h₀ env.locals h (fun y => if y = Str.ofString "name" then some (.str x t) else if y = Str.ofString "name" then u else m₀ y) → News h₀ env.locals h ((I, it) :: (D, PySem.W.listOf vs.toArray n) :: (f, o') :: rest) →
      wpAny (model PySem.Challenge.rw_nz0133_01.row.prog w) A (execs body env) (fun fl s' => fl = .next ∧ ∃ h' tk' o2 kvs2 D2, s' = { s with heap := h', toks := tk' } ∧ Fr h₀ env.locals h' (fun y => if y = Str.ofString "name" then some (.str x t) else if y = Str.ofString "name" then u else m₀ y) ∧ News h₀ env.locals h' ((I, it) :: (D, PySem.W.listOf vs.toArray n) :: (f, o2) :: rest) ∧ o2.IsDictOf (PySem.strKind PySem.Challenge.rw_nz0133_01.row.prog w) kvs2 ∧ FlatPairs PyData.str kvs2 D2 ∧ D2.length ≤ D'.length + 1) E { s with heap := h, toks := tk })
    (hz : ∀ u o' kvs' D' h tk, o'.IsDictOf (PySem.strKind PySem.Challenge.rw_nz0133_01.row.prog w) kvs' → FlatPairs PyData.str kvs' D' → Fr h₀ env.locals h (fun y => if y = Str.ofString "name" then u else m₀ y) → News h₀ env.locals h ((D, PySem.W.listOf vs.toArray n) :: (f, o') :: rest) → Q .next { s with heap := h, toks := tk }) :
    wpAny (model PySem.Challenge.rw_nz0133_01.row.prog w) A (pyIter (.ref D)) (fun it s₂ => LoopAtV PySem.Challenge.rw_nz0133_01.row.prog w A h₀ env (Str.ofString "name") body Q E it s₂) E s := by
  refine iter_listUnr hh F N (.head _) rfl rfl fun I lI => ?_
  refine list_ind (V := fun v => ∃ x t, v = Value.str x t) (fun l m news => (∃ u, m = fun y => if y = Str.ofString "name" then u else m₀ y) ∧ ∃ o' kvs' D', news = (D, PySem.W.listOf vs.toArray n) :: (f, o') :: rest ∧ o'.IsDictOf (PySem.strKind PySem.Challenge.rw_nz0133_01.row.prog w) kvs' ∧ FlatPairs PyData.str kvs' D' ∧ D'.length + l.length ≤ 60) ?_ ?_ ?_ vs hv _ _ ⟨⟨m₀ (Str.ofString "name"), ?_⟩, o, kvs, D₀, rfl, hd, hf, hl⟩
  · rintro l m nw ⟨_, o', kvs', D', rfl, _⟩
    exact .head _
  · rintro m nw ⟨⟨u, rfl⟩, o', kvs', D', rfl, a, b, c⟩ h tk F' N'
    exact hz u o' kvs' D' h tk a b F' N'
  · rintro v r m nw ⟨x, t, rfl⟩ ⟨⟨u, rfl⟩, o', kvs', D', rfl, a, b, c⟩ h tk it hc F' N'
    refine wpAny_mono (hs x t u o' kvs' D' I it h tk hc (by omega) a b lI F' N') (fun fl s₃ y => ?_) fun _ _ z => z
    obtain ⟨rfl, h', tk', o2, kvs2, D2, rfl, F2, N2, a2, b2, c2⟩ := y
    refine show TurnNext _ _ _ _ _ _ _ from ⟨h', tk', _, _, rfl, F2, N2, fun p hp => ?_, ⟨some (.str x t), funext fun y => ?_⟩, o2, kvs2, D2, rfl, a2, b2, ?_⟩
    · rcases List.mem_cons.mp hp with rfl | hp
      · exact Nat.ne_of_lt (lI _ (.head _))
      rcases List.mem_cons.mp hp with rfl | hp
      · exact Nat.ne_of_lt (lI (f, o) (.tail _ (.head _)))
      · exact Nat.ne_of_lt (lI p (.tail _ (.tail _ hp)))
    · by_cases e : y = Str.ofString "name"
      · rw [if_pos e, if_pos e]
      · rw [if_neg e, if_neg e, if_neg e]
    · rw [List.length_cons] at c; omega
  · funext y
    by_cases e : y = Str.ofString "name"
    · rw [if_pos e, e]
    · rw [if_neg e]
theorem set_any {w : World} {A : Around} {E : Value → Shared → Prop} {s : Shared} {h₀ : Heap} {L d : Addr} {m : Str → Option Value} {news : List (Addr × Obj)} {g : Obj → List (Addr × Obj)} {o : Obj} {kvs : List (Str × Value)} {D : List (PyData × PyData)} {x : Str} {tx : Tok} {v : Value} {dv : PyData} {Q : Unit → Shared → Prop}
    (F : Fr h₀ L s.heap m) (N : News h₀ L s.heap news) (U : UpdF d o news g) (hd : o.IsDictOf (PySem.strKind PySem.Challenge.rw_nz0133_01.row.prog w) kvs) (hf : FlatPairs PyData.str kvs D) (hl : D.length ≤ 60) (hv : Flat v dv)
    (h : ∀ h' o' kvs' D', Fr h₀ L h' m → News h₀ L h' (g o') → o'.IsDictOf (PySem.strKind PySem.Challenge.rw_nz0133_01.row.prog w) kvs' → FlatPairs PyData.str kvs' D' → D'.length ≤ D.length + 1 → Q () { s with heap := h', toks := s.toks + 1 }) :
    wpAny (model PySem.Challenge.rw_nz0133_01.row.prog w) A (setItem (.ref d) (.str x tx) v) Q E s :=
  setItem_K PyProof.V.same_str (strKind_is _ _ _ _) hv F N U hd hf (fun h' o' F' N' a b => h h' o' _ _ F' N' a b (putD_length_le _ _ _)) (roomD (by omega))

theorem sayLCopc : True := by
  k_with "pyIter ref" => (k_here; (with_reducible show wpAny _ _ (pyIter (Value.ref _)) (fun it s₂ => LoopAtV _ _ _ _ _ (Str.ofString "name") _ _ _ it s₂) _ _); refine Stop.out ?_)
  k_with "setItem ref str" => (k_here; first | (k_dflt (refine' set_any ?Fq0 ?Nq0 ?Uq0 ?hdq0 ?hfq0 ?hlq0 ?hvq0 ?_; (case Fq0 => k_asm); (case Nq0 => k_asm); (case Uq0 => k_updF); (case hdq0 => assumption); (case hfq0 => assumption); (case hlq0 => assumption); (case hvq0 => k_flat)); intro h' o' kvs' D' F' N' hd' hf' hl'; (try dsimp only at N')) | (k_dflt (refine' set_any ?Fq1 ?Nq1 ?Uq1 ?hdq1 ?hfq1 ?hlq1 ?hvq1 ?_; (case Fq1 => k_asm); (case Nq1 => k_asm); (case Uq1 => k_updF); (case hdq1 => assumption); (case hfq1 => assumption); (case hlq1 => assumption); (case hvq1 => k_flat)); intro h' o' kvs' D' F' N' hd' hf' hl'; (try dsimp only at N')))
  exact True.intro
theorem lcop_call {o dx d nd bk kp nk : Nat} {hsh : Int} {tv : Tok} {od ob : Obj} {kvs kvb : List (Str × Value)} {st : Str → PyData} {its : Array Value}
    (B : Below A₀ base outer h₀) (F : Fr h₀ L s.heap m) (X : (hd.heap_39 w.params).In h₀) (T : Top hd.view_39 LS mean mg mb h₀) (hk : cs.kind = .function)
    (hdp : dp + 30 < recursionLimit) (hu : un + 400 < cLine) (NL : News h₀ L s.heap led) (h1 : (o, optI dx) ∈ led) (h2 : (dx, optD hsh tv d nd) ∈ led) (h3 : (d, od) ∈ led) (hod : od.IsDictOf (PySem.strKind PySem.Challenge.rw_nz0133_01.row.prog w) kvs) (hf : FlatPairs PyData.str kvs (stD st)) (lo : (d == sysModules) = false) (h4 : (bk, ob) ∈ led) (h5 : (kp, PySem.W.listOf its nk) ∈ led) (hob : ob.IsDictOf (PySem.strKind PySem.Challenge.rw_nz0133_01.row.prog w) kvb) (hfb : FlatPairs PyData.str kvb (stD st)) (lob : (bk == sysModules) = false) (W : WT st) (hvs : its.size ≤ 100)
    (hne : @Ne Nat o kp ∧ @Ne Nat dx kp ∧ @Ne Nat d kp ∧ @Ne Nat bk kp)
    (hret : ∀ T f l (fo : Obj) kvf new nk' h' tk', fo.IsDictOf (PySem.strKind PySem.Challenge.rw_nz0133_01.row.prog w) kvf → FlatPairs PyData.str kvf (stD st) → (f == sysModules) = false → PlainAt new st l → Fr h₀ L h' m →
      (∀ led₂, (∀ p ∈ led₂, p ∈ led ∧ @Ne Nat p.1 kp) → News h₀ L h' ((kp, PySem.W.listOf (its.push (.ref T)) nk') :: (T, tupO [.ref f, .ref l]) :: (f, fo) :: (new ++ led₂))) →
      (∀ p ∈ led, @Ne Nat p.1 T ∧ @Ne Nat p.1 f ∧ ∀ q ∈ new, @Ne Nat p.1 q.1) → Q (.bool true) { s with heap := h', toks := tk' }) :
    wpAny (model PySem.Challenge.rw_nz0133_01.row.prog w) (ktrTop dp un gd cn cs L a ccd cl outer) (call (.ref 214) [.ref o, .ref bk, .ref kp]) Q E s := by
  have hmu : ∀ p ∈ [(o, optI dx), (dx, optD hsh tv d nd), (d, od), (bk, ob), (kp, PySem.W.listOf its nk)], p ∈ led := List.forall_mem_cons.mpr ⟨h1, List.forall_mem_cons.mpr ⟨h2, List.forall_mem_cons.mpr ⟨h3, List.forall_mem_cons.mpr ⟨h4, List.forall_mem_singleton.mpr h5⟩⟩⟩⟩
  refine wpAny_call ?_
  k_dflt (k_extra "ktr_enter")
  k_steps
  refine Stop.mk ?_
  k_dflt (refine' spoil_loop ?hh ?F8 ?N8 ?hd8 ?hf8 ?hl8 ?hv8 ?hs8 ?hz8)
  case hh => exact rfl
  case F8 => k_asm
  case N8 => k_asm
  case hd8 => assumption
  case hf8 => assumption
  case hl8 => exact Nat.le_of_ble_eq_true rfl
  case hv8 => (repeat (first | exact List.forall_mem_nil _ | refine List.forall_mem_cons.mpr ⟨⟨_, _, rfl⟩, ?_⟩))
  case hs8 =>
    intro x8 t8 u8 o8 kvs8 D8 I8 it8 h8 tk8 hc8 hl8 hd8 hf8 lI8 F8 N8
    replace lI8 := allLt_of lI8
    simp only [AllLt] at lI8
    k_steps
    all_goals assumption
  intro u8 o8 kvs8 D8 h8 tk8 hd8 hf8 F8 N8
  k_steps
  rename Frm _ _ _ => fr9
  rename News h₀ L _ _ => kN9
  revert kN9
  rename News _ _ _ (_ ++ (_ ++ _)) => N8
  intro kN9
  rename (∀ p : Addr × Obj, p ∈ _ ++ _ → p.1 < _) => lT
  rename (∀ p : Addr × Obj, p ∈ _ → ∀ q : Addr × Obj, q ∈ _ → @Ne Nat p.1 q.1) => nn3
  clear nn3
  rename (∀ p : Addr × Obj, p ∈ _ → ∀ q : Addr × Obj, q ∈ _ → @Ne Nat p.1 q.1) => nn2
  clear nn2
  rename (∀ p : Addr × Obj, p ∈ _ → ∀ q : Addr × Obj, q ∈ _ → @Ne Nat p.1 q.1) => nn1
  rename PlainAt _ _ _ => P3
  clear P3
  rename PlainAt _ _ _ => P2
  clear P2
  rename PlainAt _ _ _ => P1
  refine' hret _ _ _ _ _ _ _ _ _ ?a ?b ?lo P1 ?F (fun led2 hl => List.forall_mem_cons.mpr ⟨kN9 _ ?m1, List.forall_mem_cons.mpr ⟨kN9 _ ?m2, List.forall_mem_cons.mpr ⟨kN9 _ ?m3, List.forall_mem_append.mpr ⟨fun q hq => kN9 q ?m4, led_chg [kp] NL hmu kN9 ?f fr9 ?g led2 fun p hp => ⟨(hl p hp).1, by simpa using (hl p hp).2⟩⟩⟩⟩⟩) (fun p hp => ⟨?n1, ?n2, fun q hq => ?n3⟩)
  case m1 => k_mem
  case m2 => k_mem
  case m3 => k_mem
  case m4 => exact List.mem_append_right _ (List.mem_append_right _ (.tail _ (.tail _ (List.mem_append_left _ hq))))
  case a => assumption
  case b => assumption
  case lo => assumption
  case F => assumption
  case g => assumption
  case f =>
    intro p hp hc
    simp only [List.mem_cons, List.not_mem_nil, or_false] at hc hp
    rcases hp with rfl | rfl | rfl | rfl | rfl
    · k_mem
    · k_mem
    · k_mem
    · k_mem
    · exact absurd rfl hc
  case n1 => exact new_neM fr9 N8 (by k_mem) (fun q hq => Nat.ne_of_lt (lT q (List.mem_append_right _ (.tail _ (.tail _ (.tail _ hq)))))) p hp
  case n2 => exact new_neM fr9 N8 (by k_mem) (by (refine allNe_all ?_); (simp only [AllNe, and_true]); omega) p hp
  case n3 => exact new_neM fr9 N8 (List.mem_append_right _ (List.mem_append_right _ (.tail _ (.tail _ (List.mem_append_left _ hq))))) (fun r hr => nn1 r (.tail _ (.tail _ (.tail _ hr))) q hq) p hp
end
end

section
theorem freshFork : True := by
  w_top off
  k_with_none
  exact True.intro
open PySem PySem.W PyProof.Rows PyProof.V PySem.Calls PySem.Spec
set_option maxRecDepth 100000
set_option maxHeartbeats 400000
local macro_rules | `(tactic| ktr_unf) => `(tactic| first | k_asm | exact rfl | k_mem | ktr_room | ktr_units | k_updF | omega)

theorem sayForka : True := by
  k_with_none
  k_with "ktr_enter" => (first | ((refine' code_defN ?k1q0 ?k2q0 ?k3q0 ?k4q0 ?kMq0 ?k5q0 ?kAq0 ?kFq0 ?kKq0 ?k6q0 ?k7q0 ?k8q0 ?k9q0 ?kBq0 ?_ ?c2q0 ?c3q0 ?c4q0 ?c5q0; (case kAq0 => exact rfl); (case kFq0 => exact rfl); (case kKq0 => assumption); (case k1q0 => k_asm); (case k2q0 => k_asm); (case k3q0 => k_asm); (case k4q0 => k_asm); (case kMq0 => assumption); (case k5q0 => k_asm); (case k6q0 => k_is); (case k7q0 => k_is); (case k8q0 => ktr_room); (case k9q0 => exact BindsTo.of_eq rfl); (case c5q0 => decide); (case kBq0 => exact locs rfl); (case c2q0 => exact rfl); (case c3q0 => exact rfl); (case c4q0 => exact rfl); k_whole; intro g' L' h' FG' F' N' B' X' T' fr' l1 l2; (try k_lt l1); (try dsimp only); (try k_fold))) | ((refine' code_defN ?k1q1 ?k2q1 ?k3q1 ?k4q1 ?kMq1 ?k5q1 ?kAq1 ?kFq1 ?kKq1 ?k6q1 ?k7q1 ?k8q1 ?k9q1 ?kBq1 ?_ ?c2q1 ?c3q1 ?c4q1 ?c5q1; (case kAq1 => exact rfl); (case kFq1 => exact rfl); (case kKq1 => assumption); (case k1q1 => k_asm); (case k2q1 => k_asm); (case k3q1 => k_asm); (case k4q1 => k_asm); (case kMq1 => assumption); (case k5q1 => k_asm); (case k6q1 => k_is); (case k7q1 => k_is); (case k8q1 => ktr_room); (case k9q1 => exact BindsTo.of_eq rfl); (case c5q1 => decide); (case kBq1 => exact locs rfl); (case c2q1 => exact rfl); (case c3q1 => exact rfl); (case c4q1 => exact rfl); k_whole; intro g' L' h' FG' F' N' B' X' T' fr' l1 l2; (try k_lt l1); (try dsimp only); (try k_fold))))
  exact True.intro
theorem updF_sub {d : Addr} {o : Obj} {l : List (Addr × Obj)} {g : Obj → List (Addr × Obj)} (U : UpdF d o l g) : ∀ o' q, q ∈ g o' → q = (d, o') ∨ (q ∈ l ∧ @Ne Nat q.1 d) := fun o' q hq => by
  obtain ⟨pre, post, rfl, hg, ha, hb⟩ := U.split
  rw [hg] at hq
  rcases List.mem_append.mp hq with hq | hq
  · exact .inr ⟨List.mem_append_left _ hq, ha q hq⟩
  · rcases List.mem_cons.mp hq with rfl | hq
    · exact .inl rfl
    · exact .inr ⟨List.mem_append_right _ (.tail _ hq), hb q hq⟩
theorem WT.put_any {st st' : Str → PyData} (h : WT st) (h' : WT st') {x : Str} (hx : x ∈ namesL) : WT (St.put st x (st' x)) := by
  rcases flag_or hx with hf | hf
  · obtain ⟨b, e⟩ := h'.flag x hf
    rw [e]; exact h.put_flag hf b
  · obtain ⟨i, e, h0, h1⟩ := h'.count x hf
    rw [e]; exact h.put_count hf h0 h1
theorem count_pos {it : Itm} {r : Int} (h : it.count = some r) : 0 ≤ r := by
  cases it with
  | num i =>
    simp only [Itm.count] at h
    by_cases q : i < 0
    · rw [if_pos q] at h; cases h
    · rw [if_neg q] at h; cases h; omega
  | none | sym | dec | txt | lst => cases h
section
variable {w : World} {mean : ExcName → Option Value} {mg mb : Str → Option Value} {dp un : Nat} {gd : Option (List Code)} {cn : Str} {cs : Scope} {a : Addr} {ccd : Value} {cl : List (Str × Addr)} {outer : List Env} {A₀ : Around} {base h₀ : Heap} {L : Addr} {m : Str → Option Value} {led : List (Addr × Obj)} {G : Obj → List (Addr × Obj)} {s : Shared} {Q E : Value → Shared → Prop}

theorem due_flag3 {x : Str} {tx : Tok} {bg : Bool} {v : Value} {it : Itm} {a1 a2 a3 : Nat} {o1 o2 o3 : Obj}
    (B : Below A₀ base outer h₀) (F : Fr h₀ L s.heap m) (X : (hd.heap_39 w.params).In h₀) (T : Top hd.view_39 LS mean mg mb h₀) (hk : cs.kind = .function)
    (hdp : dp + 10 < recursionLimit) (hu : un + 300 < cLine) (NL : News h₀ L s.heap led) (hx : x ∈ flagsL) (hn : x ∈ namesL) (hi : it.At [(a1, o1), (a2, o2), (a3, o3)] v) (h4 : (a1, o1) ∈ led) (h5 : (a2, o2) ∈ led) (h6 : (a3, o3) ∈ led)
    (hret : (∀ r, it.flag = some r → (bg && (earlyL.any fun y => y == x)) = false → ∀ ra t h' tk', Fr h₀ L h' m → News h₀ L h' ((ra, tupO [.bool r, .str (Str.ofString "") t]) :: led) → (∀ p ∈ led, @Ne Nat p.1 ra) → Q (.ref ra) { s with heap := h', toks := tk' }) ∧ (it.flag = none → ∀ ra t h' tk', Fr h₀ L h' m → News h₀ L h' ((ra, tupO [.none, .str (Str.ofString "true or false") t]) :: led) → (∀ p ∈ led, @Ne Nat p.1 ra) → Q (.ref ra) { s with heap := h', toks := tk' }) ∧ (∀ r, it.flag = some r → (bg && (earlyL.any fun y => y == x)) = true → ∀ ra t h' tk', Fr h₀ L h' m → News h₀ L h' ((ra, tupO [.bool r, .str (Str.ofString "first of all") t]) :: led) → (∀ p ∈ led, @Ne Nat p.1 ra) → Q (.ref ra) { s with heap := h', toks := tk' })) :
    wpAny (model PySem.Challenge.rw_nz0133_01.row.prog w) (ktrTop dp un gd cn cs L a ccd cl outer) (call (.ref 176) [.str x tx, v, .bool bg]) Q E s := due_flag B F X T hk hdp hu NL hx hn hi h4 h5 h6 hret.1 hret.2.1 hret.2.2

theorem due_count3 {x : Str} {tx : Tok} {bg : Bool} {v : Value} {it : Itm} {a1 a2 a3 : Nat} {o1 o2 o3 : Obj}
    (B : Below A₀ base outer h₀) (F : Fr h₀ L s.heap m) (X : (hd.heap_39 w.params).In h₀) (T : Top hd.view_39 LS mean mg mb h₀) (hk : cs.kind = .function)
    (hdp : dp + 10 < recursionLimit) (hu : un + 300 < cLine) (NL : News h₀ L s.heap led) (hx : x ∈ countsL) (hn : x ∈ namesL) (hi : it.At [(a1, o1), (a2, o2), (a3, o3)] v) (h4 : (a1, o1) ∈ led) (h5 : (a2, o2) ∈ led) (h6 : (a3, o3) ∈ led)
    (hret : (∀ r, it.count = some r → (bg && (earlyL.any fun y => y == x)) = false → ∀ ra t ti h' tk', Fr h₀ L h' m → News h₀ L h' ((ra, tupO [.int r ti, .str (Str.ofString "") t]) :: led) → (∀ p ∈ led, @Ne Nat p.1 ra) → Q (.ref ra) { s with heap := h', toks := tk' }) ∧ (it.count = none → ∀ ra t h' tk', Fr h₀ L h' m → News h₀ L h' ((ra, tupO [.none, .str (Str.ofString "a numeral") t]) :: led) → (∀ p ∈ led, @Ne Nat p.1 ra) → Q (.ref ra) { s with heap := h', toks := tk' }) ∧ (∀ r, it.count = some r → (bg && (earlyL.any fun y => y == x)) = true → ∀ ra t ti h' tk', Fr h₀ L h' m → News h₀ L h' ((ra, tupO [.int r ti, .str (Str.ofString "first of all") t]) :: led) → (∀ p ∈ led, @Ne Nat p.1 ra) → Q (.ref ra) { s with heap := h', toks := tk' })) :
    wpAny (model PySem.Challenge.rw_nz0133_01.row.prog w) (ktrTop dp un gd cn cs L a ccd cl outer) (call (.ref 176) [.str x tx, v, .bool bg]) Q E s := due_count B F X T hk hdp hu NL hx hn hi h4 h5 h6 hret.1 hret.2.1 hret.2.2

theorem lp_flag_ok {o dx d nd : Nat} {hsh : Int} {tv tx : Tok} {od : Obj} {kvs : List (Str × Value)} {x : Str} {v : Value} {it : Itm} {a1 a2 a3 : Nat} {o1 o2 o3 : Obj} {bg : Bool} {st : Str → PyData} {r : Bool}
    (B : Below A₀ base [] h₀) (F : Fr h₀ L s.heap m) (X : (hd.heap_39 w.params).In h₀) (T : Top hd.view_39 LS mean mg mb h₀) (hk : cs.kind = .function)
    (hdp : dp + 30 < recursionLimit) (hu : un + 500 < cLine) (NL : News h₀ L s.heap led) (XB : (hd.heap_39 w.params).In base) (TB : Top hd.view_39 LS mean mg mb base) (h1 : (o, optI dx) ∈ led) (h2 : (dx, optD hsh tv d nd) ∈ led) (h3 : (d, od) ∈ led) (hod : od.IsDictOf (PySem.strKind PySem.Challenge.rw_nz0133_01.row.prog w) kvs) (hf : FlatPairs PyData.str kvs (stD st)) (lo : (d == sysModules) = false) (W : WT st) (hk2 : x ∈ flagsL) (hn : x ∈ namesL) (hi : it.At [(a1, o1), (a2, o2), (a3, o3)] v) (h4 : (a1, o1) ∈ led) (h5 : (a2, o2) ∈ led) (h6 : (a3, o3) ∈ led) (U : UpdF d od led G) (n1 : @Ne Nat o d) (n2 : @Ne Nat dx d) (n4 : @Ne Nat a1 d) (n5 : @Ne Nat a2 d) (n6 : @Ne Nat a3 d) (hr : it.flag = some r) (hc : (bg && (earlyL.any fun y => y == x)) = false) (hb9 : ∀ r, it.count = some r → r < 10 ^ 30)
    (hret : ∀ od' kvs' tk2 h' tk', od'.IsDictOf (PySem.strKind PySem.Challenge.rw_nz0133_01.row.prog w) kvs' → FlatPairs PyData.str kvs' (stD (St.put st x (.bool r))) → WT (St.put st x (.bool r)) → Fr h₀ L h' m → News h₀ L h' (G od') → Q (.str (Str.ofString "") tk2) { s with heap := h', toks := tk' }) :
    wpAny (model PySem.Challenge.rw_nz0133_01.row.prog w) (ktrTop dp un gd cn cs L a ccd [] []) (call (.ref 181) [.ref o, .str x tx, v, .bool bg]) Q E s :=
  by
  obtain ⟨b, hb⟩ := W.flag _ hk2
  have hl := st_look (st := st) hn
  rw [hb] at hl
  have hx := name_short x hn
  exact lputr_flag B F X T hk hdp hu NL XB TB h1 h2 h3 hod hf lo hl hx hi h4 h5 h6 (stD_short _) U n1 n2 n4 n5 n6 (fun r' e _ => by cases hr.symm.trans e; rw [st_put _ hn]; exact fun od' kvs' tk2 h' tk' a b => hret od' kvs' tk2 h' tk' a b (W.put_flag hk2 _)) (fun e => by rw [hr] at e; cases e) (fun _ _ q => by rw [hc] at q; cases q)

theorem lp_flag_bad {o dx d nd : Nat} {hsh : Int} {tv tx : Tok} {od : Obj} {kvs : List (Str × Value)} {x : Str} {v : Value} {it : Itm} {a1 a2 a3 : Nat} {o1 o2 o3 : Obj} {bg : Bool} {st : Str → PyData} 
    (B : Below A₀ base [] h₀) (F : Fr h₀ L s.heap m) (X : (hd.heap_39 w.params).In h₀) (T : Top hd.view_39 LS mean mg mb h₀) (hk : cs.kind = .function)
    (hdp : dp + 30 < recursionLimit) (hu : un + 500 < cLine) (NL : News h₀ L s.heap led) (XB : (hd.heap_39 w.params).In base) (TB : Top hd.view_39 LS mean mg mb base) (h1 : (o, optI dx) ∈ led) (h2 : (dx, optD hsh tv d nd) ∈ led) (h3 : (d, od) ∈ led) (hod : od.IsDictOf (PySem.strKind PySem.Challenge.rw_nz0133_01.row.prog w) kvs) (hf : FlatPairs PyData.str kvs (stD st)) (lo : (d == sysModules) = false) (W : WT st) (hk2 : x ∈ flagsL) (hn : x ∈ namesL) (hi : it.At [(a1, o1), (a2, o2), (a3, o3)] v) (h4 : (a1, o1) ∈ led) (h5 : (a2, o2) ∈ led) (h6 : (a3, o3) ∈ led) (U : UpdF d od led G) (n1 : @Ne Nat o d) (n2 : @Ne Nat dx d) (n4 : @Ne Nat a1 d) (n5 : @Ne Nat a2 d) (n6 : @Ne Nat a3 d) (hr : it.flag = none)
    (hret : ∀ tk2 h' tk', Fr h₀ L h' m → News h₀ L h' led → Q (.str (Str.ofString "true or false") tk2) { s with heap := h', toks := tk' }) :
    wpAny (model PySem.Challenge.rw_nz0133_01.row.prog w) (ktrTop dp un gd cn cs L a ccd [] []) (call (.ref 181) [.ref o, .str x tx, v, .bool bg]) Q E s :=
  by
  obtain ⟨b, hb⟩ := W.flag _ hk2
  have hl := st_look (st := st) hn
  rw [hb] at hl
  have hx := name_short x hn
  exact lputr_flag B F X T hk hdp hu NL XB TB h1 h2 h3 hod hf lo hl hx hi h4 h5 h6 (stD_short _) U n1 n2 n4 n5 n6 (fun _ e => by rw [hr] at e; cases e) (fun _ => hret) (fun _ e => by rw [hr] at e; cases e)

theorem lp_flag_late {o dx d nd : Nat} {hsh : Int} {tv tx : Tok} {od : Obj} {kvs : List (Str × Value)} {x : Str} {v : Value} {it : Itm} {a1 a2 a3 : Nat} {o1 o2 o3 : Obj} {bg : Bool} {st : Str → PyData} {r : Bool}
    (B : Below A₀ base [] h₀) (F : Fr h₀ L s.heap m) (X : (hd.heap_39 w.params).In h₀) (T : Top hd.view_39 LS mean mg mb h₀) (hk : cs.kind = .function)
    (hdp : dp + 30 < recursionLimit) (hu : un + 500 < cLine) (NL : News h₀ L s.heap led) (XB : (hd.heap_39 w.params).In base) (TB : Top hd.view_39 LS mean mg mb base) (h1 : (o, optI dx) ∈ led) (h2 : (dx, optD hsh tv d nd) ∈ led) (h3 : (d, od) ∈ led) (hod : od.IsDictOf (PySem.strKind PySem.Challenge.rw_nz0133_01.row.prog w) kvs) (hf : FlatPairs PyData.str kvs (stD st)) (lo : (d == sysModules) = false) (W : WT st) (hk2 : x ∈ flagsL) (hn : x ∈ namesL) (hi : it.At [(a1, o1), (a2, o2), (a3, o3)] v) (h4 : (a1, o1) ∈ led) (h5 : (a2, o2) ∈ led) (h6 : (a3, o3) ∈ led) (U : UpdF d od led G) (n1 : @Ne Nat o d) (n2 : @Ne Nat dx d) (n4 : @Ne Nat a1 d) (n5 : @Ne Nat a2 d) (n6 : @Ne Nat a3 d) (hr : it.flag = some r) (hc : (bg && (earlyL.any fun y => y == x)) = true)
    (hret : ∀ tk2 h' tk', Fr h₀ L h' m → News h₀ L h' led → Q (.str (Str.ofString "first of all") tk2) { s with heap := h', toks := tk' }) :
    wpAny (model PySem.Challenge.rw_nz0133_01.row.prog w) (ktrTop dp un gd cn cs L a ccd [] []) (call (.ref 181) [.ref o, .str x tx, v, .bool bg]) Q E s :=
  by
  obtain ⟨b, hb⟩ := W.flag _ hk2
  have hl := st_look (st := st) hn
  rw [hb] at hl
  have hx := name_short x hn
  exact lputr_flag B F X T hk hdp hu NL XB TB h1 h2 h3 hod hf lo hl hx hi h4 h5 h6 (stD_short _) U n1 n2 n4 n5 n6 (fun _ _ q => by rw [hc] at q; cases q) (fun e => by rw [hr] at e; cases e) (fun _ _ _ => hret)

theorem lp_count_ok {o dx d nd : Nat} {hsh : Int} {tv tx : Tok} {od : Obj} {kvs : List (Str × Value)} {x : Str} {v : Value} {it : Itm} {a1 a2 a3 : Nat} {o1 o2 o3 : Obj} {bg : Bool} {st : Str → PyData} {r : Int}
    (B : Below A₀ base [] h₀) (F : Fr h₀ L s.heap m) (X : (hd.heap_39 w.params).In h₀) (T : Top hd.view_39 LS mean mg mb h₀) (hk : cs.kind = .function)
    (hdp : dp + 30 < recursionLimit) (hu : un + 500 < cLine) (NL : News h₀ L s.heap led) (XB : (hd.heap_39 w.params).In base) (TB : Top hd.view_39 LS mean mg mb base) (h1 : (o, optI dx) ∈ led) (h2 : (dx, optD hsh tv d nd) ∈ led) (h3 : (d, od) ∈ led) (hod : od.IsDictOf (PySem.strKind PySem.Challenge.rw_nz0133_01.row.prog w) kvs) (hf : FlatPairs PyData.str kvs (stD st)) (lo : (d == sysModules) = false) (W : WT st) (hk2 : x ∈ countsL) (hn : x ∈ namesL) (hi : it.At [(a1, o1), (a2, o2), (a3, o3)] v) (h4 : (a1, o1) ∈ led) (h5 : (a2, o2) ∈ led) (h6 : (a3, o3) ∈ led) (U : UpdF d od led G) (n1 : @Ne Nat o d) (n2 : @Ne Nat dx d) (n4 : @Ne Nat a1 d) (n5 : @Ne Nat a2 d) (n6 : @Ne Nat a3 d) (hr : it.count = some r) (hc : (bg && (earlyL.any fun y => y == x)) = false) (hb9 : ∀ r, it.count = some r → r < 10 ^ 30)
    (hret : ∀ od' kvs' tk2 h' tk', od'.IsDictOf (PySem.strKind PySem.Challenge.rw_nz0133_01.row.prog w) kvs' → FlatPairs PyData.str kvs' (stD (St.put st x (.int r))) → WT (St.put st x (.int r)) → Fr h₀ L h' m → News h₀ L h' (G od') → Q (.str (Str.ofString "") tk2) { s with heap := h', toks := tk' }) :
    wpAny (model PySem.Challenge.rw_nz0133_01.row.prog w) (ktrTop dp un gd cn cs L a ccd [] []) (call (.ref 181) [.ref o, .str x tx, v, .bool bg]) Q E s :=
  by
  obtain ⟨i, hb, _, _⟩ := W.count _ hk2
  have hl := st_look (st := st) hn
  rw [hb] at hl
  have hx := name_short x hn
  exact lputr_count B F X T hk hdp hu NL XB TB h1 h2 h3 hod hf lo hl hx hi h4 h5 h6 (stD_short _) U n1 n2 n4 n5 n6 (fun r' e _ => by cases hr.symm.trans e; rw [st_put _ hn]; exact fun od' kvs' tk2 h' tk' a b => hret od' kvs' tk2 h' tk' a b (W.put_count hk2 (count_pos hr) (hb9 _ hr))) (fun e => by rw [hr] at e; cases e) (fun _ _ q => by rw [hc] at q; cases q)

theorem lp_count_bad {o dx d nd : Nat} {hsh : Int} {tv tx : Tok} {od : Obj} {kvs : List (Str × Value)} {x : Str} {v : Value} {it : Itm} {a1 a2 a3 : Nat} {o1 o2 o3 : Obj} {bg : Bool} {st : Str → PyData} 
    (B : Below A₀ base [] h₀) (F : Fr h₀ L s.heap m) (X : (hd.heap_39 w.params).In h₀) (T : Top hd.view_39 LS mean mg mb h₀) (hk : cs.kind = .function)
    (hdp : dp + 30 < recursionLimit) (hu : un + 500 < cLine) (NL : News h₀ L s.heap led) (XB : (hd.heap_39 w.params).In base) (TB : Top hd.view_39 LS mean mg mb base) (h1 : (o, optI dx) ∈ led) (h2 : (dx, optD hsh tv d nd) ∈ led) (h3 : (d, od) ∈ led) (hod : od.IsDictOf (PySem.strKind PySem.Challenge.rw_nz0133_01.row.prog w) kvs) (hf : FlatPairs PyData.str kvs (stD st)) (lo : (d == sysModules) = false) (W : WT st) (hk2 : x ∈ countsL) (hn : x ∈ namesL) (hi : it.At [(a1, o1), (a2, o2), (a3, o3)] v) (h4 : (a1, o1) ∈ led) (h5 : (a2, o2) ∈ led) (h6 : (a3, o3) ∈ led) (U : UpdF d od led G) (n1 : @Ne Nat o d) (n2 : @Ne Nat dx d) (n4 : @Ne Nat a1 d) (n5 : @Ne Nat a2 d) (n6 : @Ne Nat a3 d) (hr : it.count = none)
    (hret : ∀ tk2 h' tk', Fr h₀ L h' m → News h₀ L h' led → Q (.str (Str.ofString "a numeral") tk2) { s with heap := h', toks := tk' }) :
    wpAny (model PySem.Challenge.rw_nz0133_01.row.prog w) (ktrTop dp un gd cn cs L a ccd [] []) (call (.ref 181) [.ref o, .str x tx, v, .bool bg]) Q E s :=
  by
  obtain ⟨i, hb, _, _⟩ := W.count _ hk2
  have hl := st_look (st := st) hn
  rw [hb] at hl
  have hx := name_short x hn
  exact lputr_count B F X T hk hdp hu NL XB TB h1 h2 h3 hod hf lo hl hx hi h4 h5 h6 (stD_short _) U n1 n2 n4 n5 n6 (fun _ e => by rw [hr] at e; cases e) (fun _ => hret) (fun _ e => by rw [hr] at e; cases e)

theorem lp_count_late {o dx d nd : Nat} {hsh : Int} {tv tx : Tok} {od : Obj} {kvs : List (Str × Value)} {x : Str} {v : Value} {it : Itm} {a1 a2 a3 : Nat} {o1 o2 o3 : Obj} {bg : Bool} {st : Str → PyData} {r : Int}
    (B : Below A₀ base [] h₀) (F : Fr h₀ L s.heap m) (X : (hd.heap_39 w.params).In h₀) (T : Top hd.view_39 LS mean mg mb h₀) (hk : cs.kind = .function)
    (hdp : dp + 30 < recursionLimit) (hu : un + 500 < cLine) (NL : News h₀ L s.heap led) (XB : (hd.heap_39 w.params).In base) (TB : Top hd.view_39 LS mean mg mb base) (h1 : (o, optI dx) ∈ led) (h2 : (dx, optD hsh tv d nd) ∈ led) (h3 : (d, od) ∈ led) (hod : od.IsDictOf (PySem.strKind PySem.Challenge.rw_nz0133_01.row.prog w) kvs) (hf : FlatPairs PyData.str kvs (stD st)) (lo : (d == sysModules) = false) (W : WT st) (hk2 : x ∈ countsL) (hn : x ∈ namesL) (hi : it.At [(a1, o1), (a2, o2), (a3, o3)] v) (h4 : (a1, o1) ∈ led) (h5 : (a2, o2) ∈ led) (h6 : (a3, o3) ∈ led) (U : UpdF d od led G) (n1 : @Ne Nat o d) (n2 : @Ne Nat dx d) (n4 : @Ne Nat a1 d) (n5 : @Ne Nat a2 d) (n6 : @Ne Nat a3 d) (hr : it.count = some r) (hc : (bg && (earlyL.any fun y => y == x)) = true)
    (hret : ∀ tk2 h' tk', Fr h₀ L h' m → News h₀ L h' led → Q (.str (Str.ofString "first of all") tk2) { s with heap := h', toks := tk' }) :
    wpAny (model PySem.Challenge.rw_nz0133_01.row.prog w) (ktrTop dp un gd cn cs L a ccd [] []) (call (.ref 181) [.ref o, .str x tx, v, .bool bg]) Q E s :=
  by
  obtain ⟨i, hb, _, _⟩ := W.count _ hk2
  have hl := st_look (st := st) hn
  rw [hb] at hl
  have hx := name_short x hn
  exact lputr_count B F X T hk hdp hu NL XB TB h1 h2 h3 hod hf lo hl hx hi h4 h5 h6 (stD_short _) U n1 n2 n4 n5 n6 (fun _ _ q => by rw [hc] at q; cases q) (fun e => by rw [hr] at e; cases e) (fun _ _ _ => hret)

theorem told_U {o1 dx1 d1 nd1 o2 dx2 d2 nd2 b1 b2 : Nat} {hsh1 hsh2 : Int} {tv1 tv2 tx : Tok} {od1 od2 ob1 ob2 : Obj} {kv1 kv2 kvb1 kvb2 : List (Str × Value)} {st1 st2 : Str → PyData} {x : Str} {G2 : Obj → Obj → List (Addr × Obj)}
    (B : Below A₀ base outer h₀) (F : Fr h₀ L s.heap m) (X : (hd.heap_39 w.params).In h₀) (T : Top hd.view_39 LS mean mg mb h₀) (hk : cs.kind = .function)
    (hdp : dp + 40 < recursionLimit) (hu : un + 600 < cLine) (NL : News h₀ L s.heap led) (h1 : (o1, optI dx1) ∈ led) (h2 : (dx1, optD hsh1 tv1 d1 nd1) ∈ led) (h3 : (d1, od1) ∈ led) (h4 : (o2, optI dx2) ∈ led) (h5 : (dx2, optD hsh2 tv2 d2 nd2) ∈ led) (h6 : (d2, od2) ∈ led) (h7 : (b1, ob1) ∈ led) (h8 : (b2, ob2) ∈ led)
    (hod1 : od1.IsDictOf (PySem.strKind PySem.Challenge.rw_nz0133_01.row.prog w) kv1) (hod2 : od2.IsDictOf (PySem.strKind PySem.Challenge.rw_nz0133_01.row.prog w) kv2) (hob1 : ob1.IsDictOf (PySem.strKind PySem.Challenge.rw_nz0133_01.row.prog w) kvb1) (hob2 : ob2.IsDictOf (PySem.strKind PySem.Challenge.rw_nz0133_01.row.prog w) kvb2)
    (hf1 : FlatPairs PyData.str kv1 (stD st1)) (hf2 : FlatPairs PyData.str kv2 (stD st2)) (hfb1 : FlatPairs PyData.str kvb1 (stD st1)) (hfb2 : FlatPairs PyData.str kvb2 (stD st2))
    (lo1 : (d1 == sysModules) = false) (lo2 : (d2 == sysModules) = false) (lob1 : (b1 == sysModules) = false) (lob2 : (b2 == sysModules) = false) (W1 : WT st1) (W2 : WT st2) (hx : x ∈ namesL)
    (hne : (@Ne Nat o1 d2 ∧ @Ne Nat dx1 d2 ∧ @Ne Nat d1 d2 ∧ @Ne Nat o2 d2 ∧ @Ne Nat dx2 d2 ∧ @Ne Nat b1 d2 ∧ @Ne Nat b2 d2) ∧ @Ne Nat o1 b2 ∧ @Ne Nat dx1 b2 ∧ @Ne Nat d1 b2 ∧ @Ne Nat o2 b2 ∧ @Ne Nat dx2 b2 ∧ @Ne Nat b1 b2) (U1 : UpdF d2 od2 led G) (U2 : ∀ o', UpdF b2 ob2 (G o') (G2 o'))
    (hret : ∀ od2' kv2' ob2' kvb2' h' tk', od2'.IsDictOf (PySem.strKind PySem.Challenge.rw_nz0133_01.row.prog w) kv2' → FlatPairs PyData.str kv2' (stD (St.put st2 x (st1 x))) → ob2'.IsDictOf (PySem.strKind PySem.Challenge.rw_nz0133_01.row.prog w) kvb2' → FlatPairs PyData.str kvb2' (stD (St.put st2 x (st1 x))) → WT (St.put st2 x (st1 x)) →
      Fr h₀ L h' m → News h₀ L h' (G2 od2' ob2') → Q (.bool true) { s with heap := h', toks := tk' }) :
    wpAny (model PySem.Challenge.rw_nz0133_01.row.prog w) (ktrTop dp un gd cn cs L a ccd cl outer) (call (.ref 207) [.ref o1, .ref o2, .ref b1, .ref b2, .str x tx]) Q E s :=
  told_call (stb := st1) B F X T hk hdp hu NL h1 h2 h3 h4 h5 h6 h7 h8 hod1 hod2 hob1 hob2 hf1 hf2 hfb1 hfb2 lo1 lo2 lob1 lob2 W1 W2 hx hne fun od2' kv2' ob2' kvb2' h' tk' a b e f F' N' => hret od2' kv2' ob2' kvb2' h' tk' a b e f (W2.put_any W1 hx) F' fun q hq => by
    rcases updF_sub (U2 od2') ob2' q hq with rfl | ⟨hq, hb⟩
    · exact N' [] (fun _ h => nomatch h) _ (.tail _ (.head _))
    rcases updF_sub U1 od2' q hq with rfl | ⟨hq, hd⟩
    · exact N' [] (fun _ h => nomatch h) _ (.head _)
    · exact N' [q] (List.forall_mem_singleton.mpr ⟨hq, hd, hb⟩) q (.tail _ (.tail _ (.head _)))
theorem lcop_U {o dx d nd bk kp nk : Nat} {hsh : Int} {tv : Tok} {od ob : Obj} {kvs kvb : List (Str × Value)} {st : Str → PyData} {its : Array Value}
    (B : Below A₀ base outer h₀) (F : Fr h₀ L s.heap m) (X : (hd.heap_39 w.params).In h₀) (T : Top hd.view_39 LS mean mg mb h₀) (hk : cs.kind = .function)
    (hdp : dp + 30 < recursionLimit) (hu : un + 400 < cLine) (NL : News h₀ L s.heap led) (h1 : (o, optI dx) ∈ led) (h2 : (dx, optD hsh tv d nd) ∈ led) (h3 : (d, od) ∈ led) (hod : od.IsDictOf (PySem.strKind PySem.Challenge.rw_nz0133_01.row.prog w) kvs) (hf : FlatPairs PyData.str kvs (stD st)) (lo : (d == sysModules) = false) (h4 : (bk, ob) ∈ led) (hob : ob.IsDictOf (PySem.strKind PySem.Challenge.rw_nz0133_01.row.prog w) kvb) (hfb : FlatPairs PyData.str kvb (stD st)) (lob : (bk == sysModules) = false) (W : WT st) (hvs : its.size ≤ 100)
    (hne : @Ne Nat o kp ∧ @Ne Nat dx kp ∧ @Ne Nat d kp ∧ @Ne Nat bk kp) (U : UpdF kp (PySem.W.listOf its nk) led G)
    (hret : ∀ T f l (fo : Obj) kvf new nk' h' tk', fo.IsDictOf (PySem.strKind PySem.Challenge.rw_nz0133_01.row.prog w) kvf → FlatPairs PyData.str kvf (stD st) → (f == sysModules) = false → PlainAt new st l → Fr h₀ L h' m →
      News h₀ L h' ((T, tupO [.ref f, .ref l]) :: (f, fo) :: (new ++ G (PySem.W.listOf (its.push (.ref T)) nk'))) →
      (∀ p ∈ led, @Ne Nat p.1 T ∧ @Ne Nat p.1 f ∧ ∀ q ∈ new, @Ne Nat p.1 q.1) → Q (.bool true) { s with heap := h', toks := tk' }) :
    wpAny (model PySem.Challenge.rw_nz0133_01.row.prog w) (ktrTop dp un gd cn cs L a ccd cl outer) (call (.ref 214) [.ref o, .ref bk, .ref kp]) Q E s :=
  lcop_call B F X T hk hdp hu NL h1 h2 h3 hod hf lo h4 (UpdF.mem U) hob hfb lob W hvs hne fun T f l fo kvf new nk' h' tk' a b lf P F' N' ne => hret T f l fo kvf new nk' h' tk' a b lf P F' (by
    have one : ∀ q ∈ G (PySem.W.listOf (its.push (.ref T)) nk'), h'.get? q.1 = some q.2 ∧ q.1 ≠ L ∧ h₀.get? q.1 = none := fun q hq => by
      rcases updF_sub U _ q hq with rfl | ⟨hq, hd⟩
      · exact N' [] (fun _ h => nomatch h) _ (.head _)
      · exact N' [q] (List.forall_mem_singleton.mpr ⟨hq, hd⟩) q (.tail _ (.tail _ (.tail _ (List.mem_append_right _ (.head _)))))
    intro q hq
    rcases List.mem_cons.mp hq with rfl | hq
    · exact N' [] (fun _ h => nomatch h) _ (.tail _ (.head _))
    rcases List.mem_cons.mp hq with rfl | hq
    · exact N' [] (fun _ h => nomatch h) _ (.tail _ (.tail _ (.head _)))
    rcases List.mem_append.mp hq with hq | hq
    · exact N' [] (fun _ h => nomatch h) _ (.tail _ (.tail _ (.tail _ (List.mem_append_left _ hq))))
    · exact one q hq) ne
end
end

section
theorem freshTurnP : True := by
  w_top off
  k_with_none
  exact True.intro
open PySem PySem.W PyProof.Rows PyProof.V PySem.Calls PySem.Spec
set_option maxRecDepth 100000
set_option maxHeartbeats 80000000


/-- what is kept of a copy -/
noncomputable def KeptAt (w : World) (kl : List (Addr × Obj)) (v : Value) : Prop := ∃ (T f l : Addr) (fo : Obj) (kvf : List (Str × Value)) (st : Str → PyData), v = .ref T ∧ (T, tupO [.ref f, .ref l]) ∈ kl ∧ (f, fo) ∈ kl ∧ fo.IsDictOf (PySem.strKind PySem.Challenge.rw_nz0133_01.row.prog w) kvf ∧ FlatPairs PyData.str kvf (stD st) ∧ (f == sysModules) = false ∧ WT st ∧ PlainAt kl st l
theorem KeptAt.mono {w : World} {kl kl' : List (Addr × Obj)} {v : Value} (h : KeptAt w kl v) (hs : ∀ p ∈ kl, p ∈ kl') : KeptAt w kl' v :=
  let ⟨T, f, l, fo, kvf, st, e, m1, m2, a, b, c, d, p⟩ := h
  ⟨T, f, l, fo, kvf, st, e, hs _ m1, hs _ m2, a, b, c, d, p.mono hs⟩
noncomputable abbrev LED (t c S Bk kp o0 dx0 d0 o1 dx1 d1 b0 b1 nd0 nd1 nS nB nl : Nat) (hsh0 hsh1 : Int) (tv0 tv1 : Tok) (vs : List Value) (ot ok od0 od1 ob0 ob1 : Obj) (kl : List (Addr × Obj)) : List (Addr × Obj) :=
  (t, ot) :: (kp, ok) :: (d0, od0) :: (d1, od1) :: (b0, ob0) :: (b1, ob1) :: (c, PySem.W.listOf vs.toArray nl) :: (S, PySem.W.listOf #[.ref o0, .ref o1] nS) :: (Bk, PySem.W.listOf #[.ref b0, .ref b1] nB) :: (o0, optI dx0) :: (dx0, optD hsh0 tv0 d0 nd0) :: (o1, optI dx1) :: (dx1, optD hsh1 tv1 d1 nd1) :: kl
/-- what holds between the turns -/
structure LapF (w : World) (t c S Bk kp d0 d1 b0 b1 : Nat) (i : Nat) (m : Str → Option Value) (ot od0 od1 ob0 ob1 : Obj) (its : Array Value) (kl : List (Addr × Obj)) (k : Int) (t3 : Tok) (kv0 kv1 kvb0 kvb1 : List (Str × Value)) (sa sb : Str → PyData) : Prop where
  mt : m (Str.ofString "tape") = some (.ref t)
  ms : m (Str.ofString "some") = some (.ref S)
  mkp : m (Str.ofString "kept") = some (.ref kp)
  mb : m (Str.ofString "books") = some (.ref Bk)
  hot : ot.IsDictOf (PySem.strKind PySem.Challenge.rw_nz0133_01.row.prog w) (tapeK c k t3)
  hk0 : 0 ≤ k
  hk1 : k ≤ 10 * (i : Int)
  h0 : od0.IsDictOf (PySem.strKind PySem.Challenge.rw_nz0133_01.row.prog w) kv0
  h1 : od1.IsDictOf (PySem.strKind PySem.Challenge.rw_nz0133_01.row.prog w) kv1
  g0 : ob0.IsDictOf (PySem.strKind PySem.Challenge.rw_nz0133_01.row.prog w) kvb0
  g1 : ob1.IsDictOf (PySem.strKind PySem.Challenge.rw_nz0133_01.row.prog w) kvb1
  f0 : FlatPairs PyData.str kv0 (stD sa)
  f1 : FlatPairs PyData.str kv1 (stD sb)
  e0 : FlatPairs PyData.str kvb0 (stD sa)
  e1 : FlatPairs PyData.str kvb1 (stD sb)
  w0 : WT sa
  w1 : WT sb
  sz : its.size ≤ i
  kept : ∀ v ∈ its, KeptAt w kl v
  k1 : ∀ p ∈ kl, @Ne Nat p.1 t
  k2 : ∀ p ∈ kl, @Ne Nat p.1 kp
  k3 : ∀ p ∈ kl, @Ne Nat p.1 d0
  k4 : ∀ p ∈ kl, @Ne Nat p.1 d1
  k5 : ∀ p ∈ kl, @Ne Nat p.1 b0
  k6 : ∀ p ∈ kl, @Ne Nat p.1 b1
noncomputable def Lap (w : World) (t c S Bk kp o0 dx0 d0 o1 dx1 d1 b0 b1 nd0 nd1 nS nB nl : Nat) (hsh0 hsh1 : Int) (tv0 tv1 : Tok) (vs : List Value) (i : Nat) (m : Str → Option Value) (news : List (Addr × Obj)) : Prop :=
  ∃ ot od0 od1 ob0 ob1 its nk kl k t3 kv0 kv1 kvb0 kvb1 sa sb, news = LED t c S Bk kp o0 dx0 d0 o1 dx1 d1 b0 b1 nd0 nd1 nS nB nl hsh0 hsh1 tv0 tv1 vs ot (PySem.W.listOf its nk) od0 od1 ob0 ob1 kl ∧ LapF w t c S Bk kp d0 d1 b0 b1 i m ot od0 od1 ob0 ob1 its kl k t3 kv0 kv1 kvb0 kvb1 sa sb
theorem named4 {m : Str → Option Value} {a b c d : Str} {x y z u : Option Value} (h1 : m a = x) (h2 : m b = y) (h3 : m c = z) (h4 : m d = u) : m = fun n => if n = a then x else if n = b then y else if n = c then z else if n = d then u else m n := by
  funext n
  by_cases q1 : n = a
  · rw [if_pos q1, q1, h1]
  rw [if_neg q1]
  by_cases q2 : n = b
  · rw [if_pos q2, q2, h2]
  rw [if_neg q2]
  by_cases q3 : n = c
  · rw [if_pos q3, q3, h3]
  rw [if_neg q3]
  by_cases q4 : n = d
  · rw [if_pos q4, q4, h4]
  rw [if_neg q4]
theorem use_fn {K : Frag} {a : Addr} {o1 o2 : Obj} {P : Prop} (h1 : K.lookup a = some o1) (h2 : K.lookup a = some o2) (k : o1 = o2 → P) : P := k (Option.some.inj (h1.symm.trans h2))
/-- a difference that omega does not see -/
noncomputable def Apart (a b : Nat) : Prop := a ≠ b
noncomputable def AllApart (a : Nat) : List (Addr × Obj) → Prop
  | [] => True
  | p :: l => Apart a p.1 ∧ AllApart a l
theorem aparts {led : List (Addr × Obj)} {a : Nat} (h : ∀ p ∈ led, @Ne Nat p.1 a) : AllApart a led := by
  induction led with
  | nil => trivial
  | cons p l ih => exact ⟨fun e => h p (.head _) e.symm, ih fun q hq => h q (.tail _ hq)⟩
theorem Apart.ne1 {a b : Nat} (h : Apart a b) : @Ne Nat a b := h
theorem Apart.ne2 {a b : Nat} (h : Apart a b) : @Ne Nat b a := fun e => h e.symm
theorem news_rot {h₀ h' : Heap} {L : Addr} {p q : Addr × Obj} {new g : List (Addr × Obj)} (N : News h₀ L h' (p :: q :: (new ++ g))) : News h₀ L h' (g ++ (p :: q :: new)) := fun r hr => by
  rcases List.mem_append.mp hr with hr | hr
  · exact N r (.tail _ (.tail _ (List.mem_append_right _ hr)))
  rcases List.mem_cons.mp hr with rfl | hr
  · exact N _ (.head _)
  rcases List.mem_cons.mp hr with rfl | hr
  · exact N _ (.tail _ (.head _))
  · exact N r (.tail _ (.tail _ (List.mem_append_left _ hr)))
/-- the loop's body, out of a function's -/
noncomputable def loopOf (l : List Stmt) : List Stmt := match l.drop 3 with
  | .For _ _ b _ _ :: _ => b
  | _ => []

theorem mod2 {prog : Program} {w : World} {A : Around} {E : Value → Shared → Prop} {s : Shared} {a r : Int} {t u : Tok} {Q : Value → Shared → Prop} (e : a.fmod 2 = r) (h : Q (.int r s.toks) { s with toks := s.toks + 1 }) : wpAny (model prog w) A (binaryOp .Mod (.int a t) (.int 2 u)) Q E s := mod_int' (by decide) (by rw [e]; exact h)
theorem strs_item {prog : Program} {w : World} {A : Around} {E : Value → Shared → Prop} {s : Shared} {h₀ : Heap} {L l : Addr} {news : List (Addr × Obj)} {vs : List Value} {n : Nat} {k : Int} {u : Tok} {value slice : PySem.Expr} {Q : Value → Shared → Prop} (N : News h₀ L s.heap news) (hl : (l, PySem.W.listOf vs.toArray n) ∈ news) (sa : StrsAre vs namesL) (h0 : 0 ≤ k) (h1 : k < 11)
    (hs : subscripted slice false (.ref l) (.int k u) = operate [.ref l, .int k u] (getItem (.ref l) (.int k u))) (h : ∀ x t, x ∈ namesL → Q (.str x t) s) : wpAny (model prog w) A (subscriptTail value slice (.ref l) (.int k u)) Q E s := by
  have e : vs.length = 11 := sa.length
  have hk : k.toNat < vs.length := by omega
  obtain ⟨x, t, e', m⟩ := strs_mem sa vs[k.toNat] (List.getElem_mem hk)
  exact item_litK (N.isList hl) h0 (by omega) (List.getElem?_eq_getElem hk) (by rw [e']; exact h x t m) hs
theorem set_book {w : World} {A : Around} {E : Value → Shared → Prop} {s : Shared} {h₀ : Heap} {L d : Addr} {m : Str → Option Value} {news : List (Addr × Obj)} {g : Obj → List (Addr × Obj)} {o : Obj} {kvs : List (Str × Value)} {st : Str → PyData} {x : Str} {tx : Tok} {v : Value} {dv : PyData} {Q : Unit → Shared → Prop}
    (F : Fr h₀ L s.heap m) (N : News h₀ L s.heap news) (U : UpdF d o news g) (hd : o.IsDictOf (PySem.strKind PySem.Challenge.rw_nz0133_01.row.prog w) kvs) (hf : FlatPairs PyData.str kvs (stD st)) (hn : x ∈ namesL) (hv : Flat v dv)
    (h : ∀ h' o' kvs', Fr h₀ L h' m → News h₀ L h' (g o') → o'.IsDictOf (PySem.strKind PySem.Challenge.rw_nz0133_01.row.prog w) kvs' → FlatPairs PyData.str kvs' (stD (St.put st x dv)) → Q () { s with heap := h', toks := s.toks + 1 }) :
    wpAny (model PySem.Challenge.rw_nz0133_01.row.prog w) A (setItem (.ref d) (.str x tx) v) Q E s :=
  setItem_K PyProof.V.same_str (strKind_is _ _ _ _) hv F N U hd hf (fun h' o' F' N' a b => h h' o' _ F' N' a (by rw [← st_put _ hn]; exact b)) (roomD (stD_short _))
section
variable {w : World} {mean : ExcName → Option Value} {mg mb : Str → Option Value} {dp un : Nat} {gd : Option (List Code)} {cn : Str} {cs : Scope} {a : Addr} {ccd : Value} {cl : List (Str × Addr)}  {A₀ : Around} {base h₀ : Heap} {L : Addr} {m : Str → Option Value} {led : List (Addr × Obj)} {G : Obj → List (Addr × Obj)} {s : Shared} {Q E : Value → Shared → Prop}
theorem subs_cons {p : Addr × Obj} {l led : List (Addr × Obj)} (a : p ∈ led) (b : ∀ q ∈ l, q ∈ led) : ∀ q ∈ p :: l, q ∈ led := List.forall_mem_cons.mpr ⟨a, b⟩
theorem subs_tail {p : Addr × Obj} {l led : List (Addr × Obj)} (b : ∀ q ∈ l, q ∈ led) : ∀ q ∈ l, q ∈ p :: led := fun q hq => .tail _ (b q hq)
theorem subs_rfl {l : List (Addr × Obj)} : ∀ q ∈ l, q ∈ l := fun _ h => h

theorem LEDtail {t c S Bk kp o0 dx0 d0 o1 dx1 d1 b0 b1 nd0 nd1 nS nB nl : Nat} {hsh0 hsh1 : Int} {tv0 tv1 : Tok} {vs : List Value} {ot ok od0 od1 ob0 ob1 : Obj} {kl : List (Addr × Obj)} {p : Addr × Obj} (h : p ∈ kl) : p ∈ LED t c S Bk kp o0 dx0 d0 o1 dx1 d1 b0 b1 nd0 nd1 nS nB nl hsh0 hsh1 tv0 tv1 vs ot ok od0 od1 ob0 ob1 kl :=
  .tail _ (.tail _ (.tail _ (.tail _ (.tail _ (.tail _ (.tail _ (.tail _ (.tail _ (.tail _ (.tail _ (.tail _ (.tail _ h))))))))))))
theorem led_ne {t c S Bk kp o0 dx0 d0 o1 dx1 d1 b0 b1 nd0 nd1 nS nB nl : Nat} {hsh0 hsh1 : Int} {tv0 tv1 : Tok} {vs : List Value} {ot ok od0 od1 ob0 ob1 ot' ok' od0' od1' ob0' ob1' : Obj} {kl kl' : List (Addr × Obj)} {I : Addr} (h : ∀ p ∈ LED t c S Bk kp o0 dx0 d0 o1 dx1 d1 b0 b1 nd0 nd1 nS nB nl hsh0 hsh1 tv0 tv1 vs ot ok od0 od1 ob0 ob1 kl, @LT.lt Nat _ p.1 I) (hk : ∀ p ∈ kl', @Ne Nat p.1 I) : ∀ p ∈ LED t c S Bk kp o0 dx0 d0 o1 dx1 d1 b0 b1 nd0 nd1 nS nB nl hsh0 hsh1 tv0 tv1 vs ot' ok' od0' od1' ob0' ob1' kl', p.1 ≠ I := by
  have h2 := allLt_of h
  simp only [AllLt] at h2
  obtain ⟨a1, a2, a3, a4, a5, a6, a7, a8, a9, a10, a11, a12, a13, _⟩ := h2
  exact List.forall_mem_cons.mpr ⟨Nat.ne_of_lt a1, List.forall_mem_cons.mpr ⟨Nat.ne_of_lt a2, List.forall_mem_cons.mpr ⟨Nat.ne_of_lt a3, List.forall_mem_cons.mpr ⟨Nat.ne_of_lt a4, List.forall_mem_cons.mpr ⟨Nat.ne_of_lt a5, List.forall_mem_cons.mpr ⟨Nat.ne_of_lt a6, List.forall_mem_cons.mpr ⟨Nat.ne_of_lt a7, List.forall_mem_cons.mpr ⟨Nat.ne_of_lt a8, List.forall_mem_cons.mpr ⟨Nat.ne_of_lt a9, List.forall_mem_cons.mpr ⟨Nat.ne_of_lt a10, List.forall_mem_cons.mpr ⟨Nat.ne_of_lt a11, List.forall_mem_cons.mpr ⟨Nat.ne_of_lt a12, List.forall_mem_cons.mpr ⟨Nat.ne_of_lt a13, hk⟩⟩⟩⟩⟩⟩⟩⟩⟩⟩⟩⟩⟩
theorem far_app {led kl new : List (Addr × Obj)} {a T f : Nat} {o x y : Obj} (k : ∀ p ∈ kl, @Ne Nat p.1 a) (ne : ∀ p ∈ led, @Ne Nat p.1 T ∧ @Ne Nat p.1 f ∧ ∀ q ∈ new, @Ne Nat p.1 q.1) (h : (a, o) ∈ led) : ∀ p ∈ kl ++ (T, x) :: (f, y) :: new, @Ne Nat p.1 a := fun p hp => by
  obtain ⟨n1, n2, n3⟩ := ne _ h
  rcases List.mem_append.mp hp with hp | hp
  · exact k p hp
  rcases List.mem_cons.mp hp with rfl | hp
  · exact fun e => n1 e.symm
  rcases List.mem_cons.mp hp with rfl | hp
  · exact fun e => n2 e.symm
  · exact fun e => n3 p hp e.symm
theorem kept_push {its : Array Value} {kl new : List (Addr × Obj)} {T f l : Addr} {fo : Obj} {kvf : List (Str × Value)} {st : Str → PyData} (h : ∀ v ∈ its, KeptAt w kl v) (a : fo.IsDictOf (PySem.strKind PySem.Challenge.rw_nz0133_01.row.prog w) kvf) (b : FlatPairs PyData.str kvf (stD st)) (lo : (f == sysModules) = false) (W : WT st) (P : PlainAt new st l) : ∀ v ∈ its.push (.ref T), KeptAt w (kl ++ (T, tupO [.ref f, .ref l]) :: (f, fo) :: new) v := fun v hv => by
  rcases Array.mem_push.mp hv with hv | rfl
  · exact (h v hv).mono fun p hp => List.mem_append_left _ hp
  · exact ⟨T, f, l, fo, kvf, st, rfl, List.mem_append_right _ (.head _), List.mem_append_right _ (.tail _ (.head _)), a, b, lo, W, P.mono fun p hp => List.mem_append_right _ (.tail _ (.tail _ hp))⟩
theorem kept_same {its : Array Value} {kl : List (Addr × Obj)} (h : ∀ v ∈ its, KeptAt w kl v) : ∀ v ∈ its, KeptAt w kl v := h
end
end

section
theorem freshTail : True := by
  w_top off
  k_with_none
  exact True.intro
open PySem PySem.W PyProof.Rows PyProof.V PySem.Calls PySem.Spec
set_option maxRecDepth 100000
set_option maxHeartbeats 80000000
local macro_rules | `(tactic| ktr_unf) => `(tactic| first | k_asm | exact rfl | k_mem | ktr_room | ktr_units | k_updF | omega)

section
variable {w : World} {mean : ExcName → Option Value} {mg mb : Str → Option Value} {dp un : Nat} {gd : Option (List Code)} {cn : Str} {cs : Scope} {a : Addr} {ccd : Value} {cl : List (Str × Addr)}  {A₀ : Around} {base h₀ : Heap} {L : Addr} {m : Str → Option Value} {led : List (Addr × Obj)} {G : Obj → List (Addr × Obj)} {s : Shared} {Q E : Value → Shared → Prop}
local macro_rules | `(tactic| k_all) => `(tactic| with_reducible assumption)
local macro_rules | `(tactic| k_ne) => `(tactic| (refine neN ?_; (try dsimp only); first | ((with_reducible refine Apart.ne1 ?_); (with_reducible assumption)) | ((with_reducible refine Apart.ne2 ?_); (with_reducible assumption)) | omega))
local macro_rules | `(tactic| k_mem) => `(tactic| ((refine' List.mem_append_right _ ?_); k_mem))

/-- the tests at a turn's end, and the end -/
theorem sayTaila : True := by
  k_with_none
  k_with "ktr_enter" => (first | ((refine' code_defN ?k1q0 ?k2q0 ?k3q0 ?k4q0 ?kMq0 ?k5q0 ?kAq0 ?kFq0 ?kKq0 ?k6q0 ?k7q0 ?k8q0 ?k9q0 ?kBq0 ?_ ?c2q0 ?c3q0 ?c4q0 ?c5q0; (case kAq0 => exact rfl); (case kFq0 => exact rfl); (case kKq0 => assumption); (case k1q0 => k_asm); (case k2q0 => k_asm); (case k3q0 => k_asm); (case k4q0 => k_asm); (case kMq0 => assumption); (case k5q0 => k_asm); (case k6q0 => k_is); (case k7q0 => k_is); (case k8q0 => ktr_room); (case k9q0 => exact BindsTo.of_eq rfl); (case c5q0 => decide); (case kBq0 => exact locs rfl); (case c2q0 => exact rfl); (case c3q0 => exact rfl); (case c4q0 => exact rfl); k_whole; intro g' L' h' FG' F' N' B' X' T' fr' l1 l2; (try k_lt l1); (try dsimp only); (try k_fold))) | ((refine' code_defN ?k1q1 ?k2q1 ?k3q1 ?k4q1 ?kMq1 ?k5q1 ?kAq1 ?kFq1 ?kKq1 ?k6q1 ?k7q1 ?k8q1 ?k9q1 ?kBq1 ?_ ?c2q1 ?c3q1 ?c4q1 ?c5q1; (case kAq1 => exact rfl); (case kFq1 => exact rfl); (case kKq1 => assumption); (case k1q1 => k_asm); (case k2q1 => k_asm); (case k3q1 => k_asm); (case k4q1 => k_asm); (case kMq1 => assumption); (case k5q1 => k_asm); (case k6q1 => k_is); (case k7q1 => k_is); (case k8q1 => ktr_room); (case k9q1 => exact BindsTo.of_eq rfl); (case c5q1 => decide); (case kBq1 => exact locs rfl); (case c2q1 => exact rfl); (case c3q1 => exact rfl); (case c4q1 => exact rfl); k_whole; intro g' L' h' FG' F' N' B' X' T' fr' l1 l2; (try k_lt l1); (try dsimp only); (try k_fold))))
  k_with "call ref" => (k_here; (with_reducible show wpAny _ _ (call (Value.ref 200) _) _ _ _); first | (k_dflt (refine' stands_call ?Bq0 ?Fq0 ?Xq0 ?Tq0 ?hkq0 ?hdpq0 ?huq0 ?NLq0 ?h1q0 ?h2q0 ?h3q0 ?hodq0 ?hfq0 ?loq0 ?h4q0 ?hobq0 ?hfbq0 ?lobq0 ?Wq0 ?_; (case Bq0 => assumption); (case Fq0 => k_asm); (case Xq0 => assumption); (case Tq0 => assumption); (case hkq0 => exact rfl); (case hdpq0 => omega); (case huq0 => (have hcL9 := cLine_is; omega)); (case NLq0 => k_asm); (case h1q0 => k_mem); (case h2q0 => k_mem); (case h3q0 => k_mem); (case hodq0 => assumption); (case hfq0 => assumption); (case loq0 => assumption); (case h4q0 => k_mem); (case hobq0 => assumption); (case hfbq0 => assumption); (case lobq0 => assumption); (case Wq0 => assumption)); intro h9 tk9 F9 N9; (try dsimp only); (try k_fold)) | (k_dflt (refine' stands_call ?Bq1 ?Fq1 ?Xq1 ?Tq1 ?hkq1 ?hdpq1 ?huq1 ?NLq1 ?h1q1 ?h2q1 ?h3q1 ?hodq1 ?hfq1 ?loq1 ?h4q1 ?hobq1 ?hfbq1 ?lobq1 ?Wq1 ?_; (case Bq1 => assumption); (case Fq1 => k_asm); (case Xq1 => assumption); (case Tq1 => assumption); (case hkq1 => exact rfl); (case hdpq1 => omega); (case huq1 => (have hcL9 := cLine_is; omega)); (case NLq1 => k_asm); (case h1q1 => k_mem); (case h2q1 => k_mem); (case h3q1 => k_mem); (case hodq1 => assumption); (case hfq1 => assumption); (case loq1 => assumption); (case h4q1 => k_mem); (case hobq1 => assumption); (case hfbq1 => assumption); (case lobq1 => assumption); (case Wq1 => assumption)); intro h9 tk9 F9 N9; (try dsimp only); (try k_fold)))
  exact True.intro
theorem turn_tail {fa : Addr} {cv : Value} {t c S Bk kp o0 dx0 d0 o1 dx1 d1 b0 b1 nd0 nd1 nS nB nl : Nat} {hsh0 hsh1 : Int} {tv0 tv1 : Tok} {vs : List Value} {name qual : Str} {params : Arguments} {body : List Stmt} {scope : Scope} {dV kV doc pm cdv ct oc : Value} {an od : Option Addr} {osl : Array (Option Value)} {m₁ : Str → Option Value} {i : Nat} {I : Addr} {itO : Obj} {tk0 tk1 : Nat} {hh h' : Heap} {tl : List Stmt} {R Qf : Flow → Shared → Prop} {ot₀ ok₀ od0₀ od1₀ ob0₀ ob1₀ : Obj} {led : List (Addr × Obj)}
    {ot od0 od1 ob0 ob1 : Obj} {its : Array Value} {nk : Nat} {kl : List (Addr × Obj)} {k : Int} {t3 : Tok} {kv0 kv1 kvb0 kvb1 : List (Str × Value)} {sa sb : Str → PyData}
    (ho : (hd.heap_39 w.params).lookup 219 = some ⟨oc, od, .func (fnOf name qual params body scope dV kV doc pm an cdv ct), osl⟩)
    (B : Below A₀ h₀ [] h₀) (X : (hd.heap_39 w.params).In h₀) (T : Top hd.view_39 LS mean mg mb h₀)
    (hdp : dp + 100 < recursionLimit) (hu : un + 2000 < cLine)
    (htl : (loopOf body).drop 3 = tl) (hR : R = TurnR h₀ L { s with heap := hh, toks := tk0 } I itO (Lap w t c S Bk kp o0 dx0 d0 o1 dx1 d1 b0 b1 nd0 nd1 nS nB nl hsh0 hsh1 tv0 tv1 vs (i + 1)) Qf)
    (F : Fr h₀ L h' m₁) (N : News h₀ L h' led)
    (lI : ∀ p ∈ LED t c S Bk kp o0 dx0 d0 o1 dx1 d1 b0 b1 nd0 nd1 nS nB nl hsh0 hsh1 tv0 tv1 vs ot₀ ok₀ od0₀ od1₀ ob0₀ ob1₀ [], @LT.lt Nat _ p.1 I) (J : ∀ p ∈ kl, @Ne Nat p.1 I)
    (z0 : (I, itO) ∈ led) (z1 : (t, ot) ∈ led) (z2 : (kp, PySem.W.listOf its nk) ∈ led) (z3 : (d0, od0) ∈ led) (z4 : (d1, od1) ∈ led) (z5 : (b0, ob0) ∈ led) (z6 : (b1, ob1) ∈ led) (z7 : (c, PySem.W.listOf vs.toArray nl) ∈ led) (z8 : (S, PySem.W.listOf #[.ref o0, .ref o1] nS) ∈ led) (z9 : (Bk, PySem.W.listOf #[.ref b0, .ref b1] nB) ∈ led) (z10 : (o0, optI dx0) ∈ led) (z11 : (dx0, optD hsh0 tv0 d0 nd0) ∈ led) (z12 : (o1, optI dx1) ∈ led) (z13 : (dx1, optD hsh1 tv1 d1 nd1) ∈ led) (zk : ∀ p ∈ kl, p ∈ led)
    (l0 : (d0 == sysModules) = false) (l1 : (d1 == sysModules) = false) (q0 : (b0 == sysModules) = false) (q1 : (b1 == sysModules) = false)
    (D : LapF w t c S Bk kp d0 d1 b0 b1 (i + 1) m₁ ot od0 od1 ob0 ob1 its kl k t3 kv0 kv1 kvb0 kvb1 sa sb) :
    wpAny (model PySem.Challenge.rw_nz0133_01.row.prog w) (ktrTop dp un gd qual scope L fa cv [] []) (execs tl (envX qual scope L fa cv [])) R E { s with heap := h', toks := tk1 } := by
  subst htl
  have N9 : News h₀ L h' ((I, itO) :: LED t c S Bk kp o0 dx0 d0 o1 dx1 d1 b0 b1 nd0 nd1 nS nB nl hsh0 hsh1 tv0 tv1 vs ot (PySem.W.listOf its nk) od0 od1 ob0 ob1 kl) := fun p hp => N p ((subs_cons z0 (subs_cons z1 (subs_cons z2 (subs_cons z3 (subs_cons z4 (subs_cons z5 (subs_cons z6 (subs_cons z7 (subs_cons z8 (subs_cons z9 (subs_cons z10 (subs_cons z11 (subs_cons z12 (subs_cons z13 (zk))))))))))))))) p hp)
  have lE := led_ne lI J (ot' := ot) (ok' := PySem.W.listOf its nk) (od0' := od0) (od1' := od1) (ob0' := ob0) (ob1' := ob1)
  have hE : ∀ h2 tk2, Fr h₀ L h2 m₁ → News h₀ L h2 ((I, itO) :: LED t c S Bk kp o0 dx0 d0 o1 dx1 d1 b0 b1 nd0 nd1 nS nB nl hsh0 hsh1 tv0 tv1 vs ot (PySem.W.listOf its nk) od0 od1 ob0 ob1 kl) → R .next { s with heap := h2, toks := tk2 } := fun h2 tk2 F2 N2 => by
    rw [hR]
    exact show TurnNext _ _ _ _ _ _ _ from ⟨h2, tk2, m₁, LED t c S Bk kp o0 dx0 d0 o1 dx1 d1 b0 b1 nd0 nd1 nS nB nl hsh0 hsh1 tv0 tv1 vs ot (PySem.W.listOf its nk) od0 od1 ob0 ob1 kl, rfl, F2, N2, lE, ot, od0, od1, ob0, ob1, its, nk, kl, k, t3, kv0, kv1, kvb0, kvb1, sa, sb, rfl, D⟩
  clear N lE lI J z0 z1 z2 z3 z4 z5 z6 z7 z8 z9 z10 z11 z12 z13 zk hR
  refine' use_fn ho ?h2 ?k
  case h2 => k_is
  intro eo
  cases eo
  obtain ⟨mt, ms, mk, mb', hot, hk0, hk1, h0, h1, g0, g1, f0, f1, e0, e1, w0, w1, sz, kept, k1, k2, k3, k4, k5, k6⟩ := D
  rw [named4 mt ms mk mb'] at F hE
  clear mt ms mk mb' hot hk0 hk1 sz kept k1 k2 k3 k4 k5 k6
  dsimp only [loopOf, List.drop]
  dsimp only [LED] at N9 hE

  k_steps
  exact hE _ _ (by assumption) (by assumption)
end
end

section
theorem freshForkA : True := by
  w_top off
  k_with_none
  exact True.intro
open PySem PySem.W PyProof.Rows PyProof.V PySem.Calls PySem.Spec
set_option maxRecDepth 100000
set_option maxHeartbeats 400000
/-- an item that put takes: the value that comes of it -/
noncomputable def OkV (x : Str) (it : Itm) (dv : PyData) : Prop := (x ∈ flagsL ∧ ∃ r, it.flag = some r ∧ dv = .bool r) ∨ (x ∈ countsL ∧ ∃ r, it.count = some r ∧ dv = .int r)
section
variable {w : World} {mean : ExcName → Option Value} {mg mb : Str → Option Value} {dp un : Nat} {gd : Option (List Code)} {cn : Str} {cs : Scope} {a : Addr} {ccd : Value} {cl : List (Str × Addr)} {outer : List Env} {A₀ : Around} {base h₀ : Heap} {L : Addr} {m : Str → Option Value} {led : List (Addr × Obj)} {G : Obj → List (Addr × Obj)} {s : Shared} {Q E : Value → Shared → Prop}
theorem lp_any_ok {o dx d nd : Nat} {hsh : Int} {tv tx : Tok} {od : Obj} {kvs : List (Str × Value)} {x : Str} {v : Value} {it : Itm} {a1 a2 a3 : Nat} {o1 o2 o3 : Obj} {bg : Bool} {st : Str → PyData} {dv : PyData}
    (B : Below A₀ base [] h₀) (F : Fr h₀ L s.heap m) (X : (hd.heap_39 w.params).In h₀) (T : Top hd.view_39 LS mean mg mb h₀) (hk : cs.kind = .function)
    (hdp : dp + 30 < recursionLimit) (hu : un + 500 < cLine) (NL : News h₀ L s.heap led) (XB : (hd.heap_39 w.params).In base) (TB : Top hd.view_39 LS mean mg mb base) (h1 : (o, optI dx) ∈ led) (h2 : (dx, optD hsh tv d nd) ∈ led) (h3 : (d, od) ∈ led) (hod : od.IsDictOf (PySem.strKind PySem.Challenge.rw_nz0133_01.row.prog w) kvs) (hf : FlatPairs PyData.str kvs (stD st)) (lo : (d == sysModules) = false) (W : WT st) (hn : x ∈ namesL) (hi : it.At [(a1, o1), (a2, o2), (a3, o3)] v) (h4 : (a1, o1) ∈ led) (h5 : (a2, o2) ∈ led) (h6 : (a3, o3) ∈ led) (U : UpdF d od led G) (n1 : @Ne Nat o d) (n2 : @Ne Nat dx d) (n4 : @Ne Nat a1 d) (n5 : @Ne Nat a2 d) (n6 : @Ne Nat a3 d) (hv : OkV x it dv) (hc : (bg && (earlyL.any fun y => y == x)) = false) (hb9 : ∀ r, it.count = some r → r < 10 ^ 30)
    (hret : ∀ od' kvs' tk2 h' tk', od'.IsDictOf (PySem.strKind PySem.Challenge.rw_nz0133_01.row.prog w) kvs' → FlatPairs PyData.str kvs' (stD (St.put st x dv)) → WT (St.put st x dv) → Fr h₀ L h' m → News h₀ L h' (G od') → Q (.str (Str.ofString "") tk2) { s with heap := h', toks := tk' }) :
    wpAny (model PySem.Challenge.rw_nz0133_01.row.prog w) (ktrTop dp un gd cn cs L a ccd [] []) (call (.ref 181) [.ref o, .str x tx, v, .bool bg]) Q E s := by
  rcases hv with ⟨hx, r, e, rfl⟩ | ⟨hx, r, e, rfl⟩
  · exact lp_flag_ok B F X T hk hdp hu NL XB TB h1 h2 h3 hod hf lo W hx hn hi h4 h5 h6 U n1 n2 n4 n5 n6 e hc hb9 hret
  · exact lp_count_ok B F X T hk hdp hu NL XB TB h1 h2 h3 hod hf lo W hx hn hi h4 h5 h6 U n1 n2 n4 n5 n6 e hc hb9 hret
theorem lp_any_late {o dx d nd : Nat} {hsh : Int} {tv tx : Tok} {od : Obj} {kvs : List (Str × Value)} {x : Str} {v : Value} {it : Itm} {a1 a2 a3 : Nat} {o1 o2 o3 : Obj} {bg : Bool} {st : Str → PyData} {dv : PyData}
    (B : Below A₀ base [] h₀) (F : Fr h₀ L s.heap m) (X : (hd.heap_39 w.params).In h₀) (T : Top hd.view_39 LS mean mg mb h₀) (hk : cs.kind = .function)
    (hdp : dp + 30 < recursionLimit) (hu : un + 500 < cLine) (NL : News h₀ L s.heap led) (XB : (hd.heap_39 w.params).In base) (TB : Top hd.view_39 LS mean mg mb base) (h1 : (o, optI dx) ∈ led) (h2 : (dx, optD hsh tv d nd) ∈ led) (h3 : (d, od) ∈ led) (hod : od.IsDictOf (PySem.strKind PySem.Challenge.rw_nz0133_01.row.prog w) kvs) (hf : FlatPairs PyData.str kvs (stD st)) (lo : (d == sysModules) = false) (W : WT st) (hn : x ∈ namesL) (hi : it.At [(a1, o1), (a2, o2), (a3, o3)] v) (h4 : (a1, o1) ∈ led) (h5 : (a2, o2) ∈ led) (h6 : (a3, o3) ∈ led) (U : UpdF d od led G) (n1 : @Ne Nat o d) (n2 : @Ne Nat dx d) (n4 : @Ne Nat a1 d) (n5 : @Ne Nat a2 d) (n6 : @Ne Nat a3 d) (hv : OkV x it dv) (hc : (bg && (earlyL.any fun y => y == x)) = true)
    (hret : ∀ tk2 h' tk', Fr h₀ L h' m → News h₀ L h' led → Q (.str (Str.ofString "first of all") tk2) { s with heap := h', toks := tk' }) :
    wpAny (model PySem.Challenge.rw_nz0133_01.row.prog w) (ktrTop dp un gd cn cs L a ccd [] []) (call (.ref 181) [.ref o, .str x tx, v, .bool bg]) Q E s := by
  rcases hv with ⟨hx, r, e, rfl⟩ | ⟨hx, r, e, rfl⟩
  · exact lp_flag_late B F X T hk hdp hu NL XB TB h1 h2 h3 hod hf lo W hx hn hi h4 h5 h6 U n1 n2 n4 n5 n6 e hc hret
  · exact lp_count_late B F X T hk hdp hu NL XB TB h1 h2 h3 hod hf lo W hx hn hi h4 h5 h6 U n1 n2 n4 n5 n6 e hc hret
theorem due_any {x : Str} {tx : Tok} {bg : Bool} {v : Value} {it : Itm} {a1 a2 a3 : Nat} {o1 o2 o3 : Obj}
    (B : Below A₀ base outer h₀) (F : Fr h₀ L s.heap m) (X : (hd.heap_39 w.params).In h₀) (T : Top hd.view_39 LS mean mg mb h₀) (hk : cs.kind = .function)
    (hdp : dp + 10 < recursionLimit) (hu : un + 300 < cLine) (NL : News h₀ L s.heap led) (hn : x ∈ namesL) (hi : it.At [(a1, o1), (a2, o2), (a3, o3)] v) (h4 : (a1, o1) ∈ led) (h5 : (a2, o2) ∈ led) (h6 : (a3, o3) ∈ led)
    (hret : (∀ dv v', OkV x it dv → Flat v' dv → (bg && (earlyL.any fun y => y == x)) = false → ∀ ra t h' tk', Fr h₀ L h' m → News h₀ L h' ((ra, tupO [v', .str (Str.ofString "") t]) :: led) → (∀ p ∈ led, @Ne Nat p.1 ra) → Q (.ref ra) { s with heap := h', toks := tk' }) ∧ (x ∈ flagsL → it.flag = none → ∀ ra t h' tk', Fr h₀ L h' m → News h₀ L h' ((ra, tupO [.none, .str (Str.ofString "true or false") t]) :: led) → (∀ p ∈ led, @Ne Nat p.1 ra) → Q (.ref ra) { s with heap := h', toks := tk' }) ∧ (x ∈ countsL → it.count = none → ∀ ra t h' tk', Fr h₀ L h' m → News h₀ L h' ((ra, tupO [.none, .str (Str.ofString "a numeral") t]) :: led) → (∀ p ∈ led, @Ne Nat p.1 ra) → Q (.ref ra) { s with heap := h', toks := tk' }) ∧ (∀ dv v', OkV x it dv → Flat v' dv → (bg && (earlyL.any fun y => y == x)) = true → ∀ ra t h' tk', Fr h₀ L h' m → News h₀ L h' ((ra, tupO [v', .str (Str.ofString "first of all") t]) :: led) → (∀ p ∈ led, @Ne Nat p.1 ra) → Q (.ref ra) { s with heap := h', toks := tk' })) :
    wpAny (model PySem.Challenge.rw_nz0133_01.row.prog w) (ktrTop dp un gd cn cs L a ccd cl outer) (call (.ref 176) [.str x tx, v, .bool bg]) Q E s := by
  obtain ⟨k1, k2, k3, k4⟩ := hret
  rcases flag_or hn with hx | hx
  · exact due_flag3 B F X T hk hdp hu NL hx hn hi h4 h5 h6 ⟨fun r e c => k1 (.bool r) (.bool r) (.inl ⟨hx, r, e, rfl⟩) (Flat.bool _) c, fun e => k2 hx e, fun r e c => k4 (.bool r) (.bool r) (.inl ⟨hx, r, e, rfl⟩) (Flat.bool _) c⟩
  · exact due_count3 B F X T hk hdp hu NL hx hn hi h4 h5 h6 ⟨fun r e c ra t ti => k1 (.int r) (.int r ti) (.inr ⟨hx, r, e, rfl⟩) (Flat.int _ _) c ra t, fun e => k3 hx e, fun r e c ra t ti => k4 (.int r) (.int r ti) (.inr ⟨hx, r, e, rfl⟩) (Flat.int _ _) c ra t⟩
end
end

section
theorem freshTurnX : True := by
  w_top off
  k_with_none
  exact True.intro
open PySem PySem.W PyProof.Rows PyProof.V PySem.Calls PySem.Spec
set_option maxRecDepth 100000
set_option maxHeartbeats 80000000
local macro_rules | `(tactic| ktr_unf) => `(tactic| first | k_asm | exact rfl | k_mem | ktr_room | ktr_units | k_updF | omega)
theorem sayTurnXa : True := by
  k_with_none
  k_with "ktr_enter" => (first | ((refine' code_defN ?k1q0 ?k2q0 ?k3q0 ?k4q0 ?kMq0 ?k5q0 ?kAq0 ?kFq0 ?kKq0 ?k6q0 ?k7q0 ?k8q0 ?k9q0 ?kBq0 ?_ ?c2q0 ?c3q0 ?c4q0 ?c5q0; (case kAq0 => exact rfl); (case kFq0 => exact rfl); (case kKq0 => assumption); (case k1q0 => k_asm); (case k2q0 => k_asm); (case k3q0 => k_asm); (case k4q0 => k_asm); (case kMq0 => assumption); (case k5q0 => k_asm); (case k6q0 => k_is); (case k7q0 => k_is); (case k8q0 => ktr_room); (case k9q0 => exact BindsTo.of_eq rfl); (case c5q0 => decide); (case kBq0 => exact locs rfl); (case c2q0 => exact rfl); (case c3q0 => exact rfl); (case c4q0 => exact rfl); k_whole; intro g' L' h' FG' F' N' B' X' T' fr' l1 l2; (try k_lt l1); (try dsimp only); (try k_fold))) | ((refine' code_defN ?k1q1 ?k2q1 ?k3q1 ?k4q1 ?kMq1 ?k5q1 ?kAq1 ?kFq1 ?kKq1 ?k6q1 ?k7q1 ?k8q1 ?k9q1 ?kBq1 ?_ ?c2q1 ?c3q1 ?c4q1 ?c5q1; (case kAq1 => exact rfl); (case kFq1 => exact rfl); (case kKq1 => assumption); (case k1q1 => k_asm); (case k2q1 => k_asm); (case k3q1 => k_asm); (case k4q1 => k_asm); (case kMq1 => assumption); (case k5q1 => k_asm); (case k6q1 => k_is); (case k7q1 => k_is); (case k8q1 => ktr_room); (case k9q1 => exact BindsTo.of_eq rfl); (case c5q1 => decide); (case kBq1 => exact locs rfl); (case c2q1 => exact rfl); (case c3q1 => exact rfl); (case c4q1 => exact rfl); k_whole; intro g' L' h' FG' F' N' B' X' T' fr' l1 l2; (try k_lt l1); (try dsimp only); (try k_fold))))
  exact True.intro
theorem lst_at {prog : Program} {w : World} {A : Around} {E : Value → Shared → Prop} {s : Shared} {h₀ : Heap} {L l : Addr} {news : List (Addr × Obj)} {sv : List Value} {n : Nat} {k : Int} {u : Tok} {v : Value} {value slice : PySem.Expr} {Q : Value → Shared → Prop} (N : News h₀ L s.heap news) (hl : (l, PySem.W.listOf sv.toArray n) ∈ news) (h0 : 0 ≤ k) (h1 : k < 2)
    (e : sv[k.toNat]? = some v) (hs : subscripted slice false (.ref l) (.int k u) = operate [.ref l, .int k u] (getItem (.ref l) (.int k u))) (h : Q v s) : wpAny (model prog w) A (subscriptTail value slice (.ref l) (.int k u)) Q E s :=
  item_litK (N.isList hl) h0 (by omega) e h hs
theorem LapF.swap {w : World} {t c S Bk kp d0 d1 b0 b1 : Nat} {i : Nat} {m : Str → Option Value} {ot od0 od1 ob0 ob1 : Obj} {its : Array Value} {kl : List (Addr × Obj)} {k : Int} {t3 : Tok} {kv0 kv1 kvb0 kvb1 : List (Str × Value)} {sa sb : Str → PyData} (D : LapF w t c S Bk kp d0 d1 b0 b1 i m ot od0 od1 ob0 ob1 its kl k t3 kv0 kv1 kvb0 kvb1 sa sb) : LapF w t c S Bk kp d1 d0 b1 b0 i m ot od1 od0 ob1 ob0 its kl k t3 kv1 kv0 kvb1 kvb0 sb sa :=
  ⟨D.mt, D.ms, D.mkp, D.mb, D.hot, D.hk0, D.hk1, D.h1, D.h0, D.g1, D.g0, D.f1, D.f0, D.e1, D.e0, D.w1, D.w0, D.sz, D.kept, D.k1, D.k2, D.k4, D.k3, D.k6, D.k5⟩

section
variable {w : World} {mean : ExcName → Option Value} {mg mb : Str → Option Value} {dp un : Nat} {gd : Option (List Code)} {cn : Str} {cs : Scope} {a : Addr} {ccd : Value} {cl : List (Str × Addr)}  {A₀ : Around} {base h₀ : Heap} {L : Addr} {m : Str → Option Value} {led : List (Addr × Obj)} {G : Obj → List (Addr × Obj)} {s : Shared} {Q E : Value → Shared → Prop}
local macro_rules | `(tactic| k_all) => `(tactic| with_reducible assumption)
local macro_rules | `(tactic| k_ne) => `(tactic| (refine neN ?_; (try dsimp only); first | ((with_reducible refine Apart.ne1 ?_); (with_reducible assumption)) | ((with_reducible refine Apart.ne2 ?_); (with_reducible assumption)) | omega))
local macro_rules | `(tactic| k_mem) => `(tactic| ((refine' List.mem_append_right _ ?_); k_mem))
theorem sayTurnXb : True := by
  k_with "binaryOp Mod int int" => (k_here; first | (k_dflt (refine' mod2 ?eq0 ?_; (case eq0 => with_reducible assumption))) | (k_dflt (refine' mod2 ?eq1 ?_; (case eq1 => with_reducible assumption))))
  k_with "binaryOp Add ref ref" => (k_here; (with_reducible show wpAny _ _ (binaryOp Operator.Add (Value.ref 147) (Value.ref 148)) _ _ _); first | (k_dflt (refine' add_words ?Fq0 ?Nq0 (kt_words_in ?Xq0 flags_in) (kt_words_in ?Yq0 counts_in) ?zq0 ?_; (case Fq0 => k_asm); (case Nq0 => k_asm); (case Xq0 => assumption); (case Yq0 => assumption); (case zq0 => decide)); intro D9 h' vs9 sa9 F' N' l1; replace l1 := allLt_of l1; (simp only [AllLt] at l1); replace sa9 : StrsAre _ namesL := sa9) | (k_dflt (refine' add_words ?Fq1 ?Nq1 (kt_words_in ?Xq1 flags_in) (kt_words_in ?Yq1 counts_in) ?zq1 ?_; (case Fq1 => k_asm); (case Nq1 => k_asm); (case Xq1 => assumption); (case Yq1 => assumption); (case zq1 => decide)); intro D9 h' vs9 sa9 F' N' l1; replace l1 := allLt_of l1; (simp only [AllLt] at l1); replace sa9 : StrsAre _ namesL := sa9))
  k_with "subscriptTail" => (k_here; (with_reducible show wpAny _ _ (subscriptTail _ _ (Value.ref _) (Value.int _ _)) _ _ _); first | (k_dflt (refine' strs_item ?Nq0 ?hlq0 ?saq0 ?aq0 ?bq0 ?hsq0 ?_; (case Nq0 => k_asm); (case hlq0 => k_mem); (case saq0 => with_reducible assumption); (case aq0 => with_reducible assumption); (case bq0 => with_reducible assumption); (case hsq0 => with_unfolding_all rfl)); intro x9 tx9 hx9) | (k_dflt (refine' strs_item ?Nq1 ?hlq1 ?saq1 ?aq1 ?bq1 ?hsq1 ?_; (case Nq1 => k_asm); (case hlq1 => k_mem); (case saq1 => with_reducible assumption); (case aq1 => with_reducible assumption); (case bq1 => with_reducible assumption); (case hsq1 => with_unfolding_all rfl)); intro x9 tx9 hx9))
  k_with "setItem ref str" => (k_here; first | (k_dflt (refine' set_book ?Fq0 ?Nq0 ?Uq0 ?hdq0 ?hfq0 ?hnq0 ?hvq0 ?_; (case Fq0 => k_asm); (case Nq0 => k_asm); (case Uq0 => k_updF); (case hdq0 => assumption); (case hfq0 => assumption); (case hnq0 => assumption); (case hvq0 => first | with_reducible assumption | k_flat)); intro h' o' kvs' F' N' hd' hf'; (try dsimp only at N')) | (k_dflt (refine' set_book ?Fq1 ?Nq1 ?Uq1 ?hdq1 ?hfq1 ?hnq1 ?hvq1 ?_; (case Fq1 => k_asm); (case Nq1 => k_asm); (case Uq1 => k_updF); (case hdq1 => assumption); (case hfq1 => assumption); (case hnq1 => assumption); (case hvq1 => first | with_reducible assumption | k_flat)); intro h' o' kvs' F' N' hd' hf'; (try dsimp only at N')))
  k_with "call ref" => (k_here; (with_reducible show wpAny _ _ (call (Value.ref 162) _) _ _ _); first | (k_dflt (refine' draw_call ?Bq0 ?Fq0 ?Xq0 ?Tq0 ?hkq0 ?hdpq0 ?huq0 ?NLq0 ?Uq0 ?hcq0 ?hotq0 ?loq0 ?hIq0 ?hlenq0 ?hk0q0 ?hk1q0 ?hmq0 ?htcq0 ?_; (case NLq0 => k_asm); (case Uq0 => k_updF); (case hotq0 => assumption); (case hIq0 => assumption); (case Bq0 => assumption); (case Fq0 => k_asm); (case Xq0 => assumption); (case Tq0 => assumption); (case hkq0 => exact rfl); (case hdpq0 => omega); (case huq0 => (have hcL9 := cLine_is; omega)); (case hcq0 => k_mem); (case loq0 => assumption); (case hlenq0 => assumption); (case hk0q0 => omega); (case hk1q0 => omega); (case hmq0 => decide); (case htcq0 => assumption)); intro r9 t9 t4 ot9 h9 tk9 r90 r91 F9 N9 hot9; (try dsimp only at N9); (try dsimp only); (try k_fold)) | (k_dflt (refine' draw_call ?Bq1 ?Fq1 ?Xq1 ?Tq1 ?hkq1 ?hdpq1 ?huq1 ?NLq1 ?Uq1 ?hcq1 ?hotq1 ?loq1 ?hIq1 ?hlenq1 ?hk0q1 ?hk1q1 ?hmq1 ?htcq1 ?_; (case NLq1 => k_asm); (case Uq1 => k_updF); (case hotq1 => assumption); (case hIq1 => assumption); (case Bq1 => assumption); (case Fq1 => k_asm); (case Xq1 => assumption); (case Tq1 => assumption); (case hkq1 => exact rfl); (case hdpq1 => omega); (case huq1 => (have hcL9 := cLine_is; omega)); (case hcq1 => k_mem); (case loq1 => assumption); (case hlenq1 => assumption); (case hk0q1 => omega); (case hk1q1 => omega); (case hmq1 => decide); (case htcq1 => assumption)); intro r9 t9 t4 ot9 h9 tk9 r90 r91 F9 N9 hot9; (try dsimp only at N9); (try dsimp only); (try k_fold)))
  k_with "call ref" => (k_here; (with_reducible show wpAny _ _ (call (Value.ref 169) _) _ _ _); first | (k_dflt (refine' item_call ?Bq0 ?Fq0 ?Xq0 ?Tq0 ?hkq0 ?hdpq0 ?huq0 ?NLq0 ?Uq0 ?hcq0 ?hotq0 ?loq0 ?hIq0 ?hlenq0 ?hk0q0 ?hk1q0 ?htcq0 ?_; (case NLq0 => k_asm); (case Uq0 => k_updF); (case hotq0 => assumption); (case hIq0 => assumption); (case Bq0 => assumption); (case Fq0 => k_asm); (case Xq0 => assumption); (case Tq0 => assumption); (case hkq0 => exact rfl); (case hdpq0 => omega); (case huq0 => (have hcL9 := cLine_is; omega)); (case hcq0 => k_mem); (case loq0 => assumption); (case hlenq0 => assumption); (case hk0q0 => omega); (case hk1q0 => omega); (case htcq0 => assumption)); intro it9 v9 a1 a2 a3 o1 o2 o3 t4 ot9 h9 tk9 hi9 hb9 hot9 F9 N9 n1 n2 n3; (try dsimp only at N9); replace n1 := aparts n1; replace n2 := aparts n2; replace n3 := aparts n3; (simp only [AllApart] at n1 n2 n3); (repeat (rcases n1 with ⟨_, n1⟩)); (repeat (rcases n2 with ⟨_, n2⟩)); (repeat (rcases n3 with ⟨_, n3⟩)); (try dsimp only); (try k_fold)) | (k_dflt (refine' item_call ?Bq1 ?Fq1 ?Xq1 ?Tq1 ?hkq1 ?hdpq1 ?huq1 ?NLq1 ?Uq1 ?hcq1 ?hotq1 ?loq1 ?hIq1 ?hlenq1 ?hk0q1 ?hk1q1 ?htcq1 ?_; (case NLq1 => k_asm); (case Uq1 => k_updF); (case hotq1 => assumption); (case hIq1 => assumption); (case Bq1 => assumption); (case Fq1 => k_asm); (case Xq1 => assumption); (case Tq1 => assumption); (case hkq1 => exact rfl); (case hdpq1 => omega); (case huq1 => (have hcL9 := cLine_is; omega)); (case hcq1 => k_mem); (case loq1 => assumption); (case hlenq1 => assumption); (case hk0q1 => omega); (case hk1q1 => omega); (case htcq1 => assumption)); intro it9 v9 a1 a2 a3 o1 o2 o3 t4 ot9 h9 tk9 hi9 hb9 hot9 F9 N9 n1 n2 n3; (try dsimp only at N9); replace n1 := aparts n1; replace n2 := aparts n2; replace n3 := aparts n3; (simp only [AllApart] at n1 n2 n3); (repeat (rcases n1 with ⟨_, n1⟩)); (repeat (rcases n2 with ⟨_, n2⟩)); (repeat (rcases n3 with ⟨_, n3⟩)); (try dsimp only); (try k_fold)))
  k_with "call ref" => (k_here; (with_reducible show wpAny _ _ (call (Value.ref 207) _) _ _ _); first | (k_dflt (refine' told_U ?Bq0 ?Fq0 ?Xq0 ?Tq0 ?hkq0 ?hdpq0 ?huq0 ?NLq0 ?h1q0 ?h2q0 ?h3q0 ?h4q0 ?h5q0 ?h6q0 ?h7q0 ?h8q0 ?hod1q0 ?hod2q0 ?hob1q0 ?hob2q0 ?hf1q0 ?hf2q0 ?hfb1q0 ?hfb2q0 ?lo1q0 ?lo2q0 ?lob1q0 ?lob2q0 ?W1q0 ?W2q0 ?hxq0 ?hneq0 ?U1q0 ?U2q0 ?_; (case Bq0 => assumption); (case Fq0 => k_asm); (case Xq0 => assumption); (case Tq0 => assumption); (case hkq0 => exact rfl); (case hdpq0 => omega); (case huq0 => (have hcL9 := cLine_is; omega)); (case NLq0 => k_asm); (case h1q0 => k_mem); (case h2q0 => k_mem); (case h3q0 => k_mem); (case h4q0 => k_mem); (case h5q0 => k_mem); (case h6q0 => k_mem); (case h7q0 => k_mem); (case h8q0 => k_mem); (case hod1q0 => assumption); (case hod2q0 => assumption); (case hob1q0 => assumption); (case hob2q0 => assumption); (case hf1q0 => assumption); (case hf2q0 => assumption); (case hfb1q0 => assumption); (case hfb2q0 => assumption); (case lo1q0 => assumption); (case lo2q0 => assumption); (case lob1q0 => assumption); (case lob2q0 => assumption); (case W1q0 => assumption); (case W2q0 => assumption); (case hxq0 => assumption); (case hneq0 => omega); (case U1q0 => k_updF); (case U2q0 => (intro o9; k_updF))); intro od9 kv9 ob9 kvb9 h9 tk9 hod9 hf9 hob9 hfb9 W9 F9 N9; (try dsimp only at N9); (try dsimp only); (try k_fold)) | (k_dflt (refine' told_U ?Bq1 ?Fq1 ?Xq1 ?Tq1 ?hkq1 ?hdpq1 ?huq1 ?NLq1 ?h1q1 ?h2q1 ?h3q1 ?h4q1 ?h5q1 ?h6q1 ?h7q1 ?h8q1 ?hod1q1 ?hod2q1 ?hob1q1 ?hob2q1 ?hf1q1 ?hf2q1 ?hfb1q1 ?hfb2q1 ?lo1q1 ?lo2q1 ?lob1q1 ?lob2q1 ?W1q1 ?W2q1 ?hxq1 ?hneq1 ?U1q1 ?U2q1 ?_; (case Bq1 => assumption); (case Fq1 => k_asm); (case Xq1 => assumption); (case Tq1 => assumption); (case hkq1 => exact rfl); (case hdpq1 => omega); (case huq1 => (have hcL9 := cLine_is; omega)); (case NLq1 => k_asm); (case h1q1 => k_mem); (case h2q1 => k_mem); (case h3q1 => k_mem); (case h4q1 => k_mem); (case h5q1 => k_mem); (case h6q1 => k_mem); (case h7q1 => k_mem); (case h8q1 => k_mem); (case hod1q1 => assumption); (case hod2q1 => assumption); (case hob1q1 => assumption); (case hob2q1 => assumption); (case hf1q1 => assumption); (case hf2q1 => assumption); (case hfb1q1 => assumption); (case hfb2q1 => assumption); (case lo1q1 => assumption); (case lo2q1 => assumption); (case lob1q1 => assumption); (case lob2q1 => assumption); (case W1q1 => assumption); (case W2q1 => assumption); (case hxq1 => assumption); (case hneq1 => omega); (case U1q1 => k_updF); (case U2q1 => (intro o9; k_updF))); intro od9 kv9 ob9 kvb9 h9 tk9 hod9 hf9 hob9 hfb9 W9 F9 N9; (try dsimp only at N9); (try dsimp only); (try k_fold)))
  k_with "call ref" => (k_here; (with_reducible show wpAny _ _ (call (Value.ref 214) _) _ _ _); first | (k_dflt (refine' lcop_U ?Bq0 ?Fq0 ?Xq0 ?Tq0 ?hkq0 ?hdpq0 ?huq0 ?NLq0 ?h1q0 ?h2q0 ?h3q0 ?hodq0 ?hfq0 ?loq0 ?h4q0 ?hobq0 ?hfbq0 ?lobq0 ?Wq0 ?hvsq0 ?hneq0 ?Uq0 ?_; (case NLq0 => k_asm); (case Uq0 => k_updF); (case Bq0 => assumption); (case Fq0 => k_asm); (case Xq0 => assumption); (case Tq0 => assumption); (case hkq0 => exact rfl); (case hdpq0 => omega); (case huq0 => (have hcL9 := cLine_is; omega)); (case h1q0 => k_mem); (case h2q0 => k_mem); (case h3q0 => k_mem); (case hodq0 => assumption); (case hfq0 => assumption); (case loq0 => assumption); (case h4q0 => k_mem); (case hobq0 => assumption); (case hfbq0 => assumption); (case lobq0 => assumption); (case Wq0 => assumption); (case hvsq0 => omega); (case hneq0 => omega)); intro T9 f9 l9 fo9 kvf9 new9 nk9 h9 tk9 hof9 hff9 lof9 P9 F9 N9 ne9; (try dsimp only at N9); replace N9 := news_rot N9; dsimp only [List.cons_append] at N9; (try dsimp only); (try k_fold)) | (k_dflt (refine' lcop_U ?Bq1 ?Fq1 ?Xq1 ?Tq1 ?hkq1 ?hdpq1 ?huq1 ?NLq1 ?h1q1 ?h2q1 ?h3q1 ?hodq1 ?hfq1 ?loq1 ?h4q1 ?hobq1 ?hfbq1 ?lobq1 ?Wq1 ?hvsq1 ?hneq1 ?Uq1 ?_; (case NLq1 => k_asm); (case Uq1 => k_updF); (case Bq1 => assumption); (case Fq1 => k_asm); (case Xq1 => assumption); (case Tq1 => assumption); (case hkq1 => exact rfl); (case hdpq1 => omega); (case huq1 => (have hcL9 := cLine_is; omega)); (case h1q1 => k_mem); (case h2q1 => k_mem); (case h3q1 => k_mem); (case hodq1 => assumption); (case hfq1 => assumption); (case loq1 => assumption); (case h4q1 => k_mem); (case hobq1 => assumption); (case hfbq1 => assumption); (case lobq1 => assumption); (case Wq1 => assumption); (case hvsq1 => omega); (case hneq1 => omega)); intro T9 f9 l9 fo9 kvf9 new9 nk9 h9 tk9 hof9 hff9 lof9 P9 F9 N9 ne9; (try dsimp only at N9); replace N9 := news_rot N9; dsimp only [List.cons_append] at N9; (try dsimp only); (try k_fold)))
  k_with "call ref" => (k_here; (with_reducible show wpAny _ _ (call (Value.ref 176) _) _ _ _); first | (k_dflt (refine' due_any ?Bq0 ?Fq0 ?Xq0 ?Tq0 ?hkq0 ?hdpq0 ?huq0 ?NLq0 ?hnq0 ?hiq0 ?h4q0 ?h5q0 ?h6q0 ?_; (case hnq0 => with_reducible assumption); (case Bq0 => assumption); (case NLq0 => k_asm); (case Fq0 => k_asm); (case Xq0 => assumption); (case Tq0 => assumption); (case hkq0 => exact rfl); (case hdpq0 => omega); (case huq0 => (have hcL9 := cLine_is; omega)); (case hiq0 => with_reducible assumption); (case h4q0 => k_mem); (case h5q0 => k_mem); (case h6q0 => k_mem)); (try dsimp only)) | (k_dflt (refine' due_any ?Bq1 ?Fq1 ?Xq1 ?Tq1 ?hkq1 ?hdpq1 ?huq1 ?NLq1 ?hnq1 ?hiq1 ?h4q1 ?h5q1 ?h6q1 ?_; (case hnq1 => with_reducible assumption); (case Bq1 => assumption); (case NLq1 => k_asm); (case Fq1 => k_asm); (case Xq1 => assumption); (case Tq1 => assumption); (case hkq1 => exact rfl); (case hdpq1 => omega); (case huq1 => (have hcL9 := cLine_is; omega)); (case hiq1 => with_reducible assumption); (case h4q1 => k_mem); (case h5q1 => k_mem); (case h6q1 => k_mem)); (try dsimp only)))
  k_with "call ref" => (k_here; (with_reducible show wpAny _ _ (call (Value.ref 181) _) _ _ _); first | ((rename (∀ p : Addr × Obj, p ∈ (_ : List (Addr × Obj)) → @Ne Nat p.1 _) => n9; replace n9 := aparts n9; (simp only [AllApart] at n9); (repeat (rcases n9 with ⟨_, n9⟩))); k_dflt (first | (refine' lp_any_ok ?Bq0 ?Fq0 ?Xq0 ?Tq0 ?hkq0 ?hdpq0 ?huq0 ?NLq0 ?XBq0 ?TBq0 ?h1q0 ?h2q0 ?h3q0 ?hodq0 ?hfq0 ?loq0 ?Wq0 ?hnq0 ?hiq0 ?h4q0 ?h5q0 ?h6q0 ?Uq0 ?n1q0 ?n2q0 ?n4q0 ?n5q0 ?n6q0 ?hvq0 ?hcq0 ?hb9q0 ?_; (case hiq0 => with_reducible assumption); (case hvq0 => with_reducible assumption); (case hcq0 => with_reducible assumption); (case NLq0 => k_asm); (case h1q0 => k_mem); (case h2q0 => k_mem); (case h3q0 => k_mem); (case Uq0 => k_updF); (case Bq0 => assumption); (case Fq0 => k_asm); (case Xq0 => assumption); (case Tq0 => assumption); (case hkq0 => exact rfl); (case hdpq0 => omega); (case huq0 => (have hcL9 := cLine_is; omega)); (case XBq0 => assumption); (case TBq0 => assumption); (case hodq0 => with_reducible assumption); (case hfq0 => with_reducible assumption); (case loq0 => with_reducible assumption); (case Wq0 => with_reducible assumption); (case hnq0 => with_reducible assumption); (case h4q0 => k_mem); (case h5q0 => k_mem); (case h6q0 => k_mem); (case n1q0 => omega); (case n2q0 => omega); (case n4q0 => k_ne); (case n5q0 => k_ne); (case n6q0 => k_ne); (case hb9q0 => with_reducible assumption); intro od9 kv9 tk2 h9 tk9 hod9 hf9 W9 F9 N9; (try dsimp only at N9)) | (refine' lp_flag_bad ?Bq0 ?Fq0 ?Xq0 ?Tq0 ?hkq0 ?hdpq0 ?huq0 ?NLq0 ?XBq0 ?TBq0 ?h1q0 ?h2q0 ?h3q0 ?hodq0 ?hfq0 ?loq0 ?Wq0 ?hk2q0 ?hnq0 ?hiq0 ?h4q0 ?h5q0 ?h6q0 ?Uq0 ?n1q0 ?n2q0 ?n4q0 ?n5q0 ?n6q0 ?hrq0 ?_; (case hiq0 => with_reducible assumption); (case hk2q0 => with_reducible assumption); (case hrq0 => with_reducible assumption); (case NLq0 => k_asm); (case h1q0 => k_mem); (case h2q0 => k_mem); (case h3q0 => k_mem); (case Uq0 => k_updF); (case Bq0 => assumption); (case Fq0 => k_asm); (case Xq0 => assumption); (case Tq0 => assumption); (case hkq0 => exact rfl); (case hdpq0 => omega); (case huq0 => (have hcL9 := cLine_is; omega)); (case XBq0 => assumption); (case TBq0 => assumption); (case hodq0 => with_reducible assumption); (case hfq0 => with_reducible assumption); (case loq0 => with_reducible assumption); (case Wq0 => with_reducible assumption); (case hnq0 => with_reducible assumption); (case h4q0 => k_mem); (case h5q0 => k_mem); (case h6q0 => k_mem); (case n1q0 => omega); (case n2q0 => omega); (case n4q0 => k_ne); (case n5q0 => k_ne); (case n6q0 => k_ne); intro tk2 h9 tk9 F9 N9) | (refine' lp_count_bad ?Bq0 ?Fq0 ?Xq0 ?Tq0 ?hkq0 ?hdpq0 ?huq0 ?NLq0 ?XBq0 ?TBq0 ?h1q0 ?h2q0 ?h3q0 ?hodq0 ?hfq0 ?loq0 ?Wq0 ?hk2q0 ?hnq0 ?hiq0 ?h4q0 ?h5q0 ?h6q0 ?Uq0 ?n1q0 ?n2q0 ?n4q0 ?n5q0 ?n6q0 ?hrq0 ?_; (case hiq0 => with_reducible assumption); (case hk2q0 => with_reducible assumption); (case hrq0 => with_reducible assumption); (case NLq0 => k_asm); (case h1q0 => k_mem); (case h2q0 => k_mem); (case h3q0 => k_mem); (case Uq0 => k_updF); (case Bq0 => assumption); (case Fq0 => k_asm); (case Xq0 => assumption); (case Tq0 => assumption); (case hkq0 => exact rfl); (case hdpq0 => omega); (case huq0 => (have hcL9 := cLine_is; omega)); (case XBq0 => assumption); (case TBq0 => assumption); (case hodq0 => with_reducible assumption); (case hfq0 => with_reducible assumption); (case loq0 => with_reducible assumption); (case Wq0 => with_reducible assumption); (case hnq0 => with_reducible assumption); (case h4q0 => k_mem); (case h5q0 => k_mem); (case h6q0 => k_mem); (case n1q0 => omega); (case n2q0 => omega); (case n4q0 => k_ne); (case n5q0 => k_ne); (case n6q0 => k_ne); intro tk2 h9 tk9 F9 N9) | (refine' lp_any_late ?Bq0 ?Fq0 ?Xq0 ?Tq0 ?hkq0 ?hdpq0 ?huq0 ?NLq0 ?XBq0 ?TBq0 ?h1q0 ?h2q0 ?h3q0 ?hodq0 ?hfq0 ?loq0 ?Wq0 ?hnq0 ?hiq0 ?h4q0 ?h5q0 ?h6q0 ?Uq0 ?n1q0 ?n2q0 ?n4q0 ?n5q0 ?n6q0 ?hvq0 ?hcq0 ?_; (case hiq0 => with_reducible assumption); (case hvq0 => with_reducible assumption); (case hcq0 => with_reducible assumption); (case NLq0 => k_asm); (case h1q0 => k_mem); (case h2q0 => k_mem); (case h3q0 => k_mem); (case Uq0 => k_updF); (case Bq0 => assumption); (case Fq0 => k_asm); (case Xq0 => assumption); (case Tq0 => assumption); (case hkq0 => exact rfl); (case hdpq0 => omega); (case huq0 => (have hcL9 := cLine_is; omega)); (case XBq0 => assumption); (case TBq0 => assumption); (case hodq0 => with_reducible assumption); (case hfq0 => with_reducible assumption); (case loq0 => with_reducible assumption); (case Wq0 => with_reducible assumption); (case hnq0 => with_reducible assumption); (case h4q0 => k_mem); (case h5q0 => k_mem); (case h6q0 => k_mem); (case n1q0 => omega); (case n2q0 => omega); (case n4q0 => k_ne); (case n5q0 => k_ne); (case n6q0 => k_ne); intro tk2 h9 tk9 F9 N9)); (try dsimp only); (try k_fold)) | ((rename (∀ p : Addr × Obj, p ∈ (_ : List (Addr × Obj)) → @Ne Nat p.1 _) => n9; replace n9 := aparts n9; (simp only [AllApart] at n9); (repeat (rcases n9 with ⟨_, n9⟩))); k_dflt (first | (refine' lp_any_ok ?Bq1 ?Fq1 ?Xq1 ?Tq1 ?hkq1 ?hdpq1 ?huq1 ?NLq1 ?XBq1 ?TBq1 ?h1q1 ?h2q1 ?h3q1 ?hodq1 ?hfq1 ?loq1 ?Wq1 ?hnq1 ?hiq1 ?h4q1 ?h5q1 ?h6q1 ?Uq1 ?n1q1 ?n2q1 ?n4q1 ?n5q1 ?n6q1 ?hvq1 ?hcq1 ?hb9q1 ?_; (case hiq1 => with_reducible assumption); (case hvq1 => with_reducible assumption); (case hcq1 => with_reducible assumption); (case NLq1 => k_asm); (case h1q1 => k_mem); (case h2q1 => k_mem); (case h3q1 => k_mem); (case Uq1 => k_updF); (case Bq1 => assumption); (case Fq1 => k_asm); (case Xq1 => assumption); (case Tq1 => assumption); (case hkq1 => exact rfl); (case hdpq1 => omega); (case huq1 => (have hcL9 := cLine_is; omega)); (case XBq1 => assumption); (case TBq1 => assumption); (case hodq1 => with_reducible assumption); (case hfq1 => with_reducible assumption); (case loq1 => with_reducible assumption); (case Wq1 => with_reducible assumption); (case hnq1 => with_reducible assumption); (case h4q1 => k_mem); (case h5q1 => k_mem); (case h6q1 => k_mem); (case n1q1 => omega); (case n2q1 => omega); (case n4q1 => k_ne); (case n5q1 => k_ne); (case n6q1 => k_ne); (case hb9q1 => with_reducible assumption); intro od9 kv9 tk2 h9 tk9 hod9 hf9 W9 F9 N9; (try dsimp only at N9)) | (refine' lp_flag_bad ?Bq1 ?Fq1 ?Xq1 ?Tq1 ?hkq1 ?hdpq1 ?huq1 ?NLq1 ?XBq1 ?TBq1 ?h1q1 ?h2q1 ?h3q1 ?hodq1 ?hfq1 ?loq1 ?Wq1 ?hk2q1 ?hnq1 ?hiq1 ?h4q1 ?h5q1 ?h6q1 ?Uq1 ?n1q1 ?n2q1 ?n4q1 ?n5q1 ?n6q1 ?hrq1 ?_; (case hiq1 => with_reducible assumption); (case hk2q1 => with_reducible assumption); (case hrq1 => with_reducible assumption); (case NLq1 => k_asm); (case h1q1 => k_mem); (case h2q1 => k_mem); (case h3q1 => k_mem); (case Uq1 => k_updF); (case Bq1 => assumption); (case Fq1 => k_asm); (case Xq1 => assumption); (case Tq1 => assumption); (case hkq1 => exact rfl); (case hdpq1 => omega); (case huq1 => (have hcL9 := cLine_is; omega)); (case XBq1 => assumption); (case TBq1 => assumption); (case hodq1 => with_reducible assumption); (case hfq1 => with_reducible assumption); (case loq1 => with_reducible assumption); (case Wq1 => with_reducible assumption); (case hnq1 => with_reducible assumption); (case h4q1 => k_mem); (case h5q1 => k_mem); (case h6q1 => k_mem); (case n1q1 => omega); (case n2q1 => omega); (case n4q1 => k_ne); (case n5q1 => k_ne); (case n6q1 => k_ne); intro tk2 h9 tk9 F9 N9) | (refine' lp_count_bad ?Bq1 ?Fq1 ?Xq1 ?Tq1 ?hkq1 ?hdpq1 ?huq1 ?NLq1 ?XBq1 ?TBq1 ?h1q1 ?h2q1 ?h3q1 ?hodq1 ?hfq1 ?loq1 ?Wq1 ?hk2q1 ?hnq1 ?hiq1 ?h4q1 ?h5q1 ?h6q1 ?Uq1 ?n1q1 ?n2q1 ?n4q1 ?n5q1 ?n6q1 ?hrq1 ?_; (case hiq1 => with_reducible assumption); (case hk2q1 => with_reducible assumption); (case hrq1 => with_reducible assumption); (case NLq1 => k_asm); (case h1q1 => k_mem); (case h2q1 => k_mem); (case h3q1 => k_mem); (case Uq1 => k_updF); (case Bq1 => assumption); (case Fq1 => k_asm); (case Xq1 => assumption); (case Tq1 => assumption); (case hkq1 => exact rfl); (case hdpq1 => omega); (case huq1 => (have hcL9 := cLine_is; omega)); (case XBq1 => assumption); (case TBq1 => assumption); (case hodq1 => with_reducible assumption); (case hfq1 => with_reducible assumption); (case loq1 => with_reducible assumption); (case Wq1 => with_reducible assumption); (case hnq1 => with_reducible assumption); (case h4q1 => k_mem); (case h5q1 => k_mem); (case h6q1 => k_mem); (case n1q1 => omega); (case n2q1 => omega); (case n4q1 => k_ne); (case n5q1 => k_ne); (case n6q1 => k_ne); intro tk2 h9 tk9 F9 N9) | (refine' lp_any_late ?Bq1 ?Fq1 ?Xq1 ?Tq1 ?hkq1 ?hdpq1 ?huq1 ?NLq1 ?XBq1 ?TBq1 ?h1q1 ?h2q1 ?h3q1 ?hodq1 ?hfq1 ?loq1 ?Wq1 ?hnq1 ?hiq1 ?h4q1 ?h5q1 ?h6q1 ?Uq1 ?n1q1 ?n2q1 ?n4q1 ?n5q1 ?n6q1 ?hvq1 ?hcq1 ?_; (case hiq1 => with_reducible assumption); (case hvq1 => with_reducible assumption); (case hcq1 => with_reducible assumption); (case NLq1 => k_asm); (case h1q1 => k_mem); (case h2q1 => k_mem); (case h3q1 => k_mem); (case Uq1 => k_updF); (case Bq1 => assumption); (case Fq1 => k_asm); (case Xq1 => assumption); (case Tq1 => assumption); (case hkq1 => exact rfl); (case hdpq1 => omega); (case huq1 => (have hcL9 := cLine_is; omega)); (case XBq1 => assumption); (case TBq1 => assumption); (case hodq1 => with_reducible assumption); (case hfq1 => with_reducible assumption); (case loq1 => with_reducible assumption); (case Wq1 => with_reducible assumption); (case hnq1 => with_reducible assumption); (case h4q1 => k_mem); (case h5q1 => k_mem); (case h6q1 => k_mem); (case n1q1 => omega); (case n2q1 => omega); (case n4q1 => k_ne); (case n5q1 => k_ne); (case n6q1 => k_ne); intro tk2 h9 tk9 F9 N9)); (try dsimp only); (try k_fold)))
  k_with "subscriptTail" => (k_here; (with_reducible show wpAny _ _ (subscriptTail _ _ (Value.ref _) (Value.int _ _)) _ _ _); first | (k_dflt (refine' lst_at ?Nq0 ?hlq0 ?aq0 ?bq0 ?eq0 ?hsq0 ?_; (case Nq0 => k_asm); (case hlq0 => k_mem); (case eq0 => with_reducible assumption); (case aq0 => omega); (case bq0 => omega); (case hsq0 => with_unfolding_all rfl))) | (k_dflt (refine' lst_at ?Nq1 ?hlq1 ?aq1 ?bq1 ?eq1 ?hsq1 ?_; (case Nq1 => k_asm); (case hlq1 => k_mem); (case eq1 => with_reducible assumption); (case aq1 => omega); (case bq1 => omega); (case hsq1 => with_unfolding_all rfl))))
  k_with "execs cons" => (k_here; (with_reducible show wpAny _ _ (execs [Stmt.If (Expr.BoolOp _ _ _) _ _ _] _) _ _ _); refine Stop.out ?_)
  exact True.intro
theorem tail_go {fa : Addr} {cv : Value} {t c S Bk kp oA dxA dA oB dxB dB bA bB ndA ndB nS nB nl : Nat} {hshA hshB : Int} {tvA tvB : Tok} {vs sv bv : List Value} {qual : Str} {scope : Scope} {i : Nat} {I : Addr} {itO : Obj} {tl : List Stmt} {R : Flow → Shared → Prop} {ot' odA' odB' obA' obB' : Obj} {its' : Array Value} {nk' : Nat} {kl' led' : List (Addr × Obj)} {k' : Int} {t3' : Tok} {kvA' kvB' kvbA' kvbB' : List (Str × Value)} {sA' sB' : Str → PyData} {m' : Str → Option Value} {h' : Heap} {tk' : Nat}
    (hT : ∀ {ot' odA' odB' obA' obB' : Obj} {its' : Array Value} {nk' : Nat} {kl' led' : List (Addr × Obj)} {k' : Int} {t3' : Tok} {kvA' kvB' kvbA' kvbB' : List (Str × Value)} {sA' sB' : Str → PyData} {m' : Str → Option Value} {h' : Heap} {tk' : Nat}, Fr h₀ L h' m' → News h₀ L h' led' → (I, itO) ∈ led' → (t, ot') ∈ led' → (kp, PySem.W.listOf its' nk') ∈ led' → (dA, odA') ∈ led' → (dB, odB') ∈ led' → (bA, obA') ∈ led' → (bB, obB') ∈ led' → (c, PySem.W.listOf vs.toArray nl) ∈ led' → (S, PySem.W.listOf sv.toArray nS) ∈ led' → (Bk, PySem.W.listOf bv.toArray nB) ∈ led' → (oA, optI dxA) ∈ led' → (dxA, optD hshA tvA dA ndA) ∈ led' → (oB, optI dxB) ∈ led' → (dxB, optD hshB tvB dB ndB) ∈ led' → (∀ p ∈ kl', p ∈ led') → (∀ p ∈ kl', @Ne Nat p.1 I) → LapF w t c S Bk kp dA dB bA bB (i + 1) m' ot' odA' odB' obA' obB' its' kl' k' t3' kvA' kvB' kvbA' kvbB' sA' sB' → wpAny (model PySem.Challenge.rw_nz0133_01.row.prog w) (ktrTop dp un gd qual scope L fa cv [] []) (execs tl (envX qual scope L fa cv [])) R E { s with heap := h', toks := tk' }) (F : Fr h₀ L h' m') (N : News h₀ L h' led') (z0 : (I, itO) ∈ led') (z1 : (t, ot') ∈ led') (z2 : (kp, PySem.W.listOf its' nk') ∈ led') (z3 : (dA, odA') ∈ led') (z4 : (dB, odB') ∈ led') (z5 : (bA, obA') ∈ led') (z6 : (bB, obB') ∈ led') (z7 : (c, PySem.W.listOf vs.toArray nl) ∈ led') (z8 : (S, PySem.W.listOf sv.toArray nS) ∈ led') (z9 : (Bk, PySem.W.listOf bv.toArray nB) ∈ led') (z10 : (oA, optI dxA) ∈ led') (z11 : (dxA, optD hshA tvA dA ndA) ∈ led') (z12 : (oB, optI dxB) ∈ led') (z13 : (dxB, optD hshB tvB dB ndB) ∈ led') (zk : (∀ p ∈ kl', p ∈ led')) (J : (∀ p ∈ kl', @Ne Nat p.1 I)) (D : LapF w t c S Bk kp dA dB bA bB (i + 1) m' ot' odA' odB' obA' obB' its' kl' k' t3' kvA' kvB' kvbA' kvbB' sA' sB') : wpAny (model PySem.Challenge.rw_nz0133_01.row.prog w) (ktrTop dp un gd qual scope L fa cv [] []) (execs tl (envX qual scope L fa cv [])) R E { s with heap := h', toks := tk' } := hT F N z0 z1 z2 z3 z4 z5 z6 z7 z8 z9 z10 z11 z12 z13 zk J D

theorem sayTurnXc : True := by
  k_with "turn end" => (first | ((refine Stop.mk ?_; k_dflt (refine' tail_go ?hTq0 ?Fq0 ?Nq0 ?z0q0 ?z1q0 ?z2q0 ?z3q0 ?z4q0 ?z5q0 ?z6q0 ?z7q0 ?z8q0 ?z9q0 ?z10q0 ?z11q0 ?z12q0 ?z13q0 ?zkq0 ?Jq0 ⟨?mtq0, ?msq0, ?mkpq0, ?mbq0, ?hotq0, ?hk0q0, ?hk1q0, ?h0q0, ?h1q0, ?g0q0, ?g1q0, ?f0q0, ?f1q0, ?e0q0, ?e1q0, ?w0q0, ?w1q0, ?szq0, ?keptq0, ?k1q0, ?k2q0, ?k3q0, ?k4q0, ?k5q0, ?k6q0⟩; (case hTq0 => with_reducible assumption); (case Fq0 => k_asm); (case Nq0 => k_asm); (case z0q0 => k_mem); (case z1q0 => k_mem); (case z2q0 => k_mem); (case z3q0 => k_mem); (case z4q0 => k_mem); (case z5q0 => k_mem); (case z6q0 => k_mem); (case z7q0 => k_mem); (case z8q0 => k_mem); (case z9q0 => k_mem); (case z10q0 => k_mem); (case z11q0 => k_mem); (case z12q0 => k_mem); (case z13q0 => k_mem); (case Jq0 => with_reducible assumption); (case zkq0 => (repeat (first | (with_reducible exact subs_rfl) | refine' subs_tail ?_))); (case mtq0 => with_unfolding_all rfl); (case msq0 => with_unfolding_all rfl); (case mkpq0 => with_unfolding_all rfl); (case mbq0 => with_unfolding_all rfl); (case hotq0 => with_reducible assumption); (case hk0q0 => omega); (case hk1q0 => (rw [Int.natCast_add]; omega)); (case h0q0 => with_reducible assumption); (case h1q0 => with_reducible assumption); (case g0q0 => with_reducible assumption); (case g1q0 => with_reducible assumption); (case f0q0 => with_reducible assumption); (case f1q0 => with_reducible assumption); (case e0q0 => with_reducible assumption); (case e1q0 => with_reducible assumption); (case w0q0 => with_reducible assumption); (case w1q0 => with_reducible assumption); (case szq0 => ((refine Nat.le_succ_of_le ?_); with_reducible assumption)); (case keptq0 => with_reducible assumption); (case k1q0 => with_reducible assumption); (case k2q0 => with_reducible assumption); (case k3q0 => with_reducible assumption); (case k4q0 => with_reducible assumption); (case k5q0 => with_reducible assumption); (case k6q0 => with_reducible assumption)))) | ((refine Stop.mk ?_; k_dflt (refine' tail_go ?hTq1 ?Fq1 ?Nq1 ?z0q1 ?z1q1 ?z2q1 ?z3q1 ?z4q1 ?z5q1 ?z6q1 ?z7q1 ?z8q1 ?z9q1 ?z10q1 ?z11q1 ?z12q1 ?z13q1 ?zkq1 ?Jq1 ⟨?mtq1, ?msq1, ?mkpq1, ?mbq1, ?hotq1, ?hk0q1, ?hk1q1, ?h0q1, ?h1q1, ?g0q1, ?g1q1, ?f0q1, ?f1q1, ?e0q1, ?e1q1, ?w0q1, ?w1q1, ?szq1, ?keptq1, ?k1q1, ?k2q1, ?k3q1, ?k4q1, ?k5q1, ?k6q1⟩; (case hTq1 => with_reducible assumption); (case Fq1 => k_asm); (case Nq1 => k_asm); (case z0q1 => k_mem); (case z1q1 => k_mem); (case z2q1 => k_mem); (case z3q1 => k_mem); (case z4q1 => k_mem); (case z5q1 => k_mem); (case z6q1 => k_mem); (case z7q1 => k_mem); (case z8q1 => k_mem); (case z9q1 => k_mem); (case z10q1 => k_mem); (case z11q1 => k_mem); (case z12q1 => k_mem); (case z13q1 => k_mem); (case Jq1 => with_reducible assumption); (case zkq1 => (repeat (first | (with_reducible exact subs_rfl) | refine' subs_tail ?_))); (case mtq1 => with_unfolding_all rfl); (case msq1 => with_unfolding_all rfl); (case mkpq1 => with_unfolding_all rfl); (case mbq1 => with_unfolding_all rfl); (case hotq1 => with_reducible assumption); (case hk0q1 => omega); (case hk1q1 => (rw [Int.natCast_add]; omega)); (case h0q1 => with_reducible assumption); (case h1q1 => with_reducible assumption); (case g0q1 => with_reducible assumption); (case g1q1 => with_reducible assumption); (case f0q1 => with_reducible assumption); (case f1q1 => with_reducible assumption); (case e0q1 => with_reducible assumption); (case e1q1 => with_reducible assumption); (case w0q1 => with_reducible assumption); (case w1q1 => with_reducible assumption); (case szq1 => ((refine Nat.le_succ_of_le ?_); with_reducible assumption)); (case keptq1 => with_reducible assumption); (case k1q1 => with_reducible assumption); (case k2q1 => with_reducible assumption); (case k3q1 => with_reducible assumption); (case k4q1 => with_reducible assumption); (case k5q1 => with_reducible assumption); (case k6q1 => with_reducible assumption)))))
  exact True.intro
theorem turnX {fa : Addr} {cv : Value} {t c S Bk kp oA dxA dA oB dxB dB bA bB ndA ndB nS nB nl : Nat} {hshA hshB : Int} {tvA tvB : Tok} {vs sv bv : List Value} {ns : List Int} {name qual : Str} {params : Arguments} {body : List Stmt} {scope : Scope} {dV kV doc pm cdv ct oc : Value} {an od : Option Addr} {osl : Array (Option Value)} {m₁ : Str → Option Value} {i : Nat} {tt : Tok} {I : Addr} {itO : Obj} {tk0 : Nat} {hh : Heap} {tl : List Stmt} {R : Flow → Shared → Prop} {r : Int}
    {ot odA odB obA obB : Obj} {its : Array Value} {nk : Nat} {kl : List (Addr × Obj)} {k : Int} {t3 : Tok} {kvA kvB kvbA kvbB : List (Str × Value)} {sA sB : Str → PyData}
    (ho : (hd.heap_39 w.params).lookup 219 = some ⟨oc, od, .func (fnOf name qual params body scope dV kV doc pm an cdv ct), osl⟩)
    (B : Below A₀ h₀ [] h₀) (X : (hd.heap_39 w.params).In h₀) (T : Top hd.view_39 LS mean mg mb h₀)
    (hdp : dp + 100 < recursionLimit) (hu : un + 2000 < cLine) (htl : (loopOf body).drop 3 = tl)
    (F : Fr h₀ L hh (fun y => if y = Str.ofString "turn" then some (.int (0 + (i : Int)) tt) else m₁ y))
    (NL : News h₀ L hh ((I, itO) :: ((t, ot) :: (kp, PySem.W.listOf its nk) :: (dA, odA) :: (dB, odB) :: (bA, obA) :: (bB, obB) :: (c, PySem.W.listOf vs.toArray nl) :: (S, PySem.W.listOf sv.toArray nS) :: (Bk, PySem.W.listOf bv.toArray nB) :: (oA, optI dxA) :: (dxA, optD hshA tvA dA ndA) :: (oB, optI dxB) :: (dxB, optD hshB tvB dB ndB) :: kl)))
    (lI : ∀ p ∈ ((t, ot) :: (kp, PySem.W.listOf its nk) :: (dA, odA) :: (dB, odB) :: (bA, obA) :: (bB, obB) :: (c, PySem.W.listOf vs.toArray nl) :: (S, PySem.W.listOf sv.toArray nS) :: (Bk, PySem.W.listOf bv.toArray nB) :: (oA, optI dxA) :: (dxA, optD hshA tvA dA ndA) :: (oB, optI dxB) :: (dxB, optD hshB tvB dB ndB) :: []), @LT.lt Nat _ p.1 I) (jI : ∀ p ∈ kl, @Ne Nat p.1 I)
    (D : LapF w t c S Bk kp dA dB bA bB i m₁ ot odA odB obA obB its kl k t3 kvA kvB kvbA kvbB sA sB)
    (hi : i < 40) (hI : IntsAre vs ns) (hlen : ns.length < 100)
    (lt : (t == sysModules) = false) (l0 : (dA == sysModules) = false) (l1 : (dB == sysModules) = false) (q0 : (bA == sysModules) = false) (q1 : (bB == sysModules) = false)
    (htc : @Ne Nat t c) (hord : (@LT.lt Nat _ t dxA ∧ @LT.lt Nat _ c dxA ∧ @LT.lt Nat _ t dxB ∧ @LT.lt Nat _ c dxB) ∧ (@LT.lt Nat _ dxA oA ∧ @LT.lt Nat _ oA dA ∧ @LT.lt Nat _ dA S) ∧ (@LT.lt Nat _ dxB oB ∧ @LT.lt Nat _ oB dB ∧ @LT.lt Nat _ dB S) ∧ (@LT.lt Nat _ S kp ∧ @LT.lt Nat _ kp Bk ∧ @LT.lt Nat _ Bk bA ∧ @LT.lt Nat _ Bk bB)) (hAB : (@LT.lt Nat _ dA dxB ∧ @LT.lt Nat _ bA bB) ∨ (@LT.lt Nat _ dB dxA ∧ @LT.lt Nat _ bB bA))
    (hr0 : 0 ≤ r) (hr1 : r < 2) (hsA : sv[r.toNat]? = some (.ref oA)) (hsB : sv[(1 - r).toNat]? = some (.ref oB)) (hbA : bv[r.toNat]? = some (.ref bA)) (hbB : bv[(1 - r).toNat]? = some (.ref bB))
    (hpar : ((0 : Int) + (i : Int)).fmod 2 = r)
    (hT : ∀ {ot' odA' odB' obA' obB' : Obj} {its' : Array Value} {nk' : Nat} {kl' led' : List (Addr × Obj)} {k' : Int} {t3' : Tok} {kvA' kvB' kvbA' kvbB' : List (Str × Value)} {sA' sB' : Str → PyData} {m' : Str → Option Value} {h' : Heap} {tk' : Nat}, Fr h₀ L h' m' → News h₀ L h' led' → (I, itO) ∈ led' → (t, ot') ∈ led' → (kp, PySem.W.listOf its' nk') ∈ led' → (dA, odA') ∈ led' → (dB, odB') ∈ led' → (bA, obA') ∈ led' → (bB, obB') ∈ led' → (c, PySem.W.listOf vs.toArray nl) ∈ led' → (S, PySem.W.listOf sv.toArray nS) ∈ led' → (Bk, PySem.W.listOf bv.toArray nB) ∈ led' → (oA, optI dxA) ∈ led' → (dxA, optD hshA tvA dA ndA) ∈ led' → (oB, optI dxB) ∈ led' → (dxB, optD hshB tvB dB ndB) ∈ led' → (∀ p ∈ kl', p ∈ led') → (∀ p ∈ kl', @Ne Nat p.1 I) → LapF w t c S Bk kp dA dB bA bB (i + 1) m' ot' odA' odB' obA' obB' its' kl' k' t3' kvA' kvB' kvbA' kvbB' sA' sB' → wpAny (model PySem.Challenge.rw_nz0133_01.row.prog w) (ktrTop dp un gd qual scope L fa cv [] []) (execs tl (envX qual scope L fa cv [])) R E { s with heap := h', toks := tk' }) :
    wpAny (model PySem.Challenge.rw_nz0133_01.row.prog w) (ktrTop dp un gd qual scope L fa cv [] []) (execs (loopOf body) (envX qual scope L fa cv [])) R E { s with heap := hh, toks := tk0 } := by
  refine' use_fn ho ?h2 ?k
  case h2 => k_is
  intro eo
  cases eo
  subst htl
  obtain ⟨mt, ms, mk, mb', hot, hk0, hk1, h0, h1, g0, g1, f0, f1, e0, e1, w0, w1, sz, kept, k1, k2, k3, k4, k5, k6⟩ := D
  rw [named4 mt ms mk mb'] at F
  dsimp only [loopOf, List.drop] at hT ⊢
  have lI2 := allLt_of lI
  simp only [AllLt] at lI2
  k_steps
  · refine Stop.mk ?_
    k_dflt (refine' tail_go ?hT ?F ?N ?z0 ?z1 ?z2 ?z3 ?z4 ?z5 ?z6 ?z7 ?z8 ?z9 ?z10 ?z11 ?z12 ?z13 ?zk ?J ⟨?mt, ?ms, ?mkp, ?mb, ?hot, ?hk0, ?hk1, ?h0, ?h1, ?g0, ?g1, ?f0, ?f1, ?e0, ?e1, ?w0, ?w1, ?sz, ?kept, ?k1, ?k2, ?k3, ?k4, ?k5, ?k6⟩; (case hT => with_reducible assumption); (case F => k_asm); (case N => k_asm); (case z0 => k_mem); (case z1 => k_mem); (case z2 => k_mem); (case z3 => k_mem); (case z4 => k_mem); (case z5 => k_mem); (case z6 => k_mem); (case z7 => k_mem); (case z8 => k_mem); (case z9 => k_mem); (case z10 => k_mem); (case z11 => k_mem); (case z12 => k_mem); (case z13 => k_mem); (case J => with_reducible assumption); (case zk => (repeat (first | (with_reducible exact subs_rfl) | refine' subs_tail ?_))); (case mt => with_unfolding_all rfl); (case ms => with_unfolding_all rfl); (case mkp => with_unfolding_all rfl); (case mb => with_unfolding_all rfl); (case hot => with_reducible assumption); (case hk0 => omega); (case hk1 => (rw [Int.natCast_add]; omega)); (case h0 => with_reducible assumption); (case h1 => with_reducible assumption); (case g0 => with_reducible assumption); (case g1 => with_reducible assumption); (case f0 => with_reducible assumption); (case f1 => with_reducible assumption); (case e0 => with_reducible assumption); (case e1 => with_reducible assumption); (case w0 => with_reducible assumption); (case w1 => with_reducible assumption); (case sz => ((refine Nat.le_succ_of_le ?_); with_reducible assumption)); (case kept => with_reducible assumption); (case k1 => with_reducible assumption); (case k2 => with_reducible assumption); (case k3 => with_reducible assumption); (case k4 => with_reducible assumption); (case k5 => with_reducible assumption); (case k6 => with_reducible assumption))
  · refine Stop.mk ?_
    rename (∀ p : Addr × Obj, p ∈ (_ : List (Addr × Obj)) → (@Ne Nat p.1 _ ∧ _)) => ne9; k_dflt (refine' tail_go (kl' := kl ++ ?kk) ?hT ?F ?N ?z0 ?z1 ?z2 ?z3 ?z4 ?z5 ?z6 ?z7 ?z8 ?z9 ?z10 ?z11 ?z12 ?z13 ?zk ?J ⟨?mt, ?ms, ?mkp, ?mb, ?hot, ?hk0, ?hk1, ?h0, ?h1, ?g0, ?g1, ?f0, ?f1, ?e0, ?e1, ?w0, ?w1, ?sz, ?kept, ?k1, ?k2, ?k3, ?k4, ?k5, ?k6⟩; (case hT => with_reducible assumption); (case F => k_asm); (case N => k_asm); (case z0 => k_mem); (case z1 => k_mem); (case z2 => k_mem); (case z3 => k_mem); (case z4 => k_mem); (case z5 => k_mem); (case z6 => k_mem); (case z7 => k_mem); (case z8 => k_mem); (case z9 => k_mem); (case z10 => k_mem); (case z11 => k_mem); (case z12 => k_mem); (case z13 => k_mem); (case zk => (repeat (first | (with_reducible exact subs_rfl) | refine' subs_tail ?_))); (case J => (refine' far_app jI ne9 ?jq; (case jq => k_mem))); (case mt => with_unfolding_all rfl); (case ms => with_unfolding_all rfl); (case mkp => with_unfolding_all rfl); (case mb => with_unfolding_all rfl); (case hot => with_reducible assumption); (case hk0 => omega); (case hk1 => (rw [Int.natCast_add]; omega)); (case h0 => with_reducible assumption); (case h1 => with_reducible assumption); (case g0 => with_reducible assumption); (case g1 => with_reducible assumption); (case f0 => with_reducible assumption); (case f1 => with_reducible assumption); (case e0 => with_reducible assumption); (case e1 => with_reducible assumption); (case w0 => with_reducible assumption); (case w1 => with_reducible assumption); (case sz => (rw [Array.size_push]; exact Nat.succ_le_succ sz)); (case kept => (refine' kept_push kept ?pa ?pb ?pl ?pW ?pP; (case pa => with_reducible assumption); (case pb => with_reducible assumption); (case pl => with_reducible assumption); (case pW => with_reducible assumption); (case pP => with_reducible assumption))); (case k1 => (refine' far_app k1 ne9 ?jk1; (case jk1 => k_mem))); (case k2 => (refine' far_app k2 ne9 ?jk2; (case jk2 => k_mem))); (case k3 => (refine' far_app k3 ne9 ?jk3; (case jk3 => k_mem))); (case k4 => (refine' far_app k4 ne9 ?jk4; (case jk4 => k_mem))); (case k5 => (refine' far_app k5 ne9 ?jk5; (case jk5 => k_mem))); (case k6 => (refine' far_app k6 ne9 ?jk6; (case jk6 => k_mem))))
  all_goals walk_at "turn end"
end
end

section
theorem freshTurnC : True := by
  w_top off
  k_with_none
  exact True.intro
open PySem PySem.W PyProof.Rows PyProof.V PySem.Calls PySem.Spec
set_option maxRecDepth 100000
set_option maxHeartbeats 800000

section
variable {w : World} {mean : ExcName → Option Value} {mg mb : Str → Option Value} {dp un : Nat} {gd : Option (List Code)} {cn : Str} {cs : Scope} {a : Addr} {ccd : Value} {cl : List (Str × Addr)}  {A₀ : Around} {base h₀ : Heap} {L : Addr} {m : Str → Option Value} {led : List (Addr × Obj)} {G : Obj → List (Addr × Obj)} {s : Shared} {Q E : Value → Shared → Prop}
theorem led_swap {t c S Bk kp o0 dx0 d0 o1 dx1 d1 b0 b1 nd0 nd1 nS nB nl : Nat} {hsh0 hsh1 : Int} {tv0 tv1 : Tok} {vs : List Value} {ot ok od0 od1 ob0 ob1 : Obj} {kl : List (Addr × Obj)} : ∀ p ∈ ((t, ot) :: (kp, ok) :: (d1, od1) :: (d0, od0) :: (b1, ob1) :: (b0, ob0) :: (c, PySem.W.listOf vs.toArray nl) :: (S, PySem.W.listOf [Value.ref o0, Value.ref o1].toArray nS) :: (Bk, PySem.W.listOf [Value.ref b0, Value.ref b1].toArray nB) :: (o1, optI dx1) :: (dx1, optD hsh1 tv1 d1 nd1) :: (o0, optI dx0) :: (dx0, optD hsh0 tv0 d0 nd0) :: kl), p ∈ LED t c S Bk kp o0 dx0 d0 o1 dx1 d1 b0 b1 nd0 nd1 nS nB nl hsh0 hsh1 tv0 tv1 vs ot ok od0 od1 ob0 ob1 kl := fun p hp => by
  rcases List.mem_cons.mp hp with rfl | hp; exact memI 0 rfl
  rcases List.mem_cons.mp hp with rfl | hp; exact memI 1 rfl
  rcases List.mem_cons.mp hp with rfl | hp; exact memI 3 rfl
  rcases List.mem_cons.mp hp with rfl | hp; exact memI 2 rfl
  rcases List.mem_cons.mp hp with rfl | hp; exact memI 5 rfl
  rcases List.mem_cons.mp hp with rfl | hp; exact memI 4 rfl
  rcases List.mem_cons.mp hp with rfl | hp; exact memI 6 rfl
  rcases List.mem_cons.mp hp with rfl | hp; exact memI 7 rfl
  rcases List.mem_cons.mp hp with rfl | hp; exact memI 8 rfl
  rcases List.mem_cons.mp hp with rfl | hp; exact memI 11 rfl
  rcases List.mem_cons.mp hp with rfl | hp; exact memI 12 rfl
  rcases List.mem_cons.mp hp with rfl | hp; exact memI 9 rfl
  rcases List.mem_cons.mp hp with rfl | hp; exact memI 10 rfl
  exact LEDtail hp
theorem turn0 {fa : Addr} {cv : Value} {t c S Bk kp o0 dx0 d0 o1 dx1 d1 b0 b1 nd0 nd1 nS nB nl : Nat} {hsh0 hsh1 : Int} {tv0 tv1 : Tok} {vs : List Value} {ns : List Int} {name qual : Str} {params : Arguments} {body : List Stmt} {scope : Scope} {dV kV doc pm cdv ct oc : Value} {an od : Option Addr} {osl : Array (Option Value)} {m₁ : Str → Option Value} {i : Nat} {tt : Tok} {I : Addr} {itO : Obj} {tk0 : Nat} {hh : Heap} {R Qf : Flow → Shared → Prop}
    {ot od0 od1 ob0 ob1 : Obj} {its : Array Value} {nk : Nat} {kl : List (Addr × Obj)} {k : Int} {t3 : Tok} {kv0 kv1 kvb0 kvb1 : List (Str × Value)} {sa sb : Str → PyData}
    (ho : (hd.heap_39 w.params).lookup 219 = some ⟨oc, od, .func (fnOf name qual params body scope dV kV doc pm an cdv ct), osl⟩)
    (B : Below A₀ h₀ [] h₀) (X : (hd.heap_39 w.params).In h₀) (T : Top hd.view_39 LS mean mg mb h₀)
    (hdp : dp + 100 < recursionLimit) (hu : un + 2000 < cLine) (hR : R = TurnR h₀ L { s with heap := hh, toks := tk0 } I itO (Lap w t c S Bk kp o0 dx0 d0 o1 dx1 d1 b0 b1 nd0 nd1 nS nB nl hsh0 hsh1 tv0 tv1 vs (i + 1)) Qf)
    (F : Fr h₀ L hh (fun y => if y = Str.ofString "turn" then some (.int (0 + (i : Int)) tt) else m₁ y))
    (NL : News h₀ L hh ((I, itO) :: LED t c S Bk kp o0 dx0 d0 o1 dx1 d1 b0 b1 nd0 nd1 nS nB nl hsh0 hsh1 tv0 tv1 vs ot (PySem.W.listOf its nk) od0 od1 ob0 ob1 kl))
    (lI : ∀ p ∈ LED t c S Bk kp o0 dx0 d0 o1 dx1 d1 b0 b1 nd0 nd1 nS nB nl hsh0 hsh1 tv0 tv1 vs ot (PySem.W.listOf its nk) od0 od1 ob0 ob1 [], @LT.lt Nat _ p.1 I) (jI : ∀ p ∈ kl, @Ne Nat p.1 I)
    (D : LapF w t c S Bk kp d0 d1 b0 b1 i m₁ ot od0 od1 ob0 ob1 its kl k t3 kv0 kv1 kvb0 kvb1 sa sb)
    (hi : i < 40) (hI : IntsAre vs ns) (hlen : ns.length < 100)
    (lt : (t == sysModules) = false) (l0 : (d0 == sysModules) = false) (l1 : (d1 == sysModules) = false) (q0 : (b0 == sysModules) = false) (q1 : (b1 == sysModules) = false)
    (htc : @Ne Nat t c) (hord : @LT.lt Nat _ t dx0 ∧ @LT.lt Nat _ c dx0 ∧ @LT.lt Nat _ dx0 o0 ∧ @LT.lt Nat _ o0 d0 ∧ @LT.lt Nat _ d0 dx1 ∧ @LT.lt Nat _ dx1 o1 ∧ @LT.lt Nat _ o1 d1 ∧ @LT.lt Nat _ d1 S ∧ @LT.lt Nat _ S kp ∧ @LT.lt Nat _ kp Bk ∧ @LT.lt Nat _ Bk b0 ∧ @LT.lt Nat _ b0 b1)
    (hpar : ((0 : Int) + (i : Int)).fmod 2 = 0) :
    wpAny (model PySem.Challenge.rw_nz0133_01.row.prog w) (ktrTop dp un gd qual scope L fa cv [] []) (execs (loopOf body) (envX qual scope L fa cv [])) R E { s with heap := hh, toks := tk0 } := by
  obtain ⟨a1, a2, a3, a4, a5, a6, a7, a8, a9, a10, a11, a12⟩ := hord
  exact turnX (oA := o0) (oB := o1) (sv := [.ref o0, .ref o1]) (bv := [.ref b0, .ref b1]) (r := 0) ho B X T hdp hu rfl F NL lI jI D hi hI hlen lt l0 l1 q0 q1 htc ⟨⟨by omega, by omega, by omega, by omega⟩, ⟨by omega, by omega, by omega⟩, ⟨by omega, by omega, by omega⟩, ⟨by omega, by omega, by omega, by omega⟩⟩ (.inl ⟨by omega, by omega⟩) (by decide) (by decide) rfl rfl rfl rfl hpar
    (fun F N z0 z1 z2 z3 z4 z5 z6 z7 z8 z9 z10 z11 z12 z13 zk J D => turn_tail ho B X T hdp hu rfl hR F N lI J z0 z1 z2 z3 z4 z5 z6 z7 z8 z9 z10 z11 z12 z13 zk l0 l1 q0 q1 D)
theorem turn1 {fa : Addr} {cv : Value} {t c S Bk kp o0 dx0 d0 o1 dx1 d1 b0 b1 nd0 nd1 nS nB nl : Nat} {hsh0 hsh1 : Int} {tv0 tv1 : Tok} {vs : List Value} {ns : List Int} {name qual : Str} {params : Arguments} {body : List Stmt} {scope : Scope} {dV kV doc pm cdv ct oc : Value} {an od : Option Addr} {osl : Array (Option Value)} {m₁ : Str → Option Value} {i : Nat} {tt : Tok} {I : Addr} {itO : Obj} {tk0 : Nat} {hh : Heap} {R Qf : Flow → Shared → Prop}
    {ot od0 od1 ob0 ob1 : Obj} {its : Array Value} {nk : Nat} {kl : List (Addr × Obj)} {k : Int} {t3 : Tok} {kv0 kv1 kvb0 kvb1 : List (Str × Value)} {sa sb : Str → PyData}
    (ho : (hd.heap_39 w.params).lookup 219 = some ⟨oc, od, .func (fnOf name qual params body scope dV kV doc pm an cdv ct), osl⟩)
    (B : Below A₀ h₀ [] h₀) (X : (hd.heap_39 w.params).In h₀) (T : Top hd.view_39 LS mean mg mb h₀)
    (hdp : dp + 100 < recursionLimit) (hu : un + 2000 < cLine) (hR : R = TurnR h₀ L { s with heap := hh, toks := tk0 } I itO (Lap w t c S Bk kp o0 dx0 d0 o1 dx1 d1 b0 b1 nd0 nd1 nS nB nl hsh0 hsh1 tv0 tv1 vs (i + 1)) Qf)
    (F : Fr h₀ L hh (fun y => if y = Str.ofString "turn" then some (.int (0 + (i : Int)) tt) else m₁ y))
    (NL : News h₀ L hh ((I, itO) :: LED t c S Bk kp o0 dx0 d0 o1 dx1 d1 b0 b1 nd0 nd1 nS nB nl hsh0 hsh1 tv0 tv1 vs ot (PySem.W.listOf its nk) od0 od1 ob0 ob1 kl))
    (lI : ∀ p ∈ LED t c S Bk kp o0 dx0 d0 o1 dx1 d1 b0 b1 nd0 nd1 nS nB nl hsh0 hsh1 tv0 tv1 vs ot (PySem.W.listOf its nk) od0 od1 ob0 ob1 [], @LT.lt Nat _ p.1 I) (jI : ∀ p ∈ kl, @Ne Nat p.1 I)
    (D : LapF w t c S Bk kp d0 d1 b0 b1 i m₁ ot od0 od1 ob0 ob1 its kl k t3 kv0 kv1 kvb0 kvb1 sa sb)
    (hi : i < 40) (hI : IntsAre vs ns) (hlen : ns.length < 100)
    (lt : (t == sysModules) = false) (l0 : (d0 == sysModules) = false) (l1 : (d1 == sysModules) = false) (q0 : (b0 == sysModules) = false) (q1 : (b1 == sysModules) = false)
    (htc : @Ne Nat t c) (hord : @LT.lt Nat _ t dx0 ∧ @LT.lt Nat _ c dx0 ∧ @LT.lt Nat _ dx0 o0 ∧ @LT.lt Nat _ o0 d0 ∧ @LT.lt Nat _ d0 dx1 ∧ @LT.lt Nat _ dx1 o1 ∧ @LT.lt Nat _ o1 d1 ∧ @LT.lt Nat _ d1 S ∧ @LT.lt Nat _ S kp ∧ @LT.lt Nat _ kp Bk ∧ @LT.lt Nat _ Bk b0 ∧ @LT.lt Nat _ b0 b1)
    (hpar : ((0 : Int) + (i : Int)).fmod 2 = 1) :
    wpAny (model PySem.Challenge.rw_nz0133_01.row.prog w) (ktrTop dp un gd qual scope L fa cv [] []) (execs (loopOf body) (envX qual scope L fa cv [])) R E { s with heap := hh, toks := tk0 } := by
  obtain ⟨a1, a2, a3, a4, a5, a6, a7, a8, a9, a10, a11, a12⟩ := hord
  exact turnX (oA := o1) (oB := o0) (sv := [.ref o0, .ref o1]) (bv := [.ref b0, .ref b1]) (r := 1) ho B X T hdp hu rfl F (List.forall_mem_cons.mpr ⟨NL _ (.head _), fun p hp => NL p (.tail _ (led_swap p hp))⟩) (fun p hp => lI p (led_swap p hp)) jI D.swap hi hI hlen lt l1 l0 q1 q0 htc ⟨⟨by omega, by omega, by omega, by omega⟩, ⟨by omega, by omega, by omega⟩, ⟨by omega, by omega, by omega⟩, ⟨by omega, by omega, by omega, by omega⟩⟩ (.inr ⟨by omega, by omega⟩) (by decide) (by decide) rfl rfl rfl rfl hpar
    (fun F N z0 z1 z2 z3 z4 z5 z6 z7 z8 z9 z10 z11 z12 z13 zk J D => turn_tail ho B X T hdp hu rfl hR F N lI J z0 z1 z2 z4 z3 z6 z5 z7 z8 z9 z12 z13 z10 z11 zk l0 l1 q0 q1 D.swap)
end
end

section
theorem freshLawLoop : True := by
  w_top off
  k_with_none
  exact True.intro
open PySem PySem.W PyProof.Rows PyProof.V PySem.Calls PySem.Spec
set_option maxRecDepth 100000
set_option maxHeartbeats 400000
theorem TurnR.imp {h₀ : Heap} {L I : Addr} {s₁ s₂ : Shared} {it : Obj} {P P' : (Str → Option Value) → List (Addr × Obj) → Prop} {Q : Flow → Shared → Prop} (k : ∀ m n, P m n → (∀ p ∈ n, p.1 ≠ I) → P' m n) {fl : Flow} (h : TurnR h₀ L s₁ I it P Q fl s₂) : TurnR h₀ L s₁ I it P' Q fl s₂ := by
  have go : TurnNext h₀ L s₁ I it P s₂ → TurnNext h₀ L s₁ I it P' s₂ := by
    rintro ⟨h', tk, m', news', e, F', N', ne, p⟩
    exact ⟨h', tk, m', news', e, F', N', ne, k _ _ p ne⟩
  cases fl with
  | ret _ => exact h
  | brk => exact h
  | next => exact go h
  | cont => exact go h
theorem parity (i : Nat) : ((0 : Int) + (i : Int)).fmod 2 = 0 ∨ ((0 : Int) + (i : Int)).fmod 2 = 1 := by
  rw [Int.fmod_eq_emod_of_nonneg _ (by decide)]
  omega
theorem LED_objs {t c S Bk kp o0 dx0 d0 o1 dx1 d1 b0 b1 nd0 nd1 nS nB nl : Nat} {hsh0 hsh1 : Int} {tv0 tv1 : Tok} {vs : List Value} {ot ok od0 od1 ob0 ob1 ot' ok' od0' od1' ob0' ob1' : Obj} {kl : List (Addr × Obj)} {I : Addr} (h : ∀ p ∈ LED t c S Bk kp o0 dx0 d0 o1 dx1 d1 b0 b1 nd0 nd1 nS nB nl hsh0 hsh1 tv0 tv1 vs ot ok od0 od1 ob0 ob1 kl, @LT.lt Nat _ p.1 I) : ∀ p ∈ LED t c S Bk kp o0 dx0 d0 o1 dx1 d1 b0 b1 nd0 nd1 nS nB nl hsh0 hsh1 tv0 tv1 vs ot' ok' od0' od1' ob0' ob1' [], @LT.lt Nat _ p.1 I := by
  have h2 := allLt_of h
  simp only [AllLt] at h2
  obtain ⟨a1, a2, a3, a4, a5, a6, a7, a8, a9, a10, a11, a12, a13, _⟩ := h2
  exact List.forall_mem_cons.mpr ⟨a1, List.forall_mem_cons.mpr ⟨a2, List.forall_mem_cons.mpr ⟨a3, List.forall_mem_cons.mpr ⟨a4, List.forall_mem_cons.mpr ⟨a5, List.forall_mem_cons.mpr ⟨a6, List.forall_mem_cons.mpr ⟨a7, List.forall_mem_cons.mpr ⟨a8, List.forall_mem_cons.mpr ⟨a9, List.forall_mem_cons.mpr ⟨a10, List.forall_mem_cons.mpr ⟨a11, List.forall_mem_cons.mpr ⟨a12, List.forall_mem_cons.mpr ⟨a13, List.forall_mem_nil _⟩⟩⟩⟩⟩⟩⟩⟩⟩⟩⟩⟩⟩
section
variable {w : World} {mean : ExcName → Option Value} {mg mb : Str → Option Value} {dp un : Nat} {gd : Option (List Code)} {A₀ : Around} {h₀ : Heap} {L : Addr} {s : Shared} {E : Value → Shared → Prop}
theorem loop_all {fa : Addr} {cv : Value} {t c S Bk kp o0 dx0 d0 o1 dx1 d1 b0 b1 nd0 nd1 nS nB nl : Nat} {hsh0 hsh1 : Int} {tv0 tv1 : Tok} {vs : List Value} {ns : List Int} {name qual : Str} {params : Arguments} {body : List Stmt} {scope : Scope} {dV kV doc pm cdv ct oc : Value} {an od : Option Addr} {osl : Array (Option Value)} {bd : List Stmt} {m : Str → Option Value} {Q : Flow → Shared → Prop}
    {ot od0 od1 ob0 ob1 : Obj} {its : Array Value} {nk : Nat} {kl news : List (Addr × Obj)} {k : Int} {t3 : Tok} {kv0 kv1 kvb0 kvb1 : List (Str × Value)} {sa sb : Str → PyData} {r : Addr} {b₀ : Int} {t₀ u₀ v₀ : Tok}
    (ho : (hd.heap_39 w.params).lookup 219 = some ⟨oc, od, .func (fnOf name qual params body scope dV kV doc pm an cdv ct), osl⟩)
    (B : Below A₀ h₀ [] h₀) (X : (hd.heap_39 w.params).In h₀) (T : Top hd.view_39 LS mean mg mb h₀) (hbd : loopOf body = bd)
    (hdp : dp + 100 < recursionLimit) (hu : un + 2000 < cLine)
    (hr : IsRange s.heap r 0 b₀ 1 t₀ u₀ v₀) (hb0 : 0 ≤ b₀) (hb : b₀ ≤ 40)
    (F : Fr h₀ L s.heap m) (N : News h₀ L s.heap news)
    (D : LapF w t c S Bk kp d0 d1 b0 b1 0 m ot od0 od1 ob0 ob1 its kl k t3 kv0 kv1 kvb0 kvb1 sa sb)
    (z1 : (t, ot) ∈ news) (z2 : (kp, PySem.W.listOf its nk) ∈ news) (z3 : (d0, od0) ∈ news) (z4 : (d1, od1) ∈ news) (z5 : (b0, ob0) ∈ news) (z6 : (b1, ob1) ∈ news) (z7 : (c, PySem.W.listOf vs.toArray nl) ∈ news) (z8 : (S, PySem.W.listOf #[.ref o0, .ref o1] nS) ∈ news) (z9 : (Bk, PySem.W.listOf #[.ref b0, .ref b1] nB) ∈ news) (z10 : (o0, optI dx0) ∈ news) (z11 : (dx0, optD hsh0 tv0 d0 nd0) ∈ news) (z12 : (o1, optI dx1) ∈ news) (z13 : (dx1, optD hsh1 tv1 d1 nd1) ∈ news) (zk : ∀ p ∈ kl, p ∈ news)
    (hI : IntsAre vs ns) (hlen : ns.length < 100)
    (lt : (t == sysModules) = false) (l0 : (d0 == sysModules) = false) (l1 : (d1 == sysModules) = false) (q0 : (b0 == sysModules) = false) (q1 : (b1 == sysModules) = false)
    (htc : @Ne Nat t c) (hord : @LT.lt Nat _ t dx0 ∧ @LT.lt Nat _ c dx0 ∧ @LT.lt Nat _ dx0 o0 ∧ @LT.lt Nat _ o0 d0 ∧ @LT.lt Nat _ d0 dx1 ∧ @LT.lt Nat _ dx1 o1 ∧ @LT.lt Nat _ o1 d1 ∧ @LT.lt Nat _ d1 S ∧ @LT.lt Nat _ S kp ∧ @LT.lt Nat _ kp Bk ∧ @LT.lt Nat _ Bk b0 ∧ @LT.lt Nat _ b0 b1)
    (hz : ∀ i m' news' h tk, i ≤ 40 → Lap w t c S Bk kp o0 dx0 d0 o1 dx1 d1 b0 b1 nd0 nd1 nS nB nl hsh0 hsh1 tv0 tv1 vs i m' news' → Fr h₀ L h m' → News h₀ L h news' → Q .next { s with heap := h, toks := tk }) :
    wpAny (model PySem.Challenge.rw_nz0133_01.row.prog w) (ktrTop dp un gd qual scope L fa cv [] []) (pyIter (.ref r)) (fun it s₂ => LoopAtV PySem.Challenge.rw_nz0133_01.row.prog w (ktrTop dp un gd qual scope L fa cv [] []) h₀ (envX qual scope L fa cv []) (Str.ofString "turn") bd Q E it s₂) E s := by
  subst hbd
  have N0 : News h₀ L s.heap (LED t c S Bk kp o0 dx0 d0 o1 dx1 d1 b0 b1 nd0 nd1 nS nB nl hsh0 hsh1 tv0 tv1 vs ot (PySem.W.listOf its nk) od0 od1 ob0 ob1 kl) := fun p hp => N p ((subs_cons z1 (subs_cons z2 (subs_cons z3 (subs_cons z4 (subs_cons z5 (subs_cons z6 (subs_cons z7 (subs_cons z8 (subs_cons z9 (subs_cons z10 (subs_cons z11 (subs_cons z12 (subs_cons z13 zk))))))))))))) p hp)
  refine iter_rangeUnr (n := b₀.toNat) rfl hr (small_one (by decide) (by decide) (by omega) (by omega)) ?_ F N0 fun I lI => ?_
  · rw [rangeSize_nat]; rw [Int.sub_zero]
  refine range_ind (fun i m' news' => Lap w t c S Bk kp o0 dx0 d0 o1 dx1 d1 b0 b1 nd0 nd1 nS nB nl hsh0 hsh1 tv0 tv1 vs i m' news' ∧ ∀ p ∈ news', p.1 ≠ I) (fun m' news' p h tk => hz b₀.toNat m' news' h tk (by omega) p.1) ?_ b₀.toNat 0 m _ (Nat.zero_add _) ⟨⟨ot, od0, od1, ob0, ob1, its, nk, kl, k, t3, kv0, kv1, kvb0, kvb1, sa, sb, rfl, D⟩, fun p hp => Nat.ne_of_lt (lI p hp)⟩
  rintro i m₁ news₁ hi ⟨⟨ot', od0', od1', ob0', ob1', its', nk', kl', k', t3', kv0', kv1', kvb0', kvb1', sa', sb', rfl, D'⟩, ne⟩ tt h tk it hc F' N'
  have lI1 : ∀ p ∈ LED t c S Bk kp o0 dx0 d0 o1 dx1 d1 b0 b1 nd0 nd1 nS nB nl hsh0 hsh1 tv0 tv1 vs ot' (PySem.W.listOf its' nk') od0' od1' ob0' ob1' [], @LT.lt Nat _ p.1 I := LED_objs lI
  have jI : ∀ p ∈ kl', @Ne Nat p.1 I := fun p hp => ne p (LEDtail hp)
  have hi' : i < 40 := by omega
  rcases parity i with hp | hp
  · exact wpAny_mono (turn0 ho B X T hdp hu rfl F' N' lI1 jI D' hi' hI hlen lt l0 l1 q0 q1 htc hord hp) (fun fl s₂ x => x.imp fun _ _ p q => ⟨p, q⟩) fun _ _ z => z
  · exact wpAny_mono (turn1 ho B X T hdp hu rfl F' N' lI1 jI D' hi' hI hlen lt l0 l1 q0 q1 htc hord hp) (fun fl s₂ x => x.imp fun _ _ p q => ⟨p, q⟩) fun _ _ z => z
end
end

section
theorem freshCompN : True := by
  w_top off
  k_with_none
  exact True.intro
open PySem PySem.W PyProof.Rows PyProof.V PySem.Calls PySem.Spec PyProof.Rows.LCg PyProof.Rows.LCt
set_option maxRecDepth 100000
set_option maxHeartbeats 400000
section
variable {prog : Program} {w : World} {A : Around} {s : Shared} {h₀ : Heap} {L : Addr} {m : Str → Option Value} {env : Env}
/-- a comprehension with a test that no item passes -/
theorem comp_none {ct elt : Expr} {x : Str} {scope : Scope} {cl : List (Str × Addr)} {S : List (Addr × Obj) → Prop} {P : Nat → Value → Prop} {Fin : List Value → List (Addr × Obj) → Prop} {base : List (Addr × Obj)}
    (hb : ∀ nw, (∀ p ∈ base, p ∈ nw) → S nw)
    (hs : ∀ i v led C oC m₂ h tk (E' : Value → Shared → Prop), P i v → NsObj oC m₂ → m₂ x = some v → Fr h₀ L h m → News h₀ L h led → (C, oC) ∈ led → (∀ p ∈ base, p ∈ led) →
      wpAny (model prog w) A (isTrue ct (compEnvC scope cl C env) (eval ct (compEnvC scope cl C env))) (fun ok s' => ok = false ∧ ∃ h' tk', s' = { s with heap := h', toks := tk' } ∧ Fr h₀ L h' m ∧ News h₀ L h' led) E' { s with heap := h, toks := tk })
    (hz : Fin [] base) : ∀ n i, CompRestT prog w A h₀ L m env ct elt x scope cl s S P Fin n i [] base := by
  intro n
  induction n with
  | zero => exact fun i => hz
  | succ n ih =>
    intro i v I oI C oC D m₂ h tk E' hv hC hm F N off ne
    refine wpAny_mono (hs i v _ C oC m₂ h tk E' hv hC hm F N (.tail _ (.head _)) (fun p hp => .tail _ (.tail _ (.tail _ hp)))) (fun ok s₂ z => ?_) fun _ _ z => z
    obtain ⟨rfl, h', tk', rfl, F', N'⟩ := z
    rw [if_neg Bool.false_ne_true]
    exact CompEnd.intro F' N' base (fun _ hp => hp) off (hb _ fun _ hp => hp) (ih (i + 1))
end
end

section
theorem freshEndL : True := by
  w_top off
  k_with_none
  exact True.intro
open PySem PySem.W PyProof.Rows PyProof.V PySem.Calls PySem.Spec PyProof.Rows.LCg PyProof.Rows.LCt
set_option maxRecDepth 100000
set_option maxHeartbeats 80000000
local macro_rules | `(tactic| ktr_unf) => `(tactic| first | k_asm | exact rfl | k_mem | ktr_room | ktr_units | k_updF | omega)
section
variable {w : World} {mean : ExcName → Option Value} {mg mb : Str → Option Value} {dp un : Nat} {gd : Option (List Code)} {A₀ : Around} {h₀ : Heap} {L : Addr} {s : Shared} {Q E : Value → Shared → Prop}
theorem subs_right {α : Type} {a b c : List α} (h : ∀ p ∈ a, p ∈ b) : ∀ p ∈ a, p ∈ c ++ b := fun p hp => List.mem_append_right _ (h p hp)
theorem News.right {h₀ h : Heap} {L : Addr} {a b : List (Addr × Obj)} (N : News h₀ L h (a ++ b)) : News h₀ L h b := fun p hp => N p (List.mem_append_right _ hp)
noncomputable def endOf (l : List Stmt) : List Stmt := l.drop 4
local macro_rules | `(tactic| k_mem) => `(tactic| ((refine' List.mem_append_right _ ?_); k_mem))
theorem sayEndLa : True := by
  k_with_none
  k_with "call ref" => (k_here; (with_reducible show wpAny _ _ (call (Value.ref 193) _) _ _ _); first | (k_dflt (refine' plain_call ?Bq0 ?Fq0 ?Xq0 ?Tq0 ?hkq0 ?hdq0 ?huq0 ?NLq0 ?h3q0 ?hodq0 ?hfq0 ?loq0 ?Wq0 ?_; (case Bq0 => assumption); (case Fq0 => k_asm); (case Xq0 => assumption); (case Tq0 => assumption); (case hkq0 => exact rfl); (case hdq0 => omega); (case huq0 => (have hcL9 := cLine_is; omega)); (case NLq0 => k_asm); (case h3q0 => k_mem); (case hodq0 => assumption); (case hfq0 => assumption); (case loq0 => assumption); (case Wq0 => assumption)); intro l9 new9 h9 tk9 P9 F9 N9 ne9; (try dsimp only); (try k_fold)) | (k_dflt (refine' plain_call ?Bq1 ?Fq1 ?Xq1 ?Tq1 ?hkq1 ?hdq1 ?huq1 ?NLq1 ?h3q1 ?hodq1 ?hfq1 ?loq1 ?Wq1 ?_; (case Bq1 => assumption); (case Fq1 => k_asm); (case Xq1 => assumption); (case Tq1 => assumption); (case hkq1 => exact rfl); (case hdq1 => omega); (case huq1 => (have hcL9 := cLine_is; omega)); (case NLq1 => k_asm); (case h3q1 => k_mem); (case hodq1 => assumption); (case hfq1 => assumption); (case loq1 => assumption); (case Wq1 => assumption)); intro l9 new9 h9 tk9 P9 F9 N9 ne9; (try dsimp only); (try k_fold)))
  k_with "compareOp NotEq ref ref" => (k_here; first | (k_dflt (refine' ne_plain ?Nq0 ?P1q0 ?P2q0 ?s1q0 ?s2q0 ?uq0 ?_; (case Nq0 => k_asm); (case P1q0 => assumption); (case P2q0 => assumption); (case s1q0 => exact fun p hp => List.mem_append_left _ hp); (case s2q0 => ((refine subs_right ?_); assumption)); (case uq0 => ktr_units))) | (k_dflt (refine' ne_plain ?Nq1 ?P1q1 ?P2q1 ?s1q1 ?s2q1 ?uq1 ?_; (case Nq1 => k_asm); (case P1q1 => assumption); (case P2q1 => assumption); (case s1q1 => exact fun p hp => List.mem_append_left _ hp); (case s2q1 => ((refine subs_right ?_); assumption)); (case uq1 => ktr_units))))
  k_with "eval ListComp" => (k_here; k_dflt (refine LCt.ListComp_T (F₀ := by k_asm) (by with_unfolding_all rfl) (by decide) (by rfl) (by decide) (by rfl) ?_))
  k_with "CompSrcT" => (k_here; first | (k_dflt (refine' CompSrcT.ledger ?hhq0 ?Fq0 ?Nq0 ?hmq0 ?hzq0 ?_; (case hhq0 => exact rfl); (case Fq0 => k_asm); (case Nq0 => k_asm); (case hmq0 => k_mem); (case hzq0 => (rw [PySem.sizeLine_eq]; omega))); intro g') | (k_dflt (refine' CompSrcT.ledger ?hhq1 ?Fq1 ?Nq1 ?hmq1 ?hzq1 ?_; (case hhq1 => exact rfl); (case Fq1 => k_asm); (case Nq1 => k_asm); (case hmq1 => k_mem); (case hzq1 => (rw [PySem.sizeLine_eq]; omega))); intro g'))
  exact True.intro
theorem law_end {fa : Addr} {cv : Value} {t c S Bk kp o0 dx0 d0 o1 dx1 d1 b0 b1 nd0 nd1 nS nB nl : Nat} {hsh0 hsh1 : Int} {tv0 tv1 : Tok} {vs : List Value} {name qual : Str} {params : Arguments} {body : List Stmt} {scope : Scope} {dV kV doc pm cdv ct oc : Value} {an od : Option Addr} {osl : Array (Option Value)} {en : List Stmt} {m₁ : Str → Option Value} {i : Nat} {tk0 : Nat} {hh : Heap} {Qf : Flow → Shared → Prop}
    {ot od0 od1 ob0 ob1 : Obj} {its : Array Value} {nk : Nat} {kl : List (Addr × Obj)} {k : Int} {t3 : Tok} {kv0 kv1 kvb0 kvb1 : List (Str × Value)} {sa sb : Str → PyData}
    (ho : (hd.heap_39 w.params).lookup 219 = some ⟨oc, od, .func (fnOf name qual params body scope dV kV doc pm an cdv ct), osl⟩)
    (B : Below A₀ h₀ [] h₀) (X : (hd.heap_39 w.params).In h₀) (T : Top hd.view_39 LS mean mg mb h₀) (hen : endOf body = en)
    (hdp : dp + 100 < recursionLimit) (hu : un + 2000 < cLine)
    (F : Fr h₀ L hh m₁) (NL : News h₀ L hh (LED t c S Bk kp o0 dx0 d0 o1 dx1 d1 b0 b1 nd0 nd1 nS nB nl hsh0 hsh1 tv0 tv1 vs ot (PySem.W.listOf its nk) od0 od1 ob0 ob1 kl))
    (D : LapF w t c S Bk kp d0 d1 b0 b1 i m₁ ot od0 od1 ob0 ob1 its kl k t3 kv0 kv1 kvb0 kvb1 sa sb)
    (hi : i ≤ 40)
    (hret : ∀ h' tk' m', Fr h₀ L h' m' → Qf (.ret (.bool true)) { s with heap := h', toks := tk' }) :
    wpAny (model PySem.Challenge.rw_nz0133_01.row.prog w) (ktrTop dp un gd qual scope L fa cv [] []) (execs en (envX qual scope L fa cv [])) Qf E { s with heap := hh, toks := tk0 } := by
  subst hen
  refine' use_fn ho ?h2 ?k
  case h2 => k_is
  intro eo
  cases eo
  obtain ⟨mt, ms, mk, mb', hot, hk0, hk1, h0, h1, g0, g1, f0, f1, e0, e1, w0, w1, sz, kept, k1, k2, k3, k4, k5, k6⟩ := D
  rw [named4 mt ms mk mb'] at F
  dsimp only [endOf, List.drop]
  dsimp only [LED] at NL
  k_steps
  refine' comp_none ?hb ?hs ?hf _ _
  case hb => exact fun nw hn => .inr ⟨_, hn _ (.tail _ (.head _)), rfl, _, rfl⟩
  case hs =>
    intro i9 v9 led9 C9 oC9 m9 h9 tk9 E9 hv9 hC9 hm9 F9 N9 mC9 mB9
    obtain ⟨T9, f9, l9, fo9, kvf9, st9, rfl, p1, p2, a9, b9, c9, W9, P9⟩ := kept v9 (Array.mem_of_getElem? hv9)
    have mT := mB9 _ (LEDtail p1)
    have mf := mB9 _ (LEDtail p2)
    have mk9 : ∀ p ∈ kl, p ∈ led9 := fun p hp => mB9 p (LEDtail hp)
    clear kept p1 p2 k1 k2 k3 k4 k5 k6 mB9 hret NL F hot h0 h1 g0 g1 f0 f1 e0 e1 w0 w1 hv9
    k_steps
    · assumption
    · exact News.right (by assumption)
  case hf =>
    intro D9 h9 tk9 F9 N9 o9
    clear kept k1 k2 k3 k4 k5 k6 NL F hot h0 h1 g0 g1 f0 f1 e0 e1 w0 w1 o9
    k_steps
    exact hret _ _ _ (by assumption)
end
end

section
theorem freshDictP : True := by
  w_top off
  k_with_none
  exact True.intro
open PySem PySem.W PyProof.Rows PyProof.V PySem.Calls PySem.Spec
set_option maxRecDepth 100000
set_option maxHeartbeats 400000
open PySem.Sem (wp)
theorem keys_miss : typeLookup (.type "list") "keys" = pure none := am_miss_of_fast (by kernel_rfl)
section
variable {prog : Program} {w : World} {A : Around} {E : Value → Shared → Prop} {s : Shared}
theorem no_keys {a : Addr} {o : Obj} {xs : Array Value} {k : Nat} {Q : Option Value → Shared → Prop}
    (hx : s.heap.get? a = some o) (hc : o.cls = .type "list") (hdat : o.data = .seq xs k) (hd : o.dict = none) (hA : A.handled = none)
    (h : ∀ h' tk', (∀ b ob, s.heap.get? b = some ob → h'.get? b = some ob) → Q none { s with heap := h', toks := tk' }) : wpAny (model prog w) A (getAttr? (.ref a) "keys") Q E s := by
  obtain ⟨c, dct, dat, sl⟩ := o
  simp only at hc hdat hd
  subst hc hdat hd
  obtain ⟨hp, g, d, tk, os⟩ := s
  have hT : ∀ tk', (⟨hp, g, d, tk', os⟩ : Shared).TypeIs (.ref a) "list" := fun _ => ⟨_, hx, rfl⟩
  have f1 := sub_AttributeError
  have f3 := F.slot_list_getattribute.lookup
  have f4 := F.slot_list_getattribute.bind (.ref a)
  have f5 := am_list_getattr_none
  unfold getAttr? getAttrBy? getAttrBy
  repeat (any_goals (first | assumption | exact hT _ | ((with_reducible show wpAny _ _ (call (Value.builtin "list.__getattribute__") _ _) _ _ _); refine call_meets F.slot_list_getattribute (hT _) am_entry_list_getattribute (F.args_list_getattribute_2 _ _) (meets_getattribute_miss_list a xs k sl "keys" _ keys_miss (by decide +kernel)) ⟨hx, hA, fun h' tk' e hx' => ?_⟩) | wp_step))
  obtain ⟨t', u', he⟩ := hx'.there
  show wpAny _ _ (getattributeRaised _ _ _ _ _ _ _) _ _ _
  unfold getattributeRaised
  repeat (any_goals (first | assumption | wp_step))
  exact h _ _ hx'.keeps
end
end

section
theorem freshDictQ : True := by
  w_top off
  k_with_none
  exact True.intro
open PySem PySem.W PyProof.Rows PyProof.V PySem.Calls PySem.Spec
set_option maxRecDepth 100000
set_option maxHeartbeats 400000
theorem entry_loop : entryFor table "dict.update.loop" = some Builtin.«dict.update.loop» := entryFor_of_tree (by kernel_rfl)
/-- values that are tuples of a text and a value -/
noncomputable def PairsAt (hb : Heap) : List Value → List (Str × Value) → Prop
  | [], [] => True
  | v :: vs, p :: ps => (∃ (t : Addr) (o : Obj) (n : Nat) (tk : Tok), v = .ref t ∧ hb.get? t = some o ∧ o.cls = .type "tuple" ∧ o.data = .seq #[.str p.1 tk, p.2] n) ∧ PairsAt hb vs ps
  | _, _ => False
theorem PairsAt.length {hb : Heap} : ∀ {vs : List Value} {ps : List (Str × Value)}, PairsAt hb vs ps → vs.length = ps.length
  | [], [], _ => rfl
  | [], _ :: _, h => h.elim
  | _ :: _, [], h => h.elim
  | _ :: _, _ :: _, h => congrArg (· + 1) (PairsAt.length h.2)
theorem PairsAt.at {hb : Heap} : ∀ {vs : List Value} {ps : List (Str × Value)} {i : Nat} {v : Value}, PairsAt hb vs ps → vs[i]? = some v → ∃ p, ps[i]? = some p ∧ ∃ (t : Addr) (o : Obj) (n : Nat) (tk : Tok), v = .ref t ∧ hb.get? t = some o ∧ o.cls = .type "tuple" ∧ o.data = .seq #[.str p.1 tk, p.2] n
  | [], [], _, _, _, h => by simp at h
  | [], _ :: _, _, _, h, _ => h.elim
  | _ :: _, [], _, _, h, _ => h.elim
  | v :: vs, p :: ps, 0, u, h, e => by
    simp only [List.getElem?_cons_zero, Option.some.injEq] at e
    subst e
    exact ⟨p, by simp, h.1⟩
  | v :: vs, p :: ps, i + 1, u, h, e => by
    simp only [List.getElem?_cons_succ] at e ⊢
    exact PairsAt.at h.2 e
section
variable {prog : Program} {w : World} {A : Around} {E : Value → Shared → Prop} {s : Shared} {R : Result → Shared → Prop} {hb : Heap} {l d I : Addr} {vs : List Value} {ps : List (Str × Value)}
theorem upd_loop (hh : A.handled = none) (hl : hb.IsList l vs.toArray) (hd0 : hb.get? d = none) (hI0 : hb.get? I = none) (hdI : d ≠ I) (hps : PairsAt hb vs ps) (hz : ps.length ≤ 100) :
    ∀ k i t (acc : List (Str × Value)) (s : Shared), i + k = vs.length → acc.length ≤ i → (∀ b o, hb.get? b = some o → s.heap.get? b = some o) → s.heap.IsListIter I l i → s.heap.DictOf (PySem.strKind prog w) d acc →
      (∀ h' tk, (∀ b o, hb.get? b = some o → h'.get? b = some o) → h'.DictOf (PySem.strKind prog w) d (merged acc (ps.drop i)) → R (.ok (.ret .none)) { s with heap := h', toks := tk }) →
      codeAny (model prog w) A (.builtin "dict.update.loop" ⟨[.ref d, .ref I, .int i t, .none], []⟩) R s := by
  intro k
  induction k with
  | zero =>
    intro i t acc s e ha hk hit hD hR
    refine codeAny_builtin entry_loop ?_
    unfold Builtin.«dict.update.loop»
    have W := Walks.list (prog := prog) (w := w) (A := (A.under (.builtin "dict.update.loop" ⟨[.ref d, .ref I, .int i t, .none], []⟩))) hh I l (fun q => by obtain ⟨o, ho, _⟩ := hl; rw [q, hI0] at ho; cases ho) vs.toArray
    have hlen : vs.toArray.size = i := by simpa using e.symm
    refine wpAny_bind (W.done _ _ _ ⟨hlen ▸ hit, hl.at fun o e => hk _ _ e⟩ fun h' tk hkk => ?_)
    refine wpAny_bind (wpAny_pure (wpAny_pure ?_))
    refine hR h' tk (fun b o e => hkk b o (fun q => by rw [List.mem_singleton.mp q, hI0] at e; cases e) (hk b o e)) ?_
    have hdr : ps.drop i = [] := List.drop_eq_nil_of_le (by rw [← hps.length]; omega)
    rw [hdr]
    obtain ⟨o, es, ep, ho, r⟩ := hD
    exact ⟨o, es, ep, hkk d o (by simpa using hdI) ho, r⟩
  | succ k ih =>
    intro i t acc s e ha hk hit hD hR
    refine codeAny_builtin entry_loop ?_
    unfold Builtin.«dict.update.loop»
    have W := Walks.list (prog := prog) (w := w) (A := (A.under (.builtin "dict.update.loop" ⟨[.ref d, .ref I, .int i t, .none], []⟩))) hh I l (fun q => by obtain ⟨o, ho, _⟩ := hl; rw [q, hI0] at ho; cases ho) vs.toArray
    refine wpAny_bind (W.item i _ _ _ (by simp; omega) ⟨hit, hl.at fun o e => hk _ _ e⟩ fun v h' tk hv hst hkk => ?_)
    have hv' : vs[i]? = some v := by simpa using hv
    obtain ⟨p, hp, ta, o, n, tk9, rfl, hto, hc, hdat⟩ := hps.at hv'
    have hk' : ∀ b o, hb.get? b = some o → h'.get? b = some o := fun b o e => hkk b o (fun q => by rw [List.mem_singleton.mp q, hI0] at e; cases e) (hk b o e)
    have hD' : h'.DictOf (PySem.strKind prog w) d acc := let ⟨o, es, ep, ho, r⟩ := hD; ⟨o, es, ep, hkk d o (by simpa using hdI) ho, r⟩
    refine wpAny_bind (wpAny_holding (wpAny_bind (wpAny_tryCatch ?_)))
    unfold Builtin.Dict.pairItems
    refine wpAny_bind (wpAny_typeOf (T := "tuple") ⟨o, hk' _ _ hto, hc⟩ ?_)
    rw [if_pos (by decide)]
    refine wpAny_bind (wpAny_seqItems (hk' _ _ hto) hdat (wpAny_pure ?_))
    show wpAny _ _ (holding [Value.str p.1 tk9, p.2] (dictSet d (.str p.1 tk9) p.2)) _ _ _
    refine wpAny_holding (wpAny_dictSet_pairs (k := p.1) (strKind_is _ _ _ _) hD' (fun h'' hD'' hs => ?_) (by rw [sizeLine_eq]; have := hps.length; omega))
    refine wpAny_pure ⟨plainId_quiet (by decide +kernel) _, ?_⟩
    have hlp : i < ps.length := by rw [← hps.length]; omega
    refine ih (i + 1) 0 (stored acc p.1 p.2) _ (by omega) ?_ (fun b o e => ?_) ?_ hD'' fun h3 tk3 hk3 hD3 => ?_
    · have := stored_length_le acc p.1 p.2; omega
    · exact hs.extBut b o (fun q => by rw [q, hd0] at e; cases e) (hk' b o e)
    · exact hst.1.at fun o e => hs.extBut I o (Ne.symm hdI) e
    · refine hR h3 tk3 hk3 ?_
      have hdr : ps.drop i = p :: ps.drop (i + 1) := by
        rw [List.drop_eq_getElem_cons hlp]
        congr 1
        exact Option.some.inj ((List.getElem?_eq_getElem hlp).symm.trans hp)
      rw [hdr]
      exact hD3
theorem call_pairs {n : Nat} {Q : Value → Shared → Prop} (hh : A.handled = none) (hl : s.heap.get? l = some (PySem.W.listOf vs.toArray n)) (hps : PairsAt s.heap vs ps) (hz : ps.length ≤ 100) (hnd : (ps.map (·.1)).Nodup)
    (h : ∀ h' tk, (∀ b o, s.heap.get? b = some o → h'.get? b = some o) → h'.DictOf (PySem.strKind prog w) s.heap.objs.size ps → Q (.ref s.heap.objs.size) { s with heap := h', toks := tk }) :
    wpAny (model prog w) A (call (.type "dict") [.ref l]) Q E s := by
  refine callType_codes (Q₁ := fun obj s₁ => obj = .ref s.heap.objs.size ∧ s₁ = { s with heap := s.heap.push { cls := .type "dict", data := .dict #[] } }) F.kt_called_dict (F.kt_typeCall_dict_1 _) F.entry_dict_init (kt_code_dict_new _ ⟨rfl, rfl⟩) ?_
  rintro obj s₁ ⟨rfl, rfl⟩
  have hnew : (s.heap.push { cls := .type "dict", data := .dict #[] }).DictOf (PySem.strKind prog w) s.heap.objs.size [] := Heap.DictOf.new s.heap
  have up : ∀ b o, s.heap.get? b = some o → (s.heap.push { cls := .type "dict", data := .dict #[] }).get? b = some o := fun b o e => Heap.get?_push_of_some _ e
  have ll : l < s.heap.objs.size := Heap.lt_size hl
  have hT : ({ s with heap := s.heap.push { cls := .type "dict", data := .dict #[] } } : Shared).TypeIs (.ref l) "list" := ⟨_, up _ _ hl, rfl⟩
  refine ⟨hnew.typeIs, F.args_dict_init_2 _ _, ?_⟩
  unfold Builtin.«dict.__init__»
  refine wpAny_bind ?_
  unfold Builtin.Dict.selfAndRest
  refine wpAny_bind (wpAny_notOrdered_dict hnew.typeIs ?_)
  show wpAny _ _ (pure (s.heap.objs.size, [Value.ref l])) _ _ _
  refine wpAny_pure ?_
  show wpAny _ _ (Builtin.Dict.updateFrom "dict.__init__" s.heap.objs.size (.ref l) [] .none) _ _ _
  unfold Builtin.Dict.updateFrom
  refine wpAny_bind (wpAny_typeOf hT ?_)
  rw [if_pos (by decide)]
  refine wpAny_bind (no_keys (up _ _ hl) rfl rfl rfl (show A.in1.in1.handled = none from hh) fun h1 tk1 k1 => ?_)
  rw [if_pos (by rfl)]
  refine wpAny_bind (wpAny_rule ?_)
  have k0 : ∀ b o, s.heap.get? b = some o → h1.get? b = some o := fun b o e => k1 b o (up b o e)
  have hl1 : h1.IsList l vs.toArray := ⟨_, k0 _ _ hl, rfl, n, rfl⟩
  have hd1 : h1.DictOf (PySem.strKind prog w) s.heap.objs.size [] := let ⟨o, es, ep, ho, r⟩ := hnew; ⟨o, es, ep, k1 _ _ ho, r⟩
  have big : s.heap.objs.size < h1.objs.size := by obtain ⟨o, es, ep, ho, r⟩ := hd1; exact Heap.lt_size ho
  refine wpAny_bind (wpAny_pyIter_list hl1 ?_)
  refine wpAny_pure ⟨plainId_quiet (by decide +kernel) _, ?_⟩
  refine upd_loop (hb := s.heap) (l := l) (vs := vs) (ps := ps) (show A.in1.handled = none from hh) ⟨_, hl, rfl, n, rfl⟩ (Heap.get?_none_of_le (Nat.le_refl _)) (Heap.get?_none_of_le (Nat.le_of_lt big)) (Nat.ne_of_lt big) hps hz vs.length 0 0 [] _ (by omega) (Nat.le_refl _) ?_ ?_ ?_ ?_
  · exact fun b o e => Heap.get?_push_of_some _ (k0 b o e)
  · exact ⟨_, Heap.get?_push_size _ rfl, rfl, rfl⟩
  · exact let ⟨o, es, ep, ho, r⟩ := hd1; ⟨o, es, ep, Heap.get?_push_of_some _ ho, r⟩
  · intro h' tk kk hD
    rw [List.drop_zero, merged_nil_of_nodup ps hnd] at hD
    exact ⟨rfl, h h' tk kk hD⟩
theorem dict_pairs {h₀ : Heap} {L : Addr} {m : Str → Option Value} {news : List (Addr × Obj)} {n : Nat} {Q : Value → Shared → Prop} (F : Fr h₀ L s.heap m) (N : News h₀ L s.heap news) (hbig : sysModules < h₀.objs.size) (hh : A.handled = none) (hl : (l, PySem.W.listOf vs.toArray n) ∈ news) (hps : PairsAt s.heap vs ps) (hz : ps.length ≤ 100) (hnd : (ps.map (·.1)).Nodup)
    (k : ∀ d h' o tk, Fr h₀ L h' m → News h₀ L h' ((d, o) :: news) → (∀ p ∈ news, @LT.lt Nat _ p.1 d) → (d == sysModules) = false → o.IsDictOf (PySem.strKind prog w) ps → Q (.ref d) { s with heap := h', toks := tk }) :
    wpAny (model prog w) A (call (.type "dict") [.ref l]) Q E s := by
  refine call_pairs hh (N.get hl) hps hz hnd fun h' tk kk hD => ?_
  obtain ⟨o', ho', hd'⟩ := Heap.dictOf_iff.mp hD
  refine k _ h' o' tk (F.keeps kk) (List.forall_mem_cons.mpr ⟨⟨ho', Nat.ne_of_gt F.ns.lt, next_is_new F⟩, N.grown kk⟩) (fun p hp => Heap.lt_size (N p hp).1) (F.notModules hbig) hd'
end
end

section
theorem freshCompO : True := by
  w_top off
  k_with_none
  exact True.intro
open PySem PySem.W PyProof.Rows PyProof.V PySem.Calls PySem.Spec PyProof.Rows.LCg
set_option maxRecDepth 100000
set_option maxHeartbeats 400000
noncomputable def PairF (led : List (Addr × Obj)) (nl : List Str) (vl : Str → Tok → Value) (j : Nat) (v : Value) : Prop := ∃ x, nl[j]? = some x ∧ ∃ (a : Addr) (t u : Tok), v = .ref a ∧ (a, tupO [.str x t, vl x u]) ∈ led
theorem PairF.mono {led led' : List (Addr × Obj)} {nl : List Str} {vl : Str → Tok → Value} {i : Nat} {v : Value} (h : PairF led nl vl i v) (hs : ∀ p ∈ led, p ∈ led') : PairF led' nl vl i v :=
  let ⟨x, e, a, t, u, e', m⟩ := h; ⟨x, e, a, t, u, e', hs _ m⟩
theorem pairs_of {h₀ h : Heap} {L : Addr} {led : List (Addr × Obj)} {vl : Str → Tok → Value} {dv : Str → PyData} (N : News h₀ L h led) : ∀ (nl : List Str) (ys : List Value), (∀ x ∈ nl, ∀ u, Flat (vl x u) (dv x)) → ys.length = nl.length → (∀ j (hj : j < ys.length), PairF led nl vl j ys[j]) →
    ∃ ps, PairsAt h ys ps ∧ ps.map (·.1) = nl ∧ FlatPairs PyData.str ps (nl.map fun y => (PyData.str y, dv y))
  | [], [], _, _, _ => ⟨[], trivial, rfl, .nil⟩
  | [], _ :: _, _, e, _ => by simp at e
  | _ :: _, [], _, e, _ => by simp at e
  | x :: nl, y :: ys, hf, e, k => by
    obtain ⟨x', ex, a, t, u, ey, m⟩ := k 0 (Nat.zero_lt_succ _)
    simp only [List.getElem?_cons_zero, Option.some.injEq] at ex
    subst ex
    simp only [List.getElem_cons_zero] at ey
    subst ey
    obtain ⟨ps, h1, h2, h3⟩ := pairs_of N nl ys (fun z hz => hf z (.tail _ hz)) (by simpa using e) (fun j hj => by
      have := k (j + 1) (Nat.succ_lt_succ hj)
      obtain ⟨x', ex, r⟩ := this
      simp only [List.getElem?_cons_succ] at ex
      exact ⟨x', ex, by simpa using r⟩)
    exact ⟨(x, vl x u) :: ps, ⟨⟨a, _, _, t, rfl, N.get m, rfl, rfl⟩, h1⟩, by simp [h2], .cons (hf x (.head _) u) h3⟩
section
variable {prog : Program} {w : World} {A : Around} {s : Shared} {h₀ : Heap} {L : Addr} {m : Str → Option Value} {env : Env}
theorem comp_objs {elt : Expr} {x : Str} {scope : Scope} {cl : List (Str × Addr)} {S : List (Addr × Obj) → Prop} {Pv : Nat → Value → Prop} {Fin : List Value → List (Addr × Obj) → Prop} {base : List (Addr × Obj)} {n : Nat} (nl : List Str) (vl : Str → Tok → Value) (hn : n = nl.length)
    (hb : ∀ nw, (∀ p ∈ base, p ∈ nw) → S nw) (hp : ∀ i v, Pv i v → i < n → ∃ x t, nl[i]? = some x ∧ v = Value.str x t)
    (hs : ∀ y t led C oC m₂ h tk (E' : Value → Shared → Prop), y ∈ nl → NsObj oC m₂ → m₂ x = some (.str y t) → Fr h₀ L h m → News h₀ L h led → (C, oC) ∈ led →
      wpAny (model prog w) A (eval elt (compEnvC scope cl C env)) (fun r s₂ => ∃ (a : Addr) (t u : Tok) (h' : Heap) (tk' : Nat), r = .ref a ∧ s₂ = { s with heap := h', toks := tk' } ∧ Fr h₀ L h' m ∧ News h₀ L h' ((a, tupO [.str y t, vl y u]) :: led) ∧ (∀ p ∈ led, @LT.lt Nat _ p.1 a)) E' { s with heap := h, toks := tk })
    (hz : ∀ ys tups, ys.length = nl.length → (∀ j (h : j < ys.length), PairF tups nl vl j ys[j]) → (∀ q ∈ tups, ∀ p ∈ base, @LT.lt Nat _ p.1 q.1) → Fin ys (tups ++ base)) :
    CompRest prog w A h₀ L m env elt x scope cl s S Pv Fin n 0 [] base := by
  subst hn
  refine comp_ind nl.length (fun i ys news => ∃ tups, news = tups ++ base ∧ ys.length = i ∧ (∀ j (h : j < ys.length), PairF tups nl vl j ys[j]) ∧ (∀ q ∈ tups, ∀ p ∈ base, @LT.lt Nat _ p.1 q.1)) ?_ ?_ nl.length 0 [] base (Nat.zero_add _) ⟨[], rfl, rfl, fun j h => absurd h (Nat.not_lt_zero _), fun _ h => nomatch h⟩
  · rintro ys news ⟨tups, rfl, e, k, l⟩
    exact hz ys tups e k l
  · rintro i ys news hi ⟨tups, rfl, e, k, l⟩ v I oI C oC D m₂ h tk E' hv hC hm F N off ne
    obtain ⟨y, t, hy, rfl⟩ := hp i v hv hi
    have inb : ∀ p ∈ base, p ∈ (I, oI) :: (C, oC) :: (D, lst ys) :: (tups ++ base) := fun p hp => .tail _ (.tail _ (.tail _ (List.mem_append_right _ hp)))
    refine wpAny_mono (hs y t _ C oC m₂ h tk E' (List.mem_of_getElem? hy) hC hm F N (.tail _ (.head _))) (fun r s₂ z => ?_) fun _ _ z => z
    obtain ⟨a, t, u, h', tk', rfl, rfl, F', N', l'⟩ := z
    refine CompEnd.intro F' N' ((a, tupO [.str y t, vl y u]) :: (tups ++ base)) ?_ ⟨⟨?_, ?_, ?_⟩, off⟩ (hb _ fun p hp => .tail _ (List.mem_append_right _ hp)) ⟨(a, tupO [.str y t, vl y u]) :: tups, rfl, by simp [e], ?_, ?_⟩
    · intro p hp
      rcases List.mem_cons.mp hp with rfl | hp
      · exact .tail _ (.head _)
      rcases List.mem_cons.mp hp with rfl | hp
      · exact .tail _ (.tail _ (.head _))
      rcases List.mem_cons.mp hp with rfl | hp
      · exact .tail _ (.tail _ (.tail _ (.head _)))
      rcases List.mem_cons.mp hp with rfl | hp
      · exact .head _
      · exact .tail _ (.tail _ (.tail _ (.tail _ hp)))
    · exact Nat.ne_of_gt (l' _ (.head _))
    · exact Nat.ne_of_gt (l' _ (.tail _ (.head _)))
    · exact Nat.ne_of_gt (l' _ (.tail _ (.tail _ (.head _))))
    · intro j hj
      by_cases hji : j < ys.length
      · rw [List.getElem_append_left hji]
        exact (k j hji).mono fun p hp => .tail _ hp
      · have : j = i := by rw [List.length_append, List.length_singleton] at hj; omega
        subst this
        rw [List.getElem_append_right (by omega)]
        simp only [e, Nat.sub_self, List.getElem_cons_zero]
        exact ⟨y, hy, a, t, u, rfl, .head _⟩
    · intro q hq p hp
      rcases List.mem_cons.mp hq with rfl | hq
      · exact l' p (inb p hp)
      · exact l q hq p hp
theorem fin_objs {Q : Value → Shared → Prop} {nl : List Str} {vl : Str → Tok → Value} {dv : Str → PyData} {ys : List Value} {tups base : List (Addr × Obj)} (hv : ∀ x ∈ nl, ∀ u, Flat (vl x u) (dv x)) (hz : nl.length ≤ 100) (hnd : nl.Nodup) (e : ys.length = nl.length) (kk : ∀ j (h : j < ys.length), PairF tups nl vl j ys[j])
    (h : ∀ D h tk ps, PairsAt h ys ps → ps.length ≤ 100 → (ps.map (·.1)).Nodup → FlatPairs PyData.str ps (nl.map fun y => (PyData.str y, dv y)) → Fr h₀ L h m → News h₀ L h ((D, lst ys) :: base) → (∀ p ∈ base, @Ne Nat p.1 D) → Q (.ref D) { s with heap := h, toks := tk }) :
    FinE h₀ L m s Q ys (tups ++ base) := by
  intro D h' tk F N o1
  have offs : ∀ {l : List (Addr × Obj)}, Off1 D l → ∀ p ∈ l, @Ne Nat p.1 D := by
    intro l
    induction l with
    | nil => intro _ p hp; nomatch hp
    | cons q r ih =>
      intro x p hp
      rcases List.mem_cons.mp hp with rfl | hp
      · exact x.1
      · exact ih x.2 p hp
  obtain ⟨ps, h1, h2, h3⟩ := pairs_of (N := fun p hp => N p (.tail _ (List.mem_append_left _ hp))) nl ys hv e kk
  refine h D h' tk ps h1 (by rw [← h1.length, e]; exact hz) (by rw [h2]; exact hnd) h3 F (List.forall_mem_cons.mpr ⟨N _ (.head _), fun p hp => N p (.tail _ (List.mem_append_right _ hp))⟩) fun p hp => offs o1 p (List.mem_append_right _ hp)
end
theorem st0_flags : ∀ x ∈ flagsL, st0 x = .bool (x == Str.ofString "produce-models") := fun x hx => by
  unfold st0
  by_cases e : x = Str.ofString "produce-models"
  · rw [if_pos e, e, beq_self_eq_true]
  · rw [if_neg e, if_pos (List.contains_iff_mem.mpr hx), beq_eq_false_iff_ne.mpr e]
theorem st0_counts : ∀ x ∈ countsL, st0 x = .int 0 := fun x hx => by
  have : ∀ x ∈ countsL, x ≠ Str.ofString "produce-models" ∧ flagsL.contains x = false := by decide +kernel
  obtain ⟨h1, h2⟩ := this x hx
  unfold st0
  rw [if_neg h1, h2]; rfl
theorem strs_at : ∀ {vs : List Value} {xs : List Str} {i : Nat} {v : Value}, StrsAre vs xs → vs[i]? = some v → ∃ x t, xs[i]? = some x ∧ v = Value.str x t
  | [], _, _, _, .nil, h => by simp at h
  | _ :: _, _, 0, _, .cons x t r, h => by simp at h; exact ⟨x, t, by simp, h.symm⟩
  | _ :: _, _, i + 1, v, .cons x t r, h => by
    simp only [List.getElem?_cons_succ] at h ⊢
    exact strs_at r h
end

section
theorem freshLaw : True := by
  w_top off
  k_with_none
  exact True.intro
open PySem PySem.W PyProof.Rows PyProof.V PySem.Calls PySem.Spec
set_option maxRecDepth 100000
set_option maxHeartbeats 80000000
local macro_rules | `(tactic| ktr_unf) => `(tactic| first | k_asm | exact rfl | k_mem | ktr_room | ktr_units | k_updF | omega)
theorem sayLawa : True := by
  k_with_none
  k_with "ktr_enter" => (first | ((refine' code_defN ?k1q0 ?k2q0 ?k3q0 ?k4q0 ?kMq0 ?k5q0 ?kAq0 ?kFq0 ?kKq0 ?k6q0 ?k7q0 ?k8q0 ?k9q0 ?kBq0 ?_ ?c2q0 ?c3q0 ?c4q0 ?c5q0; (case kAq0 => exact rfl); (case kFq0 => exact rfl); (case kKq0 => assumption); (case k1q0 => k_asm); (case k2q0 => k_asm); (case k3q0 => k_asm); (case k4q0 => k_asm); (case kMq0 => assumption); (case k5q0 => k_asm); (case k6q0 => k_is); (case k7q0 => k_is); (case k8q0 => ktr_room); (case k9q0 => exact BindsTo.of_eq rfl); (case c5q0 => decide); (case kBq0 => exact locs rfl); (case c2q0 => exact rfl); (case c3q0 => exact rfl); (case c4q0 => exact rfl); k_whole; intro g' L' h' FG' F' N' B' X' T' fr' l1 l2; (try k_lt l1); (try dsimp only); (try k_fold))) | ((refine' code_defN ?k1q1 ?k2q1 ?k3q1 ?k4q1 ?kMq1 ?k5q1 ?kAq1 ?kFq1 ?kKq1 ?k6q1 ?k7q1 ?k8q1 ?k9q1 ?kBq1 ?_ ?c2q1 ?c3q1 ?c4q1 ?c5q1; (case kAq1 => exact rfl); (case kFq1 => exact rfl); (case kKq1 => assumption); (case k1q1 => k_asm); (case k2q1 => k_asm); (case k3q1 => k_asm); (case k4q1 => k_asm); (case kMq1 => assumption); (case k5q1 => k_asm); (case k6q1 => k_is); (case k7q1 => k_is); (case k8q1 => ktr_room); (case k9q1 => exact BindsTo.of_eq rfl); (case c5q1 => decide); (case kBq1 => exact locs rfl); (case c2q1 => exact rfl); (case c3q1 => exact rfl); (case c4q1 => exact rfl); k_whole; intro g' L' h' FG' F' N' B' X' T' fr' l1 l2; (try k_lt l1); (try dsimp only); (try k_fold))))
  k_with "call ref" => (k_here; (with_reducible show wpAny _ _ (call (Value.ref 142) _ _) _ _ _); first | (k_dflt (refine' mk_call ?Bq0 ?Fq0 ?Xq0 ?Tq0 ?hkq0 ?hdq0 ?huq0 ?NLq0 ?_; (case Bq0 => k_asm); (case Fq0 => k_asm); (case Xq0 => k_asm); (case Tq0 => k_asm); (case hkq0 => exact rfl); (case hdq0 => decide); (case huq0 => ktr_units); (case NLq0 => k_asm); k_whole); intro o9 dx9 d9 hsh9 tv9 nd9 od9 kv9 h9 tk9 F9 N9 hod9 hf9 lo9 l1 l2 l3; (try k_lt l1); (try dsimp only); (try k_fold)) | (k_dflt (refine' mk_call ?Bq1 ?Fq1 ?Xq1 ?Tq1 ?hkq1 ?hdq1 ?huq1 ?NLq1 ?_; (case Bq1 => k_asm); (case Fq1 => k_asm); (case Xq1 => k_asm); (case Tq1 => k_asm); (case hkq1 => exact rfl); (case hdq1 => decide); (case huq1 => ktr_units); (case NLq1 => k_asm); k_whole); intro o9 dx9 d9 hsh9 tv9 nd9 od9 kv9 h9 tk9 F9 N9 hod9 hf9 lo9 l1 l2 l3; (try k_lt l1); (try dsimp only); (try k_fold)))
  exact True.intro
theorem flags_list {w : World} {h : Heap} (X : (hd.heap_39 w.params).In h) : ∃ vs : List Value, h.IsList 147 vs.toArray ∧ StrsAre vs flagsL ∧ vs.toArray.size = flagsL.length ∧ vs.toArray.size ≤ sizeLine := by
  obtain ⟨vs, h1, h2⟩ := kt_words_in X flags_in
  have e := h2.length
  exact ⟨vs, h1, h2, by simpa using e, by rw [List.size_toArray, e, sizeLine_eq]; decide⟩
theorem counts_list {w : World} {h : Heap} (X : (hd.heap_39 w.params).In h) : ∃ vs : List Value, h.IsList 148 vs.toArray ∧ StrsAre vs countsL ∧ vs.toArray.size = countsL.length ∧ vs.toArray.size ≤ sizeLine := by
  obtain ⟨vs, h1, h2⟩ := kt_words_in X counts_in
  have e := h2.length
  exact ⟨vs, h1, h2, by simpa using e, by rw [List.size_toArray, e, sizeLine_eq]; decide⟩
theorem flatF : ∀ x ∈ flagsL, ∀ u : Tok, Flat ((fun x (_ : Tok) => Value.bool (x == Str.ofString "produce-models")) x u) (st0 x) := fun x hx u => by rw [st0_flags x hx]; exact Flat.bool _
theorem flatC : ∀ x ∈ countsL, ∀ u : Tok, Flat ((fun (_ : Str) u => Value.int 0 u) x u) (st0 x) := fun x hx u => by rw [st0_counts x hx]; exact Flat.int _ _
theorem kSrc {vs : List Value} {ss : List Str} {n : Nat} (sa : StrsAre vs ss) : ∀ i v, vs.toArray[i]? = some v → i < n → ∃ x t, ss[i]? = some x ∧ v = Value.str x t := fun i v hv _ => strs_at sa (by simpa using hv)
theorem sayLawb : True := by
  k_with "eval ListComp" => (k_here; (first | (with_reducible show wpAny _ _ (eval (Expr.ListComp _ [⟨_, Expr.Name (Str.ofString "_law_flags") _, _, _⟩] _ _) _) _ _ _) | (with_reducible show wpAny _ _ (eval (Expr.ListComp _ [⟨_, Expr.Name (Str.ofString "_law_counts") _, _, _⟩] _ _) _) _ _ _)); k_dflt (refine LCg.ListComp_U (F₀ := by k_asm) (by with_unfolding_all rfl) (by decide) (by rfl) (by decide) (by rfl) ?_))
  exact True.intro
theorem dict_drop {prog : Program} {w : World} {A : Around} {E : Value → Shared → Prop} {s : Shared} {l : Addr} {vs : List Value} {ps : List (Str × Value)} {h₀ : Heap} {L : Addr} {m : Str → Option Value} {base : List (Addr × Obj)} {n : Nat} {Q : Value → Shared → Prop} (F : Fr h₀ L s.heap m) (N : News h₀ L s.heap ((l, PySem.W.listOf vs.toArray n) :: base)) (hbig : sysModules < h₀.objs.size) (hh : A.handled = none) (hps : PairsAt s.heap vs ps) (hz : ps.length ≤ 100) (hnd : (ps.map (·.1)).Nodup)
    (k : ∀ d h' o tk, Fr h₀ L h' m → News h₀ L h' ((d, o) :: base) → (∀ p ∈ base, @LT.lt Nat _ p.1 d) → (d == sysModules) = false → o.IsDictOf (PySem.strKind prog w) ps → Q (.ref d) { s with heap := h', toks := tk }) :
    wpAny (model prog w) A (call (.type "dict") [.ref l]) Q E s :=
  dict_pairs F N hbig hh (.head _) hps hz hnd fun d h' o tk F' N' l1 lo ho => k d h' o tk F' (List.forall_mem_cons.mpr ⟨N' _ (.head _), fun p hp => N' p (.tail _ (.tail _ hp))⟩) (fun p hp => l1 p (.tail _ hp)) lo ho
theorem sayLawc : True := by
  k_with "call type:dict" => (k_here; (with_reducible show wpAny _ _ (call (Value.type "dict") [Value.ref _]) _ _ _); first | (k_dflt (refine' dict_drop ?Fq0 ?Nq0 ?hbigq0 ?hhq0 ?hpsq0 ?hzq0 ?hndq0 ?_; (case Fq0 => k_asm); (case Nq0 => k_asm); (case hbigq0 => exact modules_low (Top.nolimit (by k_asm))); (case hhq0 => exact rfl); (case hpsq0 => assumption); (case hzq0 => assumption); (case hndq0 => assumption)); intro d9 h9 o9 tk9 F9 N9 l9 lo9 od9; (try k_lt l9)) | (k_dflt (refine' dict_drop ?Fq1 ?Nq1 ?hbigq1 ?hhq1 ?hpsq1 ?hzq1 ?hndq1 ?_; (case Fq1 => k_asm); (case Nq1 => k_asm); (case hbigq1 => exact modules_low (Top.nolimit (by k_asm))); (case hhq1 => exact rfl); (case hpsq1 => assumption); (case hzq1 => assumption); (case hndq1 => assumption)); intro d9 h9 o9 tk9 F9 N9 l9 lo9 od9; (try k_lt l9)))
  k_with "CompSrc" => (k_here; (with_reducible show LCg.CompSrc _ _ _ _ _ _ _ _ _ _ _ _ (Value.ref 147) _); first | (k_dflt (refine' LCg.CompSrc.base ?hhq0 ?Fq0 ?Nq0 ?hlq0 ?zq0 ?_; (case hhq0 => exact rfl); (case Fq0 => k_asm); (case Nq0 => k_asm); (case hlq0 => assumption); (case zq0 => assumption); intro g'; refine' comp_objs flagsL (fun x _ => Value.bool (x == Str.ofString "produce-models")) ?hnq0 ?hbq0 ?hpq0 ?hsq0 ?_; (case hnq0 => assumption); (case hbq0 => exact fun _ _ => Or.inl (by assumption)); (case hpq0 => exact kSrc (by assumption)); (case hsq0 => (intro y9 t9 led9 C9 oC9 m9 h9 tk9 E9 hy9 hC9 hm9 F9 N9 mC9; k_steps; (any_goals (refine (show Fr _ _ _ _ from ?_); assumption)); (any_goals (refine (show News _ _ _ _ from ?_); assumption)); (rename News _ _ _ led9 => N8); exact Heap.lt_size (N8 _ (by assumption)).1; (all_goals exact (0 : Tok)))); (intro ys9 tups9 e9 kk9 ll9; refine' fin_objs (dv := st0) flatF (by decide) (by decide +kernel) e9 kk9 ?_; intro D9 h9 tk9 ps9 hps9 hpz9 hpn9 hpf9 F9 N9 ne9; clear ne9))) | (k_dflt (refine' LCg.CompSrc.base ?hhq1 ?Fq1 ?Nq1 ?hlq1 ?zq1 ?_; (case hhq1 => exact rfl); (case Fq1 => k_asm); (case Nq1 => k_asm); (case hlq1 => assumption); (case zq1 => assumption); intro g'; refine' comp_objs flagsL (fun x _ => Value.bool (x == Str.ofString "produce-models")) ?hnq1 ?hbq1 ?hpq1 ?hsq1 ?_; (case hnq1 => assumption); (case hbq1 => exact fun _ _ => Or.inl (by assumption)); (case hpq1 => exact kSrc (by assumption)); (case hsq1 => (intro y9 t9 led9 C9 oC9 m9 h9 tk9 E9 hy9 hC9 hm9 F9 N9 mC9; k_steps; (any_goals (refine (show Fr _ _ _ _ from ?_); assumption)); (any_goals (refine (show News _ _ _ _ from ?_); assumption)); (rename News _ _ _ led9 => N8); exact Heap.lt_size (N8 _ (by assumption)).1; (all_goals exact (0 : Tok)))); (intro ys9 tups9 e9 kk9 ll9; refine' fin_objs (dv := st0) flatF (by decide) (by decide +kernel) e9 kk9 ?_; intro D9 h9 tk9 ps9 hps9 hpz9 hpn9 hpf9 F9 N9 ne9; clear ne9))))
  k_with "CompSrc" => (k_here; (with_reducible show LCg.CompSrc _ _ _ _ _ _ _ _ _ _ _ _ (Value.ref 148) _); first | (k_dflt (refine' LCg.CompSrc.base ?hhq0 ?Fq0 ?Nq0 ?hlq0 ?zq0 ?_; (case hhq0 => exact rfl); (case Fq0 => k_asm); (case Nq0 => k_asm); (case hlq0 => assumption); (case zq0 => assumption); intro g'; refine' comp_objs countsL (fun _ u => Value.int 0 u) ?hnq0 ?hbq0 ?hpq0 ?hsq0 ?_; (case hnq0 => assumption); (case hbq0 => exact fun _ _ => Or.inl (by assumption)); (case hpq0 => exact kSrc (by assumption)); (case hsq0 => (intro y9 t9 led9 C9 oC9 m9 h9 tk9 E9 hy9 hC9 hm9 F9 N9 mC9; k_steps; (any_goals (refine (show Fr _ _ _ _ from ?_); assumption)); (any_goals (refine (show News _ _ _ _ from ?_); assumption)); (rename News _ _ _ led9 => N8); exact Heap.lt_size (N8 _ (by assumption)).1; (all_goals exact (0 : Tok)))); (intro ys9 tups9 e9 kk9 ll9; refine' fin_objs (dv := st0) flatC (by decide) (by decide +kernel) e9 kk9 ?_; intro D9 h9 tk9 ps9 hps9 hpz9 hpn9 hpf9 F9 N9 ne9; clear ne9))) | (k_dflt (refine' LCg.CompSrc.base ?hhq1 ?Fq1 ?Nq1 ?hlq1 ?zq1 ?_; (case hhq1 => exact rfl); (case Fq1 => k_asm); (case Nq1 => k_asm); (case hlq1 => assumption); (case zq1 => assumption); intro g'; refine' comp_objs countsL (fun _ u => Value.int 0 u) ?hnq1 ?hbq1 ?hpq1 ?hsq1 ?_; (case hnq1 => assumption); (case hbq1 => exact fun _ _ => Or.inl (by assumption)); (case hpq1 => exact kSrc (by assumption)); (case hsq1 => (intro y9 t9 led9 C9 oC9 m9 h9 tk9 E9 hy9 hC9 hm9 F9 N9 mC9; k_steps; (any_goals (refine (show Fr _ _ _ _ from ?_); assumption)); (any_goals (refine (show News _ _ _ _ from ?_); assumption)); (rename News _ _ _ led9 => N8); exact Heap.lt_size (N8 _ (by assumption)).1; (all_goals exact (0 : Tok)))); (intro ys9 tups9 e9 kk9 ll9; refine' fin_objs (dv := st0) flatC (by decide) (by decide +kernel) e9 kk9 ?_; intro D9 h9 tk9 ps9 hps9 hpz9 hpn9 hpf9 F9 N9 ne9; clear ne9))))
  exact True.intro
theorem merge_is : ktMergeD (flagsL.map fun y => (PyData.str y, st0 y)) (countsL.map fun y => (PyData.str y, st0 y)) = stD st0 := by kernel_rfl
theorem upd_tab {w : World} {A : Around} {E : Value → Shared → Prop} {s : Shared} {h₀ : Heap} {L d d2 : Addr} {m : Str → Option Value} {news : List (Addr × Obj)} {g : Obj → List (Addr × Obj)} {o o2 : Obj} {ps1 ps2 : List (Str × Value)} {Q : Value → Shared → Prop}
    (F : Fr h₀ L s.heap m) (N : News h₀ L s.heap news) (U : UpdF d o news g) (hd : o.IsDictOf (PySem.strKind PySem.Challenge.rw_nz0133_01.row.prog w) ps1) (hf : FlatPairs PyData.str ps1 (flagsL.map fun y => (PyData.str y, st0 y)))
    (hm : (d2, o2) ∈ news) (lo : (d2 == sysModules) = false) (hd2 : o2.IsDictOf (PySem.strKind PySem.Challenge.rw_nz0133_01.row.prog w) ps2) (hf2 : FlatPairs PyData.str ps2 (countsL.map fun y => (PyData.str y, st0 y))) (hne : @Ne Nat d d2)
    (h : ∀ h' o' kvs', Fr h₀ L h' m → News h₀ L h' (g o') → o'.IsDictOf (PySem.strKind PySem.Challenge.rw_nz0133_01.row.prog w) kvs' → FlatPairs PyData.str kvs' (stD st0) → Q .none { s with heap := h' }) :
    wpAny (model PySem.Challenge.rw_nz0133_01.row.prog w) A (call (.builtin "dict.update") [.ref d, .ref d2]) Q E s :=
  kt_update_K PyProof.V.same_str F N U hd hf (TabAt.ofNews N hm lo hd2 hf2) hne (fun h' o' kvs' F' N' x y => h h' o' kvs' F' N' x (by rw [← merge_is]; exact y)) (by rw [sizeLine_eq]; decide)



theorem sayLawd : True := by
  k_with "call builtin:dict.update" => (k_here; (with_reducible show wpAny _ _ (call (Value.builtin "dict.update") [Value.ref _, Value.ref _]) _ _ _); first | (k_dflt (refine' upd_tab ?Fq0 ?Nq0 ?Uq0 ?dq0 ?fq0 ?mq0 ?loq0 ?d2q0 ?f2q0 ?nq0 ?_; (case Fq0 => k_asm); (case Nq0 => k_asm); (case Uq0 => k_updF); (case dq0 => assumption); (case fq0 => assumption); (case mq0 => k_mem); (case loq0 => assumption); (case d2q0 => assumption); (case f2q0 => assumption); (case nq0 => omega)); intro h' o' kvs' F' N' hd' hf'; try dsimp only at N') | (k_dflt (refine' upd_tab ?Fq1 ?Nq1 ?Uq1 ?dq1 ?fq1 ?mq1 ?loq1 ?d2q1 ?f2q1 ?nq1 ?_; (case Fq1 => k_asm); (case Nq1 => k_asm); (case Uq1 => k_updF); (case dq1 => assumption); (case fq1 => assumption); (case mq1 => k_mem); (case loq1 => assumption); (case d2q1 => assumption); (case f2q1 => assumption); (case nq1 => omega)); intro h' o' kvs' F' N' hd' hf'; try dsimp only at N'))
  k_with "pyIter ref" => (k_here; (with_reducible show wpAny _ _ (pyIter (Value.ref _)) (fun it s₂ => LoopAtV _ _ _ _ _ (Str.ofString "turn") _ _ _ it s₂) _ _); refine Stop.out ?_)
  exact True.intro
theorem law1 : PySem.Challenge.rw_nz0133_01.Holds := hd (by
  k_go0
  all_goals try k_fold
  rename (hd.heap_39 _).In _ => KX
  obtain ⟨vF, hlF, saF, hnF, hzF⟩ := flags_list KX
  obtain ⟨vC, hlC, saC, hnC, hzC⟩ := counts_list KX
  k_steps
  refine Stop.mk ?_
  k_dflt (refine' loop_all ?ho ?B ?X ?T ?hbd ?hdp ?hu ?hr ?hb0 ?hb ?F ?N ⟨?mt, ?ms, ?mkp, ?mb, ?hot, ?hk0, ?hk1, ?h0, ?h1, ?g0, ?g1, ?f0, ?f1, ?e0, ?e1, ?w0, ?w1, ?sz, ?kept, ?k1, ?k2, ?k3, ?k4, ?k5, ?k6⟩ ?z1 ?z2 ?z3 ?z4 ?z5 ?z6 ?z7 ?z8 ?z9 ?z10 ?z11 ?z12 ?z13 ?zk ?hI ?hlen ?lt ?l0 ?l1 ?q0 ?q1 ?htc ?hord ?_)
  case F => k_asm
  case N => k_asm
  case mt => with_unfolding_all rfl
  case ms => with_unfolding_all rfl
  case mkp => with_unfolding_all rfl
  case mb => with_unfolding_all rfl
  case B => k_asm
  case X => assumption
  case T => k_asm
  case ho => k_is
  case hbd => exact rfl
  case hr => assumption
  case z1 => k_mem
  case z2 => k_mem
  case z8 => k_mem
  case z9 => k_mem
  case z10 => k_mem
  case z11 => k_mem
  case z12 => k_mem
  case z13 => k_mem
  case z3 => k_mem
  case z4 => k_mem
  case z5 => k_mem
  case z6 => k_mem
  case zk => exact List.forall_mem_nil _
  case hot => (rename Obj.IsDictOf _ _ (strPairs _) => hot9; exact hot9)
  case z7 => k_mem
  case h0 => assumption
  case h1 => assumption
  case g0 => assumption
  case g1 => assumption
  case f0 => assumption
  case f1 => assumption
  case e0 => assumption
  case e1 => assumption
  case w0 => exact st0_wt
  case w1 => exact st0_wt
  case hk0 => decide
  case hk1 => decide
  case sz => exact Nat.le_refl _
  case kept => (intro v9 hv9; simp at hv9)
  case k1 => exact List.forall_mem_nil _
  case k2 => exact List.forall_mem_nil _
  case k3 => exact List.forall_mem_nil _
  case k4 => exact List.forall_mem_nil _
  case k5 => exact List.forall_mem_nil _
  case k6 => exact List.forall_mem_nil _
  case hI => assumption
  case hlen => (simp only [List.length_map]; omega)
  case lt => assumption
  case l0 => assumption
  case l1 => assumption
  case q0 => assumption
  case q1 => assumption
  case htc => (first | omega | (refine And.right (?_ : _ ∧ _); assumption))
  case hord => (refine ⟨?_, ?_, ?_, ?_, ?_, ?_, ?_, ?_, ?_, ?_, ?_, ?_⟩ <;> omega)
  case hdp => decide
  case hu => ktr_units
  case hb0 => (rw [Int.fdiv_eq_ediv_of_nonneg _ (by decide)]; omega)
  case hb => (rw [Int.fdiv_eq_ediv_of_nonneg _ (by decide)]; omega)
  intro i9 m9 news9 h9 tk9 hi9 La9 F9 N9
  obtain ⟨ot9, od09, od19, ob09, ob19, its9, nk9, kl9, k9, t39, kv09, kv19, kvb09, kvb19, sa9, sb9, rfl, D9⟩ := La9
  dsimp only
  k_dflt (refine' law_end ?ho ?B ?X ?T ?hen ?hdp ?hu F9 N9 D9 hi9 ?_)
  case B => k_asm
  case X => assumption
  case T => k_asm
  case ho => k_is
  case hen => exact rfl
  case hdp => decide
  case hu => ktr_units
  intro h8 tk8 m8 F8
  (try dsimp only)
  k_steps)
end

end Mine

set_option maxRecDepth 100000 in
set_option maxHeartbeats 8000000 in
theorem PySem.Challenge.cw_nz0133_01_holds : PySem.Challenge.rw_nz0133_01.Holds := by
  exact Mine.law1
