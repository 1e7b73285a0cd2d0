import PyProof.Rows.All
import Wide.All
import OpenK.AllK
import Wide.FinOn
import HandS.ForMost
import HandS.More
import HandS.Defaults
import HandS.Star
import HandS.ClsMeth
import HandS.Property
import HandS.Walk
import HandS.Exc
import HandS.Wide
import HandS.WideBits
import HandS.DictComp
import HandS.Conv
import HandS.Strs
import HandS.SetFor
import HandS.IsInst
import HandS.SortInts
import HandS.Style
import HandS.TryOnly
import HandS.ExcOwn
import HandS.WordsExc
import HandS.MakeKwOnly
import HandS.HeadNt
import KE.KSuper
import HandS.Head2
import HandS.HeadEnd
import HandS.Nested
import PySem.Challenge.RW_signsheets_k75_whole_far_numbers
set_option Elab.async false
set_option linter.all false
set_option maxRecDepth 100000
set_option maxHeartbeats 4000000
/-! Rules of our own, over the layer: powers of great bases, dict.update, a dict beside another by !=, an instance without __init__. -/
namespace K75R
open PySem PySem.Spec PyProof.Rows L2

/-! ### a ** b, a > 1, b > 0, the product of a's bits and b within the line -/
def CPowX (i j : Int) : Prop := 1 < i ∧ 0 < j ∧ Builtin.Int.intTooBig (((Builtin.Int.intBits i : Nat) : Int) * j) = false
section
variable {X : Cx}
theorem op_powX : OpR X (binaryOp .Pow) (rI CPowX fun i j => .int (i ^ j.toNat)) := opI fun i j t u s Q E hc q => by
  obtain ⟨h1, h2, h3⟩ := hc
  refine AutoIntOps.pow_4 (by omega) ?_ ?_ ?_ (by rw [h3]; decide) q
  · simp only [beq_iff_eq]; omega
  · simp only [Bool.or_eq_true, beq_iff_eq]; omega
  · simp only [beq_iff_eq]; omega

/-! ### d.update(e), e a dict -/
def rUpdate : V → List V → Hp → VK → Prop := fun x xs H Q => ∃ (a b : Addr) (ks ls : List (Key × V)), x = .ref a ∧ xs = [.ref b] ∧ H a = some (.dK ks) ∧ H b = some (.dK ls) ∧ a ≠ b ∧
  ks.length + ls.length ≤ sizeLine ∧ Q .non (upd H a (.dK (mergeK ks ls)))
theorem mt_update : MtR X "dict.update" rUpdate := by
  intro pins s σ H x xs v us Q I rx rv h
  obtain ⟨a, b, ks, ls, rfl, rfl, ea, eb, ne, hz, q⟩ := h
  obtain rfl : v = Value.ref a := rx
  obtain ⟨u, rfl, ru⟩ := rv.one
  obtain rfl : u = Value.ref b := ru
  obtain ⟨za, ya, va, ra, da⟩ := dk_of I.hok ea
  obtain ⟨zb, yb, vb, rb, db⟩ := dk_of I.hok eb
  refine call_meetsIn PySem.F.slot_dict_update da.typeIs PySem.F.entry_dict_update (PySem.F.args_dict_update_2 _ _) (meets_dict_update (mixKind X.prog X.w) a b ne yb)
    ⟨va, vb, da, db, by rw [← ra.length, ← rb.length]; exact hz, fun h' dd' _ hs => ?_⟩
  have he : ∃ z, h'.get? a = some z := let ⟨z, _, _, hz, _⟩ := dd'; ⟨z, hz⟩
  have hl : (mergeK ks ls).length ≤ sizeLine := Nat.le_trans (length_mergeK ls ks) hz
  exact ⟨.non, _, d_write (t' := s.toks) I (by rw [ea]; exact True.intro) hs he (dk_new hl ya (rb.merge ra) dd'), rfl, q⟩

/-! ### d != e, two dicts of unlike length, or both empty -/
def rNeDL : R2 := fun x y H Q => ∃ (a b : Addr) (ks : List (Key × V)), x = .ref a ∧ y = .ref b ∧ H a = some (.dK ks) ∧ H b = some (.dK []) ∧ Q (.bl (!ks.isEmpty)) H
theorem op_neDL (hu : X.A.units < cLine) : OpR X (compareOp .NotEq) rNeDL := by
  intro pins s σ H x y v u Q I rx ry h
  obtain ⟨a, b, ks, rfl, rfl, ea, eb, q⟩ := h
  obtain rfl : v = Value.ref a := rx
  obtain rfl : u = Value.ref b := ry
  obtain ⟨_, ya, va, ra, da⟩ := dk_of I.hok ea
  obtain ⟨_, yb, vb, rb, db⟩ := dk_of I.hok eb
  cases rb
  refine PySem.W.keq_ne (knd := mixKind X.prog X.w) (r := true) ya yb da db hu (fun e => ?_) (fin_bl I q ?_)
  · have e0 : va = [] := List.eq_nil_of_length_eq_zero e
    subst e0
    exact .nil
  · cases ra with
    | nil => rfl
    | cons _ _ => rfl
end

/-! ### C(), C without an __init__ of its own -/
structure Mk0 (K : PySem.W.Frag) (C : Addr) : Prop where
  makes : PySem.W.makesIn K C = true
  init : PySem.W.findIn K (.ref C) "__init__" = some (some (.builtin "object.__init__"))
  kp : PySem.W.keepIn K (.ref C) = true
def tMake0 (C : Addr) : TE := fun _ H Q => ∀ x dx, H x = none → H dx = none → dx ≠ x → Q (.ref x) (upd (upd H dx (.own x)) x (.ins C dx []))
section
variable {X : Cx} {C : Addr} {x : Str} {p pos : Pos}
theorem run_make0 {pins : List (Addr × Obj)} {σ : L2.St} {H : Hp} {s : Shared} {Q : VK} (M : Mk0 X.K C) (I : Inv X pins σ H s) (h : tMake0 C σ H Q) : wpAny (model X.prog X.w) X.A (call (.ref C) []) (EP X pins σ Q) X.xe s := by
  have hq := h (s.heap.objs.size + 1) s.heap.objs.size (I.hok.fresh (Nat.le_succ _)) (I.hok.fresh (Nat.le_refl _)) (Nat.ne_of_lt (Nat.lt_succ_self _))
  have I2 := Inv.made (C := C) I
  have Y := PySem.W.makes_of (M := model X.prog X.w) I.kIn M.makes
  refine wpAny_call (make_map0 I.kIn M.makes M.init (fun self => PySem.W.Looks.of_pure (PySem.W.oi_bind self)) ?_)
  have k : ∀ b o, s.heap.get? b = some o → ((s.heap.push PySem.W.emptyDict).push (PySem.W.instObj C s.heap.objs.size)).get? b = some o := fun b o e => Heap.get?_push_of_some _ (Heap.get?_push_of_some _ e)
  have hx : ((s.heap.push PySem.W.emptyDict).push (PySem.W.instObj C s.heap.objs.size)).get? (s.heap.objs.size + 1) = some (PySem.W.instObj C s.heap.objs.size) := by heap_get
  have t1 : PySem.W.Looks (model X.prog X.w) ((s.heap.push PySem.W.emptyDict).push (PySem.W.instObj C s.heap.objs.size)) (typeOf (.ref (s.heap.objs.size + 1))) (.ref C) := (PySem.W.Looks.ld hx).andThen .now
  have t2 : PySem.W.Looks (model X.prog X.w) ((s.heap.push PySem.W.emptyDict).push (PySem.W.instObj C s.heap.objs.size)) (isInstance (.ref (s.heap.objs.size + 1)) (.type "object")) true := t1.andThen (Y.top.keeps k)
  refine codeAny_call_builtin PySem.W.oi_plain PySem.W.entry_oi (@PySem.W.check_slot (model X.prog X.w) _ _ _ "object.__init__" "object" "__init__" (.ref (s.heap.objs.size + 1)) [] [] _ PySem.W.oi_kind PySem.W.oi_split t2 (PySem.W.oi_args (.ref (s.heap.objs.size + 1))) ?_)
  rw [PySem.W.oi_run]
  exact wpAny_pure (And.intro rfl ⟨V.ref (s.heap.objs.size + 1), _, I2, rfl, hq⟩)
theorem pe_mk0 (M : Mk0 X.K C) (hg : Gl X x) (hm : X.mg x = some (.ref C)) (hdb : (x == ("__debug__" : Str)) = false := by decide) : PE X (.Call (.Name x p) [] [] pos) (tMake0 C) := by
  refine ⟨fun pins s σ H Q I h => ?_⟩
  refine wpAny_Call_Name_kw (ld_glob I hg hm ?_ hdb)
  exact PySem.W.callWith_K0 I.kIn M.kp (run_make0 M I h)
end
end K75R
set_option Elab.async false
set_option linter.all false
set_option maxRecDepth 100000
set_option maxHeartbeats 8000000
/-! set(xs), xs a list of ints: the set knows its places, so that sorted walks it. -/
namespace K75R
open PySem PySem.Spec PyProof.Rows L2
abbrev stOb (w : World) : Obj := { cls := .type "set", dict := none, data := .set #[] 0 (.fresh 0 0 (!w.params.followText "set-order")) }
abbrev liOb (l : Addr) : Obj := { cls := .type "list_iterator", data := .fields #[.ref l, .int 0 0] }
section
variable {P : Program} {w : World} {A : Around} {E : Value → Shared → Prop} {s : Shared}
theorem set_ofL {l : Addr} {items : Array Value} (zs : List Int) {Q : Value → Shared → Prop} (hcalm : A.handled = none) (hL : s.heap.IsList l items) (hI : IntsAre items.toList zs) (room : zs.length + 1 < scanBound)
    (fin : ∀ (h1 : Heap) (t1 c1 : Nat), SetR w h1 s.heap.objs.size (fun j => decide (j ∈ zs)) c1 → c1 ≤ zs.length → (∀ b o, s.heap.get? b = some o → h1.get? b = some o) → Q (.ref s.heap.objs.size) { s with heap := h1, toks := t1 }) :
    wpAny (model P w) A (call (.type "set") [.ref l]) Q E s := by
  have esz : items.size = zs.length := by have q := IntsAre.length hI; rwa [Array.length_toList] at q
  obtain ⟨c0, l0, hmro⟩ := F.called_set.mro
  have m1 := F.called_set.made; have m2 := F.called_set.sub
  refine wpAny_call (codeAny_of_tree ?_)
  change wpAny _ _ (callAny (.type "set") _) _ _ _
  refine wpAny_pure ⟨Code.quiet_builtin _ (by decide +kernel), codeAny_builtin F.entry_type_call ?_⟩
  rw [Around.under_plain (weight_type_call_type "set" [.ref l] []) rfl]
  have n1 := F.called_set.notType; have n2 := F.called_set.canCreate; have n3 := F.typeCall_set_1 (.ref l)
  repeat (any_goals (first | assumption | wp_step))
  refine codeAny_mono (code_set_led1 (.ref l) (E := E) (Q₁ := fun ob z => ob = .ref s.heap.objs.size ∧ z = { s with heap := s.heap.push (stOb w) }) ⟨rfl, rfl⟩) fun r z hr => ?_
  rcases r with er | (ob | _ | _ | _) <;> first | exact hr | exact hr.elim | skip
  obtain ⟨rfl, rfl⟩ := hr
  have gS : (s.heap.push (stOb w)).get? s.heap.objs.size = some (stOb w) := Heap.get?_push_size _ rfl
  have tS : Shared.TypeIs { s with heap := s.heap.push (stOb w) } (.ref s.heap.objs.size) "set" := ⟨_, gS, rfl⟩
  have i1 := F.called_set.init.lookup; have i2 := F.called_set.init.bind (.ref s.heap.objs.size)
  repeat (any_goals (first | assumption | wp_step))
  refine codeAny_mono (codeAny_call_builtin (R := wants (fun r2 z2 => r2 = .none ∧ ∃ h1 t1 c1, z2 = { s with heap := h1, toks := t1 } ∧ SetR w h1 s.heap.objs.size (fun j => decide (j ∈ zs)) c1 ∧ c1 ≤ zs.length ∧
    (∀ b o, s.heap.get? b = some o → h1.get? b = some o)) E) F.called_set.init.plain F.entry_set_init (check_set_init_1 tS ?_)) fun r2 z2 hr2 => ?_
  · obtain ⟨⟨oc, od, odt, osl⟩, hol, hcl, nl, hdl⟩ := hL
    simp only at hcl hdl
    subst hcl hdl
    have gL : (s.heap.push (stOb w)).get? l = some { cls := .type "list", dict := od, data := .seq items nl, slots := osl } := Heap.get?_push_of_some _ hol
    have s1 := F.sub_list_set; have s2 := F.sub_list_frozenset
    have s3 : (Value.type "list" == Value.type "dict") = false := by decide
    have hL1 : (s.heap.push (stOb w)).IsList l items := ⟨_, gL, rfl, nl, rfl⟩
    unfold Builtin.«set.__init__» noKeywords Builtin.Frozenset.updateFrom
    generalize ePI : pyIter = PI
    wp_walk
    subst ePI
    refine wpAny_pyIter_list hL1 (wpAny_bind (wpAny_runValue ?_))
    have lS : l < s.heap.objs.size := Heap.lt_size hol
    have h3 : A.in1.in1.in1.handled = none := by simp [hcalm]
    have esz2 : (s.heap.push (stOb w)).objs.size = s.heap.objs.size + 1 := Heap.size_push ..
    have lI : l ≠ (s.heap.push (stOb w)).objs.size := by rw [esz2]; exact Nat.ne_of_lt (Nat.lt_succ_of_lt lS)
    have sF : s.heap.objs.size ∉ [(s.heap.push (stOb w)).objs.size, l] := by
      rw [esz2]; simp only [List.mem_cons, List.mem_singleton, List.not_mem_nil, or_false, not_or]; exact ⟨Nat.ne_of_lt (Nat.lt_succ_self _), Nat.ne_of_gt lS⟩
    have hv : ∀ (i : Nat) (v : Value), items[i]? = some v → ∃ k t, zs[i]? = some k ∧ v = .int k t := fun i v e => by
      have hi : i < zs.length := by rw [← esz]; exact (Array.getElem?_eq_some_iff.mp e).1
      obtain ⟨t, e2⟩ := PyProof.Rows.IntsAre.int_at hI i v (by rw [Array.getElem?_toList]; exact e)
      exact ⟨zs[i], t, List.getElem?_eq_getElem hi, by rw [e2, List.getD_eq_getElem?_getD, List.getElem?_eq_getElem hi] <;> rfl⟩
    refine set_update_ints ((Walks.list h3 _ l lI items).toS) s.heap.objs.size sF zs esz room hv (items.size - 0) 0 _ (by omega) (Nat.zero_le _) ⟨⟨_, Heap.get?_push_size _ rfl, rfl, rfl⟩, (hL1.push _)⟩ ?_ ?_
    · have g2 : ((s.heap.push (stOb w)).push (liOb l)).get? s.heap.objs.size = some (stOb w) := Heap.get?_push_of_some _ gS
      exact ⟨0, Nat.le_refl 0, setR_new_at g2⟩
    · rintro ⟨h1, g1, d1, t1, o1⟩ c1 hm hc1 hS1
      have eg : g1 = s.gens := hm.gens
      have ed : d1 = s.drawn := hm.drawn
      have eo : o1 = s.os := hm.os
      subst eg ed eo
      change wpAny _ _ _ _ _ _
      refine wpAny_pure ?_
      change wpAny _ _ (ret Value.none) _ _ _
      rw [esz] at hc1
      refine wpAny_pure ⟨rfl, h1, t1, c1, rfl, hS1, hc1, fun b o e => ?_⟩
      have b0 : b < s.heap.objs.size := Heap.lt_size e
      have b2 : b ≠ (s.heap.push (stOb w)).objs.size := by rw [esz2]; exact Nat.ne_of_lt (Nat.lt_succ_of_lt b0)
      refine hm.heap b o ?_ (Heap.get?_push_of_some _ (Heap.get?_push_of_some _ e))
      simp only [List.mem_cons, List.mem_singleton, List.not_mem_nil, or_false, not_or]; exact ⟨Nat.ne_of_lt b0, b2⟩
  · rcases r2 with er | (ob | _ | _ | _) <;> first | exact hr2 | exact hr2.elim | skip
    obtain ⟨rfl, h1, t1, c1, rfl, hS1, hc1, hk1⟩ := hr2
    repeat (any_goals (first | assumption | wp_step))
    exact fin _ _ _ hS1 hc1 hk1
end
/-- set(xs) -/
def rSetL (K : PySem.W.Frag) (w : World) : List V → Hp → VK → Prop := fun vs H Q => ∃ (a : Addr) (zs : List Int), vs = [V.ref a] ∧ SqL K H a (zs.map V.int) ∧ zs.length < 60 ∧
  ∀ (p : Addr) (n : Nat), n ≤ zs.length → H p = none → Q (.ref p) (upd H p (SetO w p (fun j => decide (j ∈ zs)) n))
theorem cr_setL {X : Cx} (hc : X.calm = true) : CallR X (.type "set") (rSetL X.K X.w) := by
  intro pins s σ H vs us Q I r h
  obtain ⟨a, zs, rfl, hs, hl, q⟩ := h
  rw [Vals.ref1 r]
  obtain ⟨its, rv, pl, hz⟩ := I.list hs
  have hi := ints_of_vals rv
  refine set_ofL zs (I.ok.hd hc) pl.isList (by simpa using hi) (by unfold scanBound; omega) fun h1 t1 c1 hS hc1 hk => ?_
  have hn : H s.heap.objs.size = none := I.hok.fresh (Nat.le_refl _)
  exact ⟨.ref s.heap.objs.size, _, I.laid (t' := t1) hk (Nat.le_refl _) (setO_new hS), rfl, q _ c1 hc1 hn⟩
end K75R
set_option Elab.async false
set_option linter.all false
set_option maxRecDepth 100000
set_option maxHeartbeats 4000000
/-! Calls of our own: a method of an instance of one of several classes; C(*xs, k=v). -/
namespace K75R
open PySem PySem.Spec PyProof.Rows L2

/-! ### o.m(e, ..), o an instance of one of the classes C i -/
def tMethI {ι : Type} (C : ι → Addr) (m : Str) (sp : ι → Sp) (E : XK) (ta : TE) (t : TA) : TE := fun σ H Q => ta σ H fun x H1 => ∃ i a dx fs, x = .ref a ∧ H1 a = some (.ins (C i) dx fs) ∧ fs.lookup m = none ∧
  t σ H1 fun vs H2 => sp i (x :: vs) H2 Q E
theorem pe_methI {ι : Type} {X : Cx} {CX : CXT} {k : Nat} {C f : ι → Addr} {m : Str} {sp : ι → Sp} {E : XK} {o e : Expr} {es : List Expr} {ta : TE} {t : TA} {apos pos : Pos} {pl : Sem Bool} (ho : PE X o ta) (c : ∀ i, Cls X.K (C i)) (hm : ∀ i, Meth X.K (C i) m (f i))
    (F : ∀ i, FnR X.prog X.w X.K X.mg X.base CX k (f i) (sp i)) (hr : Room k X.A) (hx : Passes CX X E) (ha : PA X (e :: es) t)
    (h1 : starEach (e :: es) X.env = (false, eval e X.env) :: starEach es X.env := by rfl) (h2 : (backTo pos (starEach es X.env)).any (·.1) = false := by rfl)
    (h3 : eval (.Call (.Attribute o m apos) (e :: es) [] pos) X.env = (eval o X.env >>= fun ov => standAt apos.atName >>= fun _ => holding [ov] (getMethod ov m pl) >>= fun ff =>
      callWith pos ff.1 ff.2 (backTo pos (starEach (e :: es) X.env)) (backToKw pos (keywordEach [] X.env))) := by rfl) :
    PE X (.Call (.Attribute o m apos) (e :: es) [] pos) (tMethI C m sp E ta t) := by
  refine ⟨fun pins s σ H Q I h => ?_⟩
  refine PySem.W.methodCall_KW (pl := pl) (thn (ho.run pins s σ H _ I h) fun u s1 ⟨x, H1, I1, rx, i, a, dx, fs, ex, ea, l, q⟩ => ?_) h3
  subst ex
  obtain rfl : u = Value.ref a := rx
  refine getmeth_ok I1 ea (c i) (hm i) l (PySem.W.callWith_K (first := [.ref a]) (h₀ := X.base) I.ok.mod.kin (hm i).kp ?_ h1 h2)
  refine thn (ha.run pos pins s1 σ H1 _ I1 q) fun us s2 ⟨vs, H2, I2, r, q2⟩ => ⟨I2.kIn, ?_⟩
  exact wpAny_call (run_fnR (us := .ref a :: us) (vs := .ref a :: vs) (F i) hr hx I2 (.cons rfl r) q2)

/-! ### f(*xs, k=v, ..) -/
section
variable {M : Model} {A : Around} {E : Value → Shared → Prop} {s : Shared}
theorem args_starKw {f : Value} {x : Sem Value} {pos : Pos} {kws : List (Option Str × Sem Value)} {Q : Args → Shared → Prop} (hall : kws.all (·.1.isSome) = true)
    (h : wpAny M A x (fun v s1 => wpAny M A (evalAll (kws.map (·.2))) (fun ks s2 => PySem.W.StarOf M A E v (fun vs s3 => Q ⟨vs, (kws.filterMap (·.1)).zip ks⟩ s3) s2) E s1) E s) :
    wpAny M A (evalArgs f true [(true, (do let v ← x; standAt pos; pure v))] kws) Q E s := by
  unfold evalArgs
  first
    | refine wpAny_bind (wpAny_bind (wpAny_mono h (fun v s1 h1 => wpAny_bind (wpAny_standAt (wpAny_pure ?_))) fun _ _ z => z))
    | refine wpAny_bind (wpAny_bind (wpAny_bind (wpAny_mono h (fun v s1 h1 => wpAny_bind (wpAny_standAt (wpAny_pure (wpAny_pure ?_)))) fun _ _ z => z)))
  refine wpAny_holding ?_
  simp only [hall, if_true]
  refine wpAny_bind (wpAny_mono h1 (fun ks s2 h2 => ?_) fun _ _ z => z)
  unfold PySem.W.StarOf at h2
  refine wpAny_bind (wpAny_bind (wpAny_mono h2 (fun b s3 h3 => ?_) fun _ _ z => z))
  obtain ⟨rfl, h3⟩ := h3
  have z : wpAny M A (holding (((kws.filterMap (·.1)).zip ks).map (·.2)) (collect v)) (fun vs s4 => Q ⟨vs, (kws.filterMap (·.1)).zip ks⟩ s4) E s3 := wpAny_holding h3
  try simp only [Bool.false_eq_true, if_false]
  first
    | exact wpAny_mono z (fun vs s4 h4 => wpAny_pure h4) fun _ _ y => y
    | exact wpAny_bind (wpAny_pure (wpAny_mono z (fun vs s4 h4 => wpAny_pure h4) fun _ _ y => y))
theorem call_starKw {K : PySem.W.Frag} {f : Value} {x : Sem Value} {pos : Pos} {kws : List (Option Str × Sem Value)} {Q : Value → Shared → Prop} (hk : PySem.W.keepIn K f = true) (hall : kws.all (·.1.isSome) = true)
    (h : wpAny M A x (fun v s1 => wpAny M A (evalAll (kws.map (·.2))) (fun ks s2 => PySem.W.StarOf M A E v (fun vs s3 => K.In s3.heap ∧ wpAny M A (call f vs ((kws.filterMap (·.1)).zip ks)) Q E s3) s2) E s1) E s) :
    wpAny M A (callWith pos f [] [(true, (do let v ← x; standAt pos; pure v))] kws) Q E s := by
  unfold callWith
  refine wpAny_bind (wpAny_holding (wpAny_mono (args_starKw (Q := fun a s3 => K.In s3.heap ∧ wpAny M A (call f a.pos a.kw) Q E s3) hall h) (fun a s1 h1 => wpAny_bind (wpAny_standAt ?_)) fun _ _ z => z))
  obtain ⟨k, hk', L⟩ := PySem.W.keeps_K hk _ h1.1
  simp only [List.any_cons, Bool.true_or]
  refine wpAny_bind (L.here ?_)
  have tail : ∀ {t : Sem Value}, wpAny M A t Q E s1 → wpAny M A (t >>= fun r => holding [r] point >>= fun _ => pure r) Q E s1 :=
    fun ht => wpAny_bind (thn ht fun r s2 hr => wpAny_bind (wpAny_holding (wpAny_point (wpAny_pure hr))))
  have mk (m : Value) : wpAny M A (callMarked m f ([] ++ a.pos) a.kw) Q E s1 := by unfold callMarked; exact Calls.wpAny_keep h1.2
  rcases hk' with rfl | rfl | rfl <;> dsimp only <;> first | exact tail (mk _) | exact tail (wpAny_operating h1.2)
end
/-- a promise of a def by its positional values and its keywords' values -/
def FnK (P : Program) (w : World) (K : PySem.W.Frag) (mg : Str → Option Value) (base : Heap) (CX : CXT) (k : Nat) (f : Addr) (ks : List Str) (sp : List V → List V → Hp → VK → XK → Prop) : Prop :=
  ∀ (A : Around) (outer : List Env) (s : Shared) (H : Hp) (us ws : List Value) (vs zs : List V) (Q : VK) (E : XK), Room k A → Env0 P w K mg base A outer s H → Vals vs us → Vals zs ws → zs.length = ks.length → sp vs zs H Q E →
    codeAny (model P w) A (.call (.ref f) ⟨us, ks.zip ws⟩) (CR CX outer P w H s Q E) s
/-- C(*e, k=v, ..): the list's items, the keywords' values -/
def tMakeS (K : PySem.W.Frag) (C : Addr) (n : Nat) (sp : List V → List V → Hp → VK → XK → Prop) (E : XK) (tf te : TE) (tk : TA) : TE := fun σ H Q => tf σ H fun c H0 => c = .ref C ∧ te σ H0 fun v H1 => tk σ H1 fun zs H2 => zs.length = n ∧ ∃ a xs, v = .ref a ∧
  (SqT K H2 a xs ∨ SqL K H2 a xs) ∧ ∀ x dx, H2 x = none → H2 dx = none → dx ≠ x → sp (.ref x :: xs) zs (upd (upd H2 dx (.own x)) x (.ins C dx [])) (fun v H3 => v = .non ∧ Q (.ref x) H3) E
section
variable {X : Cx} {CX : CXT} {k : Nat} {f C : Addr} {ks : List Str} {sp : List V → List V → Hp → VK → XK → Prop} {E : XK} {x : Str} {p pos sp_ : Pos} {e : Expr} {kws : List Keyword} {tf te : TE} {tk : TA}
theorem run_makeS {pins : List (Addr × Obj)} {σ : L2.St} {H : Hp} {s : Shared} {Q : VK} {us ws : List Value} {vs zs : List V} (M : Mk X.K C f) (F : FnK X.prog X.w X.K X.mg X.base CX k f ks sp) (hr : Room (k + 1) X.A) (hx : Passes CX X E)
    (I : Inv X pins σ H s) (r : Vals vs us) (rz : Vals zs ws) (lz : zs.length = ks.length)
    (h : ∀ x dx, H x = none → H dx = none → dx ≠ x → sp (.ref x :: vs) zs (upd (upd H dx (.own x)) x (.ins C dx [])) (fun v H2 => v = .non ∧ Q (.ref x) H2) E) :
    wpAny (model X.prog X.w) X.A (call (.ref C) us (ks.zip ws)) (EP X pins σ Q) X.xe s := by
  have hq := h (s.heap.objs.size + 1) s.heap.objs.size (I.hok.fresh (Nat.le_succ _)) (I.hok.fresh (Nat.le_refl _)) (Nat.ne_of_lt (Nat.lt_succ_self _))
  have I2 := Inv.made (C := C) I
  have r1 : Vals (V.ref (s.heap.objs.size + 1) :: vs) (Value.ref (s.heap.objs.size + 1) :: us) := .cons rfl r
  refine wpAny_call (make_map (f := f) I.kIn M.makes M.init (beq_iff_eq.mp M.fn) (codeAny_mono (F _ X.stack _ _ _ _ _ _ _ E (hr.make C us (ks.zip ws)) (I2.env0.make C us (ks.zip ws)) r1 rz lz hq) fun r s' hq' => ?_))
  match r, hq' with
  | .error er, hq' => exact hx pins σ _ _ er s' I2 hq'
  | .ok (.ret u), hq' =>
    obtain ⟨v, H', I3, rv, ev, q3⟩ := I2.after hq'
    subst ev
    exact ⟨rv, ⟨V.ref (s.heap.objs.size + 1), H', I3, rfl, q3⟩⟩
  | .ok .next, hq' => exact False.elim hq'
  | .ok .brk, hq' => exact False.elim hq'
  | .ok .cont, hq' => exact False.elim hq'
theorem pe_makeS (hf : PE X (.Name x p) tf) (M : Mk X.K C f) (F : FnK X.prog X.w X.K X.mg X.base CX k f ks sp) (hr : Room (k + 1) X.A) (hx : Passes CX X E) (he : PE X e te) (hkw : PK X kws tk)
    (hall : (backToKw pos (keywordEach kws X.env)).all (·.1.isSome) = true := by rfl) (hks : (backToKw pos (keywordEach kws X.env)).filterMap (·.1) = ks := by rfl) (hst : starEach [.Starred e sp_] X.env = [(true, eval e X.env)] := by rfl) :
    PE X (.Call (.Name x p) [.Starred e sp_] kws pos) (tMakeS X.K C ks.length sp E tf te tk) := by
  refine ⟨fun pins s σ H Q I h => ?_⟩
  refine wpAny_Call_Name_kw (thn (hf.run pins s σ H _ I h) fun fv s0 ⟨c, H0, I0, r0, ec, q0⟩ => ?_)
  subst ec
  obtain rfl : fv = Value.ref C := r0
  rw [hst]
  refine call_starKw (K := X.K) M.kp hall (thn (he.run pins s0 σ H0 _ I0 q0) fun v s1 ⟨y, H1, I1, ry, q1⟩ => ?_)
  refine thn (hkw.run pos pins s1 σ H1 _ I1 q1) fun ws s2 ⟨zs, H2, I2, rz, lz, a, xs, ey, hxs, q2⟩ => ?_
  subst ey
  obtain rfl : v = Value.ref a := ry
  refine StX.star_any I2 hxs fun us s3 I3 rv => ⟨I3.kIn, ?_⟩
  rw [hks]
  exact run_makeS M F hr hx I3 rv rz lz q2
end
end K75R
set_option Elab.async false
set_option linter.all false
set_option maxRecDepth 100000
set_option maxHeartbeats 4000000
/-! What the top has written, by names; calls of its defs; the systems. -/
namespace K75R
open PySem PySem.Spec PyProof.Rows L2

/-! ### the text by places -/
def top (i : Nat) : Stmt := PySem.Challenge.pw_signsheets_k75_whole_far_numbers.main.body.getD i (.Pass ⟨0, 0, 0, 0⟩)
abbrev atC (i j : Nat) : Stmt := inClass (top i) j

/-! ### heaps -/
theorem same_new {H : Hp} {p : Addr} {o : HO} (h : H p = none) : Same H (upd H p o) := fun b x e => by rw [upd_ne (ne_of_none e h)]; exact e
/-- an object that H does not know may be laid, or changed -/
theorem same_put {H H' : Hp} {p : Addr} {o : HO} (e : Same H H') (h : H p = none) : Same H (upd H' p o) := fun b x q => by rw [upd_ne (ne_of_none q h)]; exact e b x q
theorem same_push {H H' : Hp} {p : Addr} {o : HO} (e : Same H H') (h : H' p = none) : Same H (upd H' p o) := same_put e (e.free h)
theorem none_of_upd {H : Hp} {p q : Addr} {o : HO} (h : upd H p o q = none) : H q = none ∧ q ≠ p := by
  by_cases e : q = p
  · subst e; rw [upd_same] at h; cases h
  · rw [upd_ne e] at h; exact ⟨h, e⟩
theorem sqL {K : PySem.W.Frag} {H : Hp} {a : Addr} {xs : List V} (h : H a = some (.lst xs)) : SqL K H a xs := .inl (.inl h)
theorem sqT {K : PySem.W.Frag} {H : Hp} {a : Addr} {xs : List V} (h : H a = some (.tup xs)) : SqT K H a xs := .inl (.inl h)
theorem sz_le {n : Nat} (h : n ≤ 1000000) : n ≤ sizeLine := Nat.le_trans h (by decide)
theorem sz_lt {n : Nat} (h : n ≤ 1000000) : n < sizeLine := Nat.lt_of_le_of_lt h (by decide)

/-! ### the facts of the top -/
abbrev ga := He.ga
abbrev ma := He.ma
/-- a def of the module: the name x stands for it; nm its own name -/
structure GF (K : PySem.W.Frag) (mg : Str → Option Value) (x nm : Str) (st : Stmt) : Prop where
  g : mg x = some (.ref (ga K x))
  F : ∃ fd, Fun K nm nm st (ga K x) fd
/-- a class -/
structure GC (K : PySem.W.Frag) (mg : Str → Option Value) (x : Str) : Prop where
  g : mg x = some (.ref (ga K x))
  c : Cls K (ga K x)
/-- a method -/
structure MF (K : PySem.W.Frag) (c m qual : Str) (st : Stmt) : Prop where
  at_ : Meth K (ga K c) m (ma K (ga K c) m)
  F : ∃ fd, Fun K m qual st (ma K (ga K c) m) fd
/-- a property: its record at p = ma K C m, its getter -/
def pf (K : PySem.W.Frag) (c m : Str) : Addr := match PySem.W.recIn K (ma K (ga K c) m) "property" with
  | some (.ref f :: _) => f
  | _ => 0
structure PF (K : PySem.W.Frag) (c m qual : Str) (st : Stmt) : Prop where
  at_ : PropOf K (ga K c) m (ma K (ga K c) m) (pf K c m)
  F : ∃ fd, Fun K m qual st (pf K c m) fd

/-- an exception class of the module, over ValueError -/
structure ExF (K : PySem.W.Frag) (mg : Str → Option Value) (x : Str) : Prop where
  g : mg x = some (.ref (ga K x))
  ex : PySem.W.excIn K (ga K x) He.veBase "ValueError.__new__" = true
  kp : PySem.W.keepIn K (.ref (ga K x)) = true
  sub : PySem.W.subIn K (.ref (ga K x)) (.type "BaseException") = some true
  ty : PySem.W.typeIn K (.ref (ga K x)) = some (.type "type")
  self : PySem.W.exmOne K (.ref (ga K x)) (.ref (ga K x)) = some true
/-- a method of the class c that says super(): its cell holds c; d: the class whose method it finds -/
structure SF (K : PySem.W.Frag) (c d m qual : Str) (st : Stmt) : Prop where
  at_ : Meth K (ga K c) m (ma K (ga K c) m)
  F : ∃ (oc : Value) (od : Option Addr) (kV doc pm : Value) (an : Option Addr) (cda cc : Addr) (ct : Value) (osl : Array (Option Value)) (cl ccl : Value) (cld cdd : Option Addr) (csl ccs : Array (Option Value)) (vs : Array Value) (tf : Tok),
    K.lookup (ma K (ga K c) m) = some ⟨oc, od, .func (PySem.W.ksFn m qual (defArgs st) (defBody st) (defScope st) .none kV doc pm an (.ref cda) ct cc), osl⟩ ∧ PySem.W.codeIn K (.ref cda) qual = true ∧
    K.lookup cc = some ⟨cl, cld, .cell (some (.ref (ga K c))), csl⟩ ∧ K.lookup cda = some ⟨ccl, cdd, .fields vs, ccs⟩ ∧ vs[2]? = some (.str "/claim/cut.py" tf)
  sup : PySem.W.ks_superIn K (ga K c) (ga K c) m = some (some (.ref (ma K (ga K d) m)))
  ft : PySem.W.typeIn K (.ref (ma K (ga K d) m)) = some (.type "function")
  fi : PySem.W.fnIn K (ma K (ga K d) m) = true
  cls : (PySem.W.clsIn K (ga K c)).isSome = true
  self : PySem.W.mroIn K (ga K c) (.ref (ga K c)) = some true
  third : PySem.W.nsIn K cStatics "thirdparty.any" = some none
/-- Rule.ALL -/
def allAt (K : PySem.W.Frag) : Addr := match PySem.W.findCls K (.ref (ga K "Rule")) (.type "type") "ALL" with
  | some (.val (.ref a)) => a
  | _ => 0

section
variable {P : Program} {w : World} {K : PySem.W.Frag} {mg : Str → Option Value} {base : Heap}
/-- a def's positional promise, from its body -/
theorem Fun.raw {x qual : Str} {st : Stmt} {f : Addr} {fd : FuncData} {N ps : List Str} {k : Nat} {sp : Sp} (F : Fun K x qual st f fd) (S : FnScope N ps (defScope st)) (len : ∀ vs H Q E, sp vs H Q E → vs.length = ps.length)
    (hb : ∀ (kV doc pm : Value) (an : Option Addr) (cdv ct : Value) (us : List Value), us.length = ps.length → bindArgs (PySem.W.fnOf x qual (defArgs st) (defBody st) (defScope st) .none kV doc pm an cdv ct) ⟨us, []⟩ = pure (ps.zip us))
    (hbody : ∀ (cdv : Value) (A : Around) (outer : List Env) (s : Shared) (H : Hp) (vs : List V) (Q : VK) (E : XK), Room k (A.deeper (envOfC qual (defScope st) s.heap.objs.size f cdv)) → sp vs H Q E →
      ∃ t, PSs (cxOf CX0 P w K mg base N qual (defScope st) f cdv A outer s H E).nox (defBody st) t ∧ t { nx := fun _ H' => Q .non H', rt := Q } (start N vs) H) : FnR P w K mg base CX0 (k + 1) f sp :=
  ((F.ok S len hbody).raw (F.binds hb) .nil).imp fun vs H Q E h => by rw [List.append_nil]; exact h
theorem Fun.rawX {x qual : Str} {st : Stmt} {f : Addr} {fd : FuncData} {N ps : List Str} {k : Nat} {sp : Sp} (F : Fun K x qual st f fd) (S : FnScope N ps (defScope st)) (len : ∀ vs H Q E, sp vs H Q E → vs.length = ps.length)
    (hb : ∀ (kV doc pm : Value) (an : Option Addr) (cdv ct : Value) (us : List Value), us.length = ps.length → bindArgs (PySem.W.fnOf x qual (defArgs st) (defBody st) (defScope st) .none kV doc pm an cdv ct) ⟨us, []⟩ = pure (ps.zip us))
    (hbody : ∀ (cdv : Value) (A : Around) (outer : List Env) (s : Shared) (H : Hp) (vs : List V) (Q : VK) (E : XK), Room k (A.deeper (envOfC qual (defScope st) s.heap.objs.size f cdv)) → sp vs H Q E →
      ∃ t, PSs (cxOf (L2.CX P w) P w K mg base N qual (defScope st) f cdv A outer s H E) (defBody st) t ∧ t { nx := fun _ H' => Q .non H', rt := Q } (start N vs) H) : FnR P w K mg base (L2.CX P w) (k + 1) f sp :=
  ((F.okX S len hbody).raw (F.binds hb) .nil).imp fun vs H Q E h => by rw [List.append_nil]; exact h
end

/-! ### terms in short -/
def tCallR (sp : Sp) (E : XK) (t : TA) : TE := fun σ H Q => t σ H fun vs H1 => sp vs H1 Q E
section
variable {X : Cx} {CX : CXT} {j k : Nat} {sp : Sp} {E : XK} {x nm : Str} {st : Stmt} {p pos : Pos} {e : Expr} {es : List Expr} {t : TA} {te : TE}
/-- f(e, ..) of a def of the module -/
theorem cR (G : GF X.K X.mg x nm st) (F : FnR X.prog X.w X.K X.mg X.base CX k (ga X.K x) sp) (hr : Room j X.A) (hx : Passes CX X E) (ha : PA X (e :: es) t) (hg : Gl X x := by rfl) (hk : k ≤ j := by decide) (hdb : (x == ("__debug__" : Str)) = false := by decide)
    (he : starEach (e :: es) X.env = (false, eval e X.env) :: starEach es X.env := by rfl) (hpl : (backTo pos (starEach es X.env)).any (·.1) = false := by rfl) : PE X (.Call (.Name x p) (e :: es) [] pos) (tCallR sp E t) := by
  obtain ⟨fd, Fd⟩ := G.F
  refine ⟨fun pins s σ H Q I h => wpAny_Call_Name_kw (ld_glob I hg G.g ?_ hdb)⟩
  refine PySem.W.callWith_K (h₀ := X.base) I.ok.mod.kin Fd.kp (thn (ha.run pos pins s σ H _ I h) fun us s1 ⟨vs, H1, I1, r, q⟩ => ⟨I1.kIn, ?_⟩) he hpl
  exact wpAny_call (run_fnR F (hr.mono hk) hx I1 r q)
theorem PE.imp {t t' : TE} (h : PE X e t) (i : ∀ σ H Q, t' σ H Q → t σ H Q) : PE X e t' := ⟨fun pins s σ H Q I q => h.run pins s σ H Q I (i σ H Q q)⟩
theorem pe_gint {i : Int} (h : ∃ t, X.mg x = some (.int i t)) (hg : Gl X x := by rfl) (hdb : (x == ("__debug__" : Str)) = false := by decide) : PE X (.Name x pos) (tC (.int i)) := by
  obtain ⟨t, ht⟩ := h
  exact pe_glob hg ht ⟨t, rfl⟩ hdb
theorem pe_gstr {z : Str} (h : ∃ t, X.mg x = some (.str z t)) (hg : Gl X x := by rfl) (hdb : (x == ("__debug__" : Str)) = false := by decide) : PE X (.Name x pos) (tC (.str z)) := by
  obtain ⟨t, ht⟩ := h
  exact pe_glob hg ht ⟨t, rfl⟩ hdb
theorem pe_gref {a : Addr} (h : X.mg x = some (.ref a)) (hg : Gl X x := by rfl) (hdb : (x == ("__debug__" : Str)) = false := by decide) : PE X (.Name x pos) (tC (.ref a)) := pe_glob hg h rfl hdb
theorem pe_ty (n : String) (h : X.mg x = none) (hv : bootBuiltins x = some (.type n) := by decide +kernel) (hg : Gl X x := by rfl) (hn : x ≠ "__name__" := by decide) (hdb : (x == ("__debug__" : Str)) = false := by decide) : PE X (.Name x pos) (tC (.ty n)) := pe_bltn hg h hv rfl hn hdb
/-- e.f, a property of an instance of C -/
theorem pe_propR {C p' g : Addr} {f : Str} {ta : TE} (he : PE X e ta) (c : Cls X.K C) (hp : PropOf X.K C f p' g) (F : FnR X.prog X.w X.K X.mg X.base CX k g sp) (hr : Room j X.A) (hx : Passes CX X.nox E) (hk : k + 1 ≤ j := by decide)
    (hab : attributeBase e f X.env (eval e X.env) = eval e X.env := by rfl) : PE X (.Attribute e f pos) (tProp C sp [] E ta) := by
  have hr := hr.mono hk
  refine ⟨fun pins s σ H Q I h => attr_of hab (thn (he.run pins s σ H _ I h) fun u s1 ⟨x, H1, I1, rx, a, dx, fs, ex, ea, q⟩ => ?_)⟩
  subst ex
  obtain rfl : u = Value.ref a := rx
  obtain ⟨mA, O, _, _, _, _⟩ := ins_get I1.hok ea
  obtain ⟨od, J, _⟩ := O.look
  obtain ⟨rest, hrec⟩ := hp.rec_
  have I2 := I1.tok (s1.toks + 1)
  have hc : (PySem.W.clsIn X.K C).isSome = true := by
    obtain ⟨cd, hc, _⟩ := PySem.W.any_some c.hd
    rw [hc] <;> rfl
  refine PySem.W.get_bind I1.kIn J (PySem.W.plainGet_of (c.get f)).1 (PySem.W.findObj_data hc hp.at_ hp.get hp.tak) (PySem.W.plainGet_of (c.get f)).2 (wpAny_call (PySem.W.prop_get (s := { s1 with toks := s1.toks + 1 }) I1.kIn hrec ?_))
  refine codeAny_mono (F X.A.in1 X.stack { s1 with toks := s1.toks + 1 } H1 [.ref a] [.ref a] Q E hr.in1 I2.env0.in1 (.cons rfl .nil) q) fun r s' hq => ?_
  match r, hq with
  | .error er, hq => exact False.elim (hx pins σ H1 { s1 with toks := s1.toks + 1 } er s' (I2.wish _) hq)
  | .ok (.ret u), hq =>
    obtain ⟨v, H', I3, rv, q3⟩ := I2.after hq
    show wpAny _ _ (handedOut u) _ _ _
    rw [PySem.W.handedOut_of (handed_of rv)]
    exact wpAny_pure ⟨v, H', I3, rv, q3⟩
  | .ok .next, hq => exact False.elim hq
  | .ok .brk, hq => exact False.elim hq
  | .ok .cont, hq => exact False.elim hq
end

/-! ### rules of signs, systems -/
inductive Rl where | plain | single | next | block | later
  deriving DecidableEq
def Rl.nm : Rl → Str | .plain => "plain" | .single => "single" | .next => "next" | .block => "block" | .later => "later"
/-- the values of a system -/
structure OkV (vs : List Int) : Prop where
  ne : vs ≠ []
  len : vs.length ≤ 6
  bd : ∀ v ∈ vs, 1 ≤ v ∧ v ≤ 60
  up : vs.Pairwise (· < ·)
def topOf (vs : List Int) : Int := vs.getLastD 0
def sysF (l : Addr) (r : Rl) : List (Str × V) := [("held_values", .ref l), ("held_rule", .str r.nm)]
/-- a system at a -/
def SysAt (K : PySem.W.Frag) (H : Hp) (a : Addr) (vs : List Int) (r : Rl) : Prop := ∃ dx l, H a = some (.ins (ga K "System") dx (sysF l r)) ∧ H l = some (.lst (vs.map V.int)) ∧ OkV vs
theorem SysAt.same {K : PySem.W.Frag} {H H' : Hp} {a : Addr} {vs : List Int} {r : Rl} (h : SysAt K H a vs r) (e : Same H H') : SysAt K H' a vs r := by
  obtain ⟨dx, l, h1, h2, h3⟩ := h
  exact ⟨dx, l, e _ _ h1, e _ _ h2, h3⟩
theorem SysAt.ok {K : PySem.W.Frag} {H : Hp} {a : Addr} {vs : List Int} {r : Rl} (h : SysAt K H a vs r) : OkV vs := let ⟨_, _, _, _, h3⟩ := h; h3
theorem sysF_v (l : Addr) (r : Rl) : (sysF l r).lookup ("held_values" : Str) = some (V.ref l) := by rfl
theorem sysF_r (l : Addr) (r : Rl) : (sysF l r).lookup ("held_rule" : Str) = some (V.str r.nm) := by rfl
end K75R
set_option Elab.async false
set_option linter.all false
set_option maxRecDepth 100000
set_option maxHeartbeats 4000000
/-! The facts of the top, as one structure. Printed by gentxt.py. -/
namespace K75R
open PySem PySem.Spec PyProof.Rows L2
structure Txt (K : PySem.W.Frag) (mg : Str → Option Value) : Prop where
  is_integer_rules : GF K mg "is_integer_rules" "is_integer" (top 13)
  is_run : GF K mg "is_run" "is_run" (top 15)
  are_runs : GF K mg "are_runs" "are_runs" (top 16)
  need_runs : GF K mg "need_runs" "need_runs" (top 17)
  rule_of : GF K mg "rule_of" "rule_of" (top 24)
  is_integer_shortest : GF K mg "is_integer_shortest" "is_integer" (top 27)
  check_number : GF K mg "check_number" "check_number" (top 29)
  steps_of : GF K mg "steps_of" "steps_of" (top 30)
  cheapest_ways : GF K mg "cheapest_ways" "cheapest_ways" (top 31)
  excesses : GF K mg "excesses" "excesses" (top 32)
  bound_of : GF K mg "bound_of" "bound_of" (top 33)
  stretches_of : GF K mg "stretches_of" "stretches_of" (top 34)
  worth_of : GF K mg "worth_of" "worth_of" (top 35)
  cheapest_by_worth : GF K mg "cheapest_by_worth" "cheapest_by_worth" (top 36)
  tables_to : GF K mg "tables_to" "tables_to" (top 38)
  best_table : GF K mg "best_table" "best_table" (top 39)
  fewest : GF K mg "fewest" "fewest" (top 40)
  runs_of : GF K mg "runs_of" "runs_of" (top 41)
  far_word : GF K mg "far_word" "far_word" (top 42)
  shortest : GF K mg "shortest" "shortest" (top 44)
  is_entry : GF K mg "is_entry" "is_entry" (top 45)
  shows_bound : GF K mg "shows_bound" "shows_bound" (top 46)
  fewest_to : GF K mg "fewest_to" "fewest_to" (top 47)
  are_values : GF K mg "are_values" "are_values" (top 50)
  is_rule : GF K mg "is_rule" "is_rule" (top 51)
  signs_of : GF K mg "signs_of" "signs_of" (top 55)
  value_of : GF K mg "value_of" "value_of" (top 56)
  size_of : GF K mg "size_of" "size_of" (top 57)
  last_number : GF K mg "last_number" "last_number" (top 61)
  first_longer : GF K mg "first_longer" "first_longer" (top 62)
  law_bag : GF K mg "_law_bag" "_law_bag" (top 64)
  law_stirred : GF K mg "_law_stirred" "_law_stirred" (top 65)
  law_draw : GF K mg "_law_draw" "_law_draw" (top 66)
  law_alike : GF K mg "_law_alike" "_law_alike" (top 67)
  law_row : GF K mg "_law_row" "_law_row" (top 68)
  law_rule : GF K mg "_law_rule" "_law_rule" (top 69)
  law_table : GF K mg "_law_table" "_law_table" (top 75)
  law_number_right : GF K mg "_law_number_right" "_law_number_right" (top 76)
  law : GF K mg "law" "law" (top 77)
  c_MOST_RUNS : ∃ t, mg "MOST_RUNS" = some (.int 200 t)
  c_MOST : ∃ t, mg "MOST" = some (.int (10 ^ 30) t)
  c_MOST_VALUE : ∃ t, mg "MOST_VALUE" = some (.int 60 t)
  c_MOST_DIFFERENT : ∃ t, mg "MOST_DIFFERENT" = some (.int 12 t)
  c_PLAIN : ∃ t, mg "PLAIN" = some (.str "plain" t)
  c_SINGLE : ∃ t, mg "SINGLE" = some (.str "single" t)
  c_NEXT : ∃ t, mg "NEXT" = some (.str "next" t)
  c_BLOCK : ∃ t, mg "BLOCK" = some (.str "block" t)
  b_len : mg "len" = none
  b_isinstance : mg "isinstance" = none
  b_all : mg "all" = none
  b_sum : mg "sum" = none
  b_range : mg "range" = none
  b_enumerate : mg "enumerate" = none
  b_zip : mg "zip" = none
  b_sorted : mg "sorted" = none
  b_max : mg "max" = none
  b_min : mg "min" = none
  b_abs : mg "abs" = none
  b_int : mg "int" = none
  b_list : mg "list" = none
  b_set : mg "set" = none
  b_tuple : mg "tuple" = none
  b_bool : mg "bool" = none
  b_str : mg "str" = none
  b_super : mg "super" = none
  System : GC K mg "System"
  Sums : GC K mg "Sums"
  Far : GC K mg "Far"
  Rule : mg "Rule" = some (.ref (ga K "Rule"))
  n_held_values : NoAttr K (ga K "System") "held_values"
  n_held_rule : NoAttr K (ga K "System") "held_rule"
  sys_mk : Mk K (ga K "System") (ma K (ga K "System") "__init__")
  sys_init : ∃ fd, FunD K "__init__" "System.__init__" (defArgs (atC 53 1)) (defBody (atC 53 1)) (defScope (atC 53 1)) [] [("rule", V.str "next")] (ma K (ga K "System") "__init__") fd
  sys_read : ClX.CRead K (ga K "System") (.type "type")
  sys_most : ∃ t, ClX.CVal K (ga K "System") (.type "type") "MOST" (.int 6) (.int 6 t)
  sys_of : ClX.CMet K (ga K "System") (.type "type") "of" (ma K (ga K "System") "of") (He5.wf K (ga K "System") "classmethod" "of")
  f_of : ∃ fd, Fun K "of" "System.of" (atC 53 2) (He5.wf K (ga K "System") "classmethod" "of") fd
  row : PF K "System" "row" "System.row" (atC 53 3)
  rule : PF K "System" "rule" "System.rule" (atC 53 4)
  greatest : PF K "System" "greatest" "System.greatest" (atC 53 5)
  with_rule : MF K "System" "with_rule" "System.with_rule" (atC 53 7)
  rule_read : ClX.CRead K (ga K "Rule") (.type "type")
  rule_all : ClX.CVal K (ga K "Rule") (.type "type") "ALL" (.ref (allAt K)) (.ref (allAt K))
  all_tup : ∀ H : Hp, SqT K H (allAt K) [V.str "plain", V.str "single", V.str "next", V.str "block", V.str "later"]
  rule_named : ClX.CMet K (ga K "Rule") (.type "type") "named" (ma K (ga K "Rule") "named") (He5.wf K (ga K "Rule") "classmethod" "named")
  f_named : ∃ fd, Fun K "named" "Rule.named" (atC 18 2) (He5.wf K (ga K "Rule") "classmethod" "named") fd
  Plain : GC K mg "Plain"
  Single : GC K mg "Single"
  Next : GC K mg "Next"
  Block : GC K mg "Block"
  Later : GC K mg "Later"
  plain_mk : Mk0 K (ga K "Plain")
  single_mk : Mk0 K (ga K "Single")
  next_mk : Mk0 K (ga K "Next")
  block_mk : Mk0 K (ga K "Block")
  later_mk : Mk0 K (ga K "Later")
  plain_signs : MF K "Plain" "signs" "Plain.signs" (atC 19 1)
  next_signs : MF K "Next" "signs" "Next.signs" (atC 20 1)
  block_signs : MF K "Block" "signs" "Block.signs" (atC 22 1)
  single_signs : SF K "Single" "Next" "signs" "Single.signs" (atC 21 1)
  later_signs : SF K "Later" "Block" "signs" "Later.signs" (atC 23 1)
  n_pieces : NoAttr K (ga K "Sums") "pieces"
  n_lowest : NoAttr K (ga K "Sums") "lowest"
  n_highest : NoAttr K (ga K "Sums") "highest"
  n_sizes : NoAttr K (ga K "Sums") "sizes"
  n_last_values : NoAttr K (ga K "Sums") "last_values"
  sums_mk : Mk K (ga K "Sums") (ma K (ga K "Sums") "__init__")
  sums_init : ∃ fd, Fun K "__init__" "Sums.__init__" (atC 37 0) (ma K (ga K "Sums") "__init__") fd
  grow : MF K "Sums" "grow" "Sums.grow" (atC 37 1)
  go_on_from : MF K "Sums" "go_on_from" "Sums.go_on_from" (atC 37 2)
  n_most : NoAttr K (ga K "Far") "most"
  n_small : NoAttr K (ga K "Far") "small"
  n_step : NoAttr K (ga K "Far") "step"
  n_excess : NoAttr K (ga K "Far") "excess"
  far_mk : Mk K (ga K "Far") (ma K (ga K "Far") "__init__")
  far_init : ∃ fd, Fun K "__init__" "Far.__init__" (atC 60 0) (ma K (ga K "Far") "__init__") fd
  fewest_at : MF K "Far" "fewest_at" "Far.fewest_at" (atC 60 1)
  NoWord : ExF K mg "NoWord"
end K75R
set_option Elab.async false
set_option linter.all false
set_option maxRecDepth 100000
set_option maxHeartbeats 4000000
/-! The head: what the top leaves, told by a Hook. Printed by g_head.py. -/
namespace K75R
open PySem PySem.Spec PyProof.Rows L2
section
variable {K : PySem.W.Frag} {h : Heap} {mg : Str → Option Value}
/-! ### further facts as Bools -/
def readB (K : PySem.W.Frag) (x : Str) : Bool := PySem.W.readsIn K (ga K x) (.type "type") && He.eqO (PySem.W.specialIn K (.ref (ga K x)) "__getattribute__") (some (some (.builtin "type.__getattribute__")))
theorem readB_ok {x : Str} (h : readB K x = true) : ClX.CRead K (ga K x) (.type "type") := ⟨(He.ba h).1, He.eqO_ok (He.ba h).2⟩
def mostB (K : PySem.W.Frag) : Bool := match PySem.W.findCls K (.ref (ga K "System")) (.type "type") "MOST" with
  | some (.val (.int j _)) => decide (j = 6)
  | _ => false
theorem mostB_ok (h : mostB K = true) : ∃ t, ClX.CVal K (ga K "System") (.type "type") "MOST" (.int 6) (.int 6 t) := by
  unfold mostB at h
  split at h
  · rename_i j t e
    rw [of_decide_eq_true h] at e
    exact ⟨t, e, t, rfl⟩
  · cases h
def cmB (K : PySem.W.Frag) (x m : Str) : Bool := He5.wrapB K (ga K x) "classmethod" "classmethod.__get__" m && PySem.W.fnIn K (He5.wf K (ga K x) "classmethod" m)
theorem of_cm {x m : Str} (h : cmB K x m = true) : ClX.CMet K (ga K x) (.type "type") m (ma K (ga K x) m) (He5.wf K (ga K x) "classmethod" m) := He5.cmet_of (He.ba h).1 (He.ba h).2
def propB (K : PySem.W.Frag) (x m : Str) : Bool := He.eqO (PySem.W.findIn K (.ref (ga K x)) m) (some (some (.ref (ma K (ga K x) m)))) && (He.eqO (PySem.W.specialIn K (.ref (ma K (ga K x) m)) "__get__") (some (some (.builtin "property.__get__"))) &&
  (decide (PySem.W.takesIn K (.ref (ma K (ga K x) m)) = some true) && (match PySem.W.recIn K (ma K (ga K x) m) "property" with
    | some (.ref _ :: _) => true
    | _ => false)))
theorem propB_ok {x m : Str} (h : propB K x m = true) : PropOf K (ga K x) m (ma K (ga K x) m) (pf K x m) := by
  obtain ⟨h1, h⟩ := He.ba h
  obtain ⟨h2, h⟩ := He.ba h
  obtain ⟨h3, h4⟩ := He.ba h
  refine ⟨He.eqO_ok h1, He.eqO_ok h2, of_decide_eq_true h3, ?_⟩
  unfold pf
  split at h4
  · rename_i g r e
    exact ⟨r, by rw [e]⟩
  · cases h4
def allB (K : PySem.W.Frag) : Bool := (match PySem.W.findCls K (.ref (ga K "Rule")) (.type "type") "ALL" with
  | some (.val (.ref _)) => true
  | _ => false) && (match K.lookup (allAt K) with
  | some ⟨.type c, _, .seq its _, _⟩ => decide (c = "tuple") && (decide (its.size ≤ sizeLine) && He.relAll [V.str "plain", V.str "single", V.str "next", V.str "block", V.str "later"] its.toList)
  | _ => false)
theorem allB_ok (h : allB K = true) : ClX.CVal K (ga K "Rule") (.type "type") "ALL" (.ref (allAt K)) (.ref (allAt K)) ∧ ∀ H : Hp, SqT K H (allAt K) [V.str "plain", V.str "single", V.str "next", V.str "block", V.str "later"] := by
  obtain ⟨h1, h2⟩ := He.ba h
  refine ⟨?_, fun H => ?_⟩
  · clear h2 h
    have : ∃ a, PySem.W.findCls K (.ref (ga K "Rule")) (.type "type") "ALL" = some (.val (.ref a)) := by
      split at h1
      · rename_i a e
        exact ⟨a, e⟩
      · cases h1
    obtain ⟨a, e⟩ := this
    have ea : allAt K = a := by
      unfold allAt
      rw [e]
    rw [ea]
    exact ⟨e, rfl⟩
  · clear h1 h
    cases q : K.lookup (allAt K) with
    | none =>
      rw [q] at h2
      cases h2
    | some o =>
      obtain ⟨oc, od, dt, osl⟩ := o
      rw [q] at h2
      cases oc with
      | type c =>
        cases dt with
        | seq its n =>
          obtain ⟨h1, h2⟩ := He.ba (show (decide (c = "tuple") && (decide (its.size ≤ sizeLine) && He.relAll [V.str "plain", V.str "single", V.str "next", V.str "block", V.str "later"] its.toList)) = true from h2)
          obtain ⟨h3, h4⟩ := He.ba h2
          exact .inr ⟨_, its, n, q, congrArg Value.type (of_decide_eq_true h1), rfl, of_decide_eq_true h3, He.relAll_ok h4⟩
        | _ => cases h2
      | _ => cases dt <;> cases h2
def mk0B (K : PySem.W.Frag) (x : Str) : Bool := PySem.W.makesIn K (ga K x) && (He.eqO (PySem.W.findIn K (.ref (ga K x)) "__init__") (some (some (.builtin "object.__init__"))) && PySem.W.keepIn K (.ref (ga K x)))
theorem mk0B_ok {x : Str} (h : mk0B K x = true) : Mk0 K (ga K x) := by
  obtain ⟨h1, h⟩ := He.ba h
  exact ⟨h1, He.eqO_ok (He.ba h).1, (He.ba h).2⟩
theorem excX {x : Str} (g : mg x = some (.ref (ga K x))) (c : (He.Fa.exc x).ok K = true) (d : (He.Fa.exm x x true).ok K = true) : ExF K mg x := by
  obtain ⟨c1, c2, c3, c4⟩ := He.exc_ok c
  exact ⟨g, c1, c2, c3, c4, He.exm_ok d⟩
/-! ### a def with a cell for its class -/
abbrev FnC : Type := Option (Str × Str × Arguments × FuncBody × Scope × Addr × List Str × Value × Addr)
def fnC (K : PySem.W.Frag) (a : Addr) : FnC := match K.lookup a with
  | some ⟨_, _, .func fd, _⟩ => some (fd.name, fd.qualname, fd.params, fd.body, fd.scope, fd.globals, fd.closure.map (·.1), fd.defaults, fd.builtins)
  | _ => none
structure SDef where
  cls : Str
  over : Str
  name : Str
  qual : Str
  st : Stmt
def SDef.ad (K : PySem.W.Frag) (d : SDef) : Addr := ma K (ga K d.cls) d.name
def SDef.val (d : SDef) : FnC := some (d.name, d.qual, defArgs d.st, FuncBody.stmts (defBody d.st), defScope d.st, mainGlobals, [("__class__" : Str)], Value.none, builtinsNs)
def SDef.cellB (K : PySem.W.Frag) (d : SDef) : Bool := match K.lookup (d.ad K) with
  | some ⟨_, _, .func fd, _⟩ => (match fd.code, fd.closure with
    | .ref cda, [(_, cc)] => PySem.W.codeIn K (.ref cda) d.qual && ((match K.lookup cc with
      | some ⟨_, _, .cell (some (.ref z)), _⟩ => decide (z = ga K d.cls)
      | _ => false) && (match K.lookup cda with
      | some ⟨_, _, .fields vs, _⟩ => (match vs[2]? with
        | some (Value.str y _) => decide (y = ("/claim/cut.py" : Str))
        | _ => false)
      | _ => false))
    | _, _ => false)
  | _ => false
def SDef.ok (K : PySem.W.Frag) (d : SDef) : Bool := (He.Fa.meth d.cls d.name).ok K && (d.cellB K && (decide (PySem.W.ks_superIn K (ga K d.cls) (ga K d.cls) d.name = some (some (.ref (ma K (ga K d.over) d.name)))) &&
  (decide (PySem.W.typeIn K (.ref (ma K (ga K d.over) d.name)) = some (.type "function")) && (PySem.W.fnIn K (ma K (ga K d.over) d.name) && ((PySem.W.clsIn K (ga K d.cls)).isSome && (decide (PySem.W.mroIn K (ga K d.cls) (.ref (ga K d.cls)) = some true) &&
  He.eqO (PySem.W.nsIn K cStatics "thirdparty.any") (some none)))))))
theorem SDef.sf {d : SDef} (e : fnC K (d.ad K) = d.val) (h : d.ok K = true) : SF K d.cls d.over d.name d.qual d.st := by
  obtain ⟨h1, h⟩ := He.ba h
  obtain ⟨h2, h⟩ := He.ba h
  obtain ⟨h3, h⟩ := He.ba h
  obtain ⟨h4, h⟩ := He.ba h
  obtain ⟨h5, h⟩ := He.ba h
  obtain ⟨h6, h⟩ := He.ba h
  obtain ⟨h7, h8⟩ := He.ba h
  refine ⟨He.meth_ok h1, ?_, of_decide_eq_true h3, of_decide_eq_true h4, h5, h6, of_decide_eq_true h7, He.eqO_ok h8⟩
  clear h1 h3 h4 h5 h6 h7 h8 h
  unfold SDef.cellB at h2
  unfold fnC at e
  show ∃ (oc : Value) (od : Option Addr) (kV doc pm : Value) (an : Option Addr) (cda cc : Addr) (ct : Value) (osl : Array (Option Value)) (cl ccl : Value) (cld cdd : Option Addr) (csl ccs : Array (Option Value)) (vs : Array Value) (tf : Tok),
    K.lookup (d.ad K) = some ⟨oc, od, .func (PySem.W.ksFn d.name d.qual (defArgs d.st) (defBody d.st) (defScope d.st) .none kV doc pm an (.ref cda) ct cc), osl⟩ ∧ PySem.W.codeIn K (.ref cda) d.qual = true ∧
    K.lookup cc = some ⟨cl, cld, .cell (some (.ref (ga K d.cls))), csl⟩ ∧ K.lookup cda = some ⟨ccl, cdd, .fields vs, ccs⟩ ∧ vs[2]? = some (.str "/claim/cut.py" tf)
  cases q : K.lookup (d.ad K) with
  | none =>
    rw [q] at e
    cases e
  | some o =>
    obtain ⟨oc, od, dt, osl⟩ := o
    rw [q] at h2 e
    cases dt with
    | func fd =>
      obtain ⟨n1, n2, n3, n4, n5, n6, n7, n8, n9, n10, n11, n12, n13, n14, n15⟩ := fd
      have e2 : (some (n1, n2, n3, n4, n5, n6, n7.map (·.1), n8, n15) : FnC) = some (d.name, d.qual, defArgs d.st, FuncBody.stmts (defBody d.st), defScope d.st, mainGlobals, [("__class__" : Str)], Value.none, builtinsNs) := e
      simp only [Option.some.injEq, Prod.mk.injEq] at e2
      obtain ⟨rfl, rfl, rfl, rfl, rfl, rfl, e7, rfl, rfl⟩ := e2
      clear e
      dsimp only at h2
      split at h2
      · rename_i cda s0 cc
        have e8 : s0 = "__class__" := by
          have : [s0] = [("__class__" : Str)] := e7
          injection this
        subst e8
        obtain ⟨k1, k⟩ := He.ba h2
        obtain ⟨k2, k3⟩ := He.ba k
        split at k2
        · rename_i cl cld z csl e9
          split at k3
          · rename_i ccl cdd vs ccs e10
            split at k3
            · rename_i y tf e11
              rw [of_decide_eq_true k2] at e9
              rw [of_decide_eq_true k3] at e11
              exact ⟨oc, od, n9, n10, n11, n12, cda, cc, n14, osl, cl, ccl, cld, cdd, csl, ccs, vs, tf, rfl, k1, e9, e10, e11⟩
            · cases k3
          · cases k3
        · cases k2
      · cases h2
    | _ => cases e
end
/-! ### the Hook -/
def mkD (at_ : PySem.W.Frag → Addr) (name qual : Str) (st : Stmt) (kwd : List (Str × He.Dv)) : He5.DefA := ⟨at_, name, qual, defArgs st, defBody st, defScope st, [], kwd⟩
theorem funOf {K : PySem.W.Frag} {x qual : Str} {st : Stmt} {f : Addr} (h : ∃ fd, FunD K x qual (defArgs st) (defBody st) (defScope st) [] [] f fd) : ∃ fd, Fun K x qual st f fd := by
  obtain ⟨fd, F⟩ := h
  exact ⟨fd, He5.fun_of F⟩
abbrev AlK : Type := Bool × (List He.FnW × List FnC)
def fa0 : List He.Fa := [.glo "is_integer_rules",
  .glo "is_run",
  .glo "are_runs",
  .glo "need_runs",
  .glo "rule_of",
  .glo "is_integer_shortest",
  .glo "check_number",
  .glo "steps_of",
  .glo "cheapest_ways",
  .glo "excesses",
  .glo "bound_of",
  .glo "stretches_of",
  .glo "worth_of",
  .glo "cheapest_by_worth",
  .glo "tables_to",
  .glo "best_table",
  .glo "fewest",
  .glo "runs_of",
  .glo "far_word",
  .glo "shortest",
  .glo "is_entry",
  .glo "shows_bound",
  .glo "fewest_to",
  .glo "are_values",
  .glo "is_rule",
  .glo "signs_of",
  .glo "value_of",
  .glo "size_of",
  .glo "last_number",
  .glo "first_longer"]
def fa1 : List He.Fa := [.glo "_law_bag",
  .glo "_law_stirred",
  .glo "_law_draw",
  .glo "_law_alike",
  .glo "_law_row",
  .glo "_law_rule",
  .glo "_law_table",
  .glo "_law_number_right",
  .glo "law",
  .int "MOST_RUNS" 200,
  .int "MOST" (10 ^ 30),
  .int "MOST_VALUE" 60,
  .int "MOST_DIFFERENT" 12,
  .str "PLAIN" "plain",
  .str "SINGLE" "single",
  .str "NEXT" "next",
  .str "BLOCK" "block",
  .free "len",
  .free "isinstance",
  .free "all",
  .free "sum",
  .free "range",
  .free "enumerate",
  .free "zip",
  .free "sorted",
  .free "max",
  .free "min",
  .free "abs",
  .free "int",
  .free "list"]
def fa2 : List He.Fa := [.free "set",
  .free "tuple",
  .free "bool",
  .free "str",
  .free "super",
  .glo "System",
  .cls "System",
  .glo "Sums",
  .cls "Sums",
  .glo "Far",
  .cls "Far",
  .glo "Rule",
  .noat "System" "held_values",
  .noat "System" "held_rule",
  .mkr "System",
  .meth "System" "with_rule",
  .glo "Plain",
  .cls "Plain",
  .glo "Single",
  .cls "Single",
  .glo "Next",
  .cls "Next",
  .glo "Block",
  .cls "Block",
  .glo "Later",
  .cls "Later",
  .meth "Plain" "signs",
  .meth "Next" "signs",
  .meth "Block" "signs",
  .noat "Sums" "pieces"]
def fa3 : List He.Fa := [.noat "Sums" "lowest",
  .noat "Sums" "highest",
  .noat "Sums" "sizes",
  .noat "Sums" "last_values",
  .mkr "Sums",
  .meth "Sums" "grow",
  .meth "Sums" "go_on_from",
  .noat "Far" "most",
  .noat "Far" "small",
  .noat "Far" "step",
  .noat "Far" "excess",
  .mkr "Far",
  .meth "Far" "fewest_at",
  .glo "NoWord",
  .exc "NoWord",
  .exm "NoWord" "NoWord" true]
def fa : List He.Fa := fa0 ++ (fa1 ++ (fa2 ++ (fa3)))
def bx0 : List (PySem.W.Frag → Bool) := [(fun K => readB K "System"),
  mostB,
  (fun K => cmB K "System" "of"),
  (fun K => propB K "System" "row"),
  (fun K => propB K "System" "rule"),
  (fun K => propB K "System" "greatest"),
  (fun K => readB K "Rule"),
  allB,
  (fun K => cmB K "Rule" "named"),
  (fun K => mk0B K "Plain"),
  (fun K => mk0B K "Single"),
  (fun K => mk0B K "Next"),
  (fun K => mk0B K "Block"),
  (fun K => mk0B K "Later")]
def bx : List (PySem.W.Frag → Bool) := bx0
def fn0 : List He5.DefA := [mkD (fun K => ga K "is_integer_rules") "is_integer" "is_integer" (top 13) [],
  mkD (fun K => ga K "is_run") "is_run" "is_run" (top 15) [],
  mkD (fun K => ga K "are_runs") "are_runs" "are_runs" (top 16) [],
  mkD (fun K => ga K "need_runs") "need_runs" "need_runs" (top 17) [],
  mkD (fun K => ga K "rule_of") "rule_of" "rule_of" (top 24) [],
  mkD (fun K => ga K "is_integer_shortest") "is_integer" "is_integer" (top 27) [],
  mkD (fun K => ga K "check_number") "check_number" "check_number" (top 29) [],
  mkD (fun K => ga K "steps_of") "steps_of" "steps_of" (top 30) [],
  mkD (fun K => ga K "cheapest_ways") "cheapest_ways" "cheapest_ways" (top 31) [],
  mkD (fun K => ga K "excesses") "excesses" "excesses" (top 32) [],
  mkD (fun K => ga K "bound_of") "bound_of" "bound_of" (top 33) [],
  mkD (fun K => ga K "stretches_of") "stretches_of" "stretches_of" (top 34) [],
  mkD (fun K => ga K "worth_of") "worth_of" "worth_of" (top 35) [],
  mkD (fun K => ga K "cheapest_by_worth") "cheapest_by_worth" "cheapest_by_worth" (top 36) [],
  mkD (fun K => ga K "tables_to") "tables_to" "tables_to" (top 38) [],
  mkD (fun K => ga K "best_table") "best_table" "best_table" (top 39) [],
  mkD (fun K => ga K "fewest") "fewest" "fewest" (top 40) [],
  mkD (fun K => ga K "runs_of") "runs_of" "runs_of" (top 41) [],
  mkD (fun K => ga K "far_word") "far_word" "far_word" (top 42) [],
  mkD (fun K => ga K "shortest") "shortest" "shortest" (top 44) []]
def fn1 : List He5.DefA := [mkD (fun K => ga K "is_entry") "is_entry" "is_entry" (top 45) [],
  mkD (fun K => ga K "shows_bound") "shows_bound" "shows_bound" (top 46) [],
  mkD (fun K => ga K "fewest_to") "fewest_to" "fewest_to" (top 47) [],
  mkD (fun K => ga K "are_values") "are_values" "are_values" (top 50) [],
  mkD (fun K => ga K "is_rule") "is_rule" "is_rule" (top 51) [],
  mkD (fun K => ga K "signs_of") "signs_of" "signs_of" (top 55) [],
  mkD (fun K => ga K "value_of") "value_of" "value_of" (top 56) [],
  mkD (fun K => ga K "size_of") "size_of" "size_of" (top 57) [],
  mkD (fun K => ga K "last_number") "last_number" "last_number" (top 61) [],
  mkD (fun K => ga K "first_longer") "first_longer" "first_longer" (top 62) [],
  mkD (fun K => ga K "_law_bag") "_law_bag" "_law_bag" (top 64) [],
  mkD (fun K => ga K "_law_stirred") "_law_stirred" "_law_stirred" (top 65) [],
  mkD (fun K => ga K "_law_draw") "_law_draw" "_law_draw" (top 66) [],
  mkD (fun K => ga K "_law_alike") "_law_alike" "_law_alike" (top 67) [],
  mkD (fun K => ga K "_law_row") "_law_row" "_law_row" (top 68) [],
  mkD (fun K => ga K "_law_rule") "_law_rule" "_law_rule" (top 69) [],
  mkD (fun K => ga K "_law_table") "_law_table" "_law_table" (top 75) [],
  mkD (fun K => ga K "_law_number_right") "_law_number_right" "_law_number_right" (top 76) [],
  mkD (fun K => ga K "law") "law" "law" (top 77) [],
  mkD (fun K => ma K (ga K "System") "__init__") "__init__" "System.__init__" (atC 53 1) [("rule", .str "next")]]
def fn2 : List He5.DefA := [mkD (fun K => He5.wf K (ga K "System") "classmethod" "of") "of" "System.of" (atC 53 2) [],
  mkD (fun K => pf K "System" "row") "row" "System.row" (atC 53 3) [],
  mkD (fun K => pf K "System" "rule") "rule" "System.rule" (atC 53 4) [],
  mkD (fun K => pf K "System" "greatest") "greatest" "System.greatest" (atC 53 5) [],
  mkD (fun K => ma K (ga K "System") "with_rule") "with_rule" "System.with_rule" (atC 53 7) [],
  mkD (fun K => He5.wf K (ga K "Rule") "classmethod" "named") "named" "Rule.named" (atC 18 2) [],
  mkD (fun K => ma K (ga K "Plain") "signs") "signs" "Plain.signs" (atC 19 1) [],
  mkD (fun K => ma K (ga K "Next") "signs") "signs" "Next.signs" (atC 20 1) [],
  mkD (fun K => ma K (ga K "Block") "signs") "signs" "Block.signs" (atC 22 1) [],
  mkD (fun K => ma K (ga K "Sums") "__init__") "__init__" "Sums.__init__" (atC 37 0) [],
  mkD (fun K => ma K (ga K "Sums") "grow") "grow" "Sums.grow" (atC 37 1) [],
  mkD (fun K => ma K (ga K "Sums") "go_on_from") "go_on_from" "Sums.go_on_from" (atC 37 2) [],
  mkD (fun K => ma K (ga K "Far") "__init__") "__init__" "Far.__init__" (atC 60 0) [],
  mkD (fun K => ma K (ga K "Far") "fewest_at") "fewest_at" "Far.fewest_at" (atC 60 1) []]
def fn : List He5.DefA := fn0 ++ (fn1 ++ (fn2))
def sd0 : List SDef := [⟨"Single", "Next", "signs", "Single.signs", atC 21 1⟩,
  ⟨"Later", "Block", "signs", "Later.signs", atC 23 1⟩]
def sd : List SDef := sd0
def obsK (K : PySem.W.Frag) : AlK := ((fa.all fun f => f.ok K) && ((bx.all fun b => b K) && ((fn.all fun d => d.ok K) && sd.all fun d => d.ok K)), (fn.map fun d => He5.fnA K (d.at_ K), sd.map fun d => fnC K (d.ad K)))
def valK : AlK := (true, (fn.map He5.DefA.val, sd.map SDef.val))
def SaysK (K : PySem.W.Frag) : Prop := obsK K = valK
/-- what an object of the text names -/
def refsK (o : Obj) : List Addr := match o.data with
  | .dict es _ => es.toList.flatMap fun e => He.refV e.val
  | .func fd => He.refV fd.code ++ (He.refV fd.kwdefaults ++ fd.closure.map (·.2))
  | .cls cd => [cd.ns]
  | .fields vs => (match o.cls with
    | .type c => (match c == "property" || c == "classmethod" with
      | true => vs.toList.flatMap He.refV
      | false => [])
    | _ => [])
  | _ => []
def nextK (g : Addr → Option Obj) (as : List Addr) : List Addr := as.flatMap fun a => match g a with
  | some o => refsK o
  | none => []
def accK (g : Addr → Option Obj) : Nat → List Addr → List Addr → List Addr
  | 0, _, acc => acc
  | n + 1, front, acc => accK g n (nextK g front) (acc ++ nextK g front)
def obsG (g : Addr → Option Obj) : AlK := obsK (He.frG g (accK g 5 [mainGlobals] [mainGlobals, cStatics]))
def hk : PySem.W.Hook where
  α := AlK
  obs := fun s => obsG s.heap.get?
  val := fun _ => valK
  says := fun _ h => ∃ K : PySem.W.Frag, K.In h ∧ SaysK K
  of := fun _ _ e => ⟨_, He.frG_in, e⟩
  keeps := fun _ _ _ ⟨K, hK, c⟩ k => ⟨K, PySem.W.Frag.In.keeps hK k, c⟩
def ob (s : PySem.W.SharedT) : AlK := obsG (HandSHeadRun.getT s)
theorem ob_eq (s : PySem.W.SharedT) : ob s = hk.obs s.abs := by
  have e : HandSHeadRun.getT s = s.abs.heap.get? := funext (HandSHeadRun.getT_eq s)
  show obsG (HandSHeadRun.getT s) = obsG s.abs.heap.get?
  rw [e]
section
variable {K : PySem.W.Frag}
theorem SaysK.b (c : SaysK K) : ((fa.all fun f => f.ok K) && ((bx.all fun b => b K) && ((fn.all fun d => d.ok K) && sd.all fun d => d.ok K))) = true := congrArg (fun z : AlK => z.1) c
theorem SaysK.fa (c : SaysK K) (i : Nat) {f : He.Fa} (h : K75R.fa[i]? = some f) : f.ok K = true := List.all_eq_true.mp (He.ba c.b).1 f (List.mem_of_getElem? h)
theorem SaysK.ex (c : SaysK K) (i : Nat) {b : PySem.W.Frag → Bool} (h : bx[i]? = some b) : b K = true := List.all_eq_true.mp (He.ba (He.ba c.b).2).1 b (List.mem_of_getElem? h)
theorem SaysK.df (c : SaysK K) (i : Nat) {d : He5.DefA} (h : fn[i]? = some d) : ∃ fd, FunD K d.name d.qual d.params d.body d.scope (d.dvs K) (d.kws K) (d.at_ K) fd := by
  have e : fn.map (fun d => He5.fnA K (d.at_ K)) = fn.map He5.DefA.val := congrArg (fun z : AlK => z.2.1) c
  have e2 : (fn.map fun d => He5.fnA K (d.at_ K))[i]? = (fn.map He5.DefA.val)[i]? := by rw [e]
  rw [List.getElem?_map, List.getElem?_map, h] at e2
  exact He5.DefA.funD (Option.some.inj e2) (List.all_eq_true.mp (He.ba (He.ba (He.ba c.b).2).2).1 d (List.mem_of_getElem? h))
theorem SaysK.sd (c : SaysK K) (i : Nat) {d : SDef} (h : K75R.sd[i]? = some d) : SF K d.cls d.over d.name d.qual d.st := by
  have e : K75R.sd.map (fun d => fnC K (d.ad K)) = K75R.sd.map SDef.val := congrArg (fun z : AlK => z.2.2) c
  have e2 : (K75R.sd.map fun d => fnC K (d.ad K))[i]? = (K75R.sd.map SDef.val)[i]? := by rw [e]
  rw [List.getElem?_map, List.getElem?_map, h] at e2
  exact SDef.sf (Option.some.inj e2) (List.all_eq_true.mp (He.ba (He.ba (He.ba c.b).2).2).2 d (List.mem_of_getElem? h))
end
theorem txt_of {K : PySem.W.Frag} {h : Heap} {mg : Str → Option Value} (X : K.In h) (G : h.Ns mainGlobals mg) (c : SaysK K) : Txt K mg where
  is_integer_rules := ⟨(He.glo_ok X G (c.fa 0 (f := .glo "is_integer_rules") rfl)), (funOf (c.df 0 (d := mkD (fun K => ga K "is_integer_rules") "is_integer" "is_integer" (top 13) []) rfl))⟩
  is_run := ⟨(He.glo_ok X G (c.fa 1 (f := .glo "is_run") rfl)), (funOf (c.df 1 (d := mkD (fun K => ga K "is_run") "is_run" "is_run" (top 15) []) rfl))⟩
  are_runs := ⟨(He.glo_ok X G (c.fa 2 (f := .glo "are_runs") rfl)), (funOf (c.df 2 (d := mkD (fun K => ga K "are_runs") "are_runs" "are_runs" (top 16) []) rfl))⟩
  need_runs := ⟨(He.glo_ok X G (c.fa 3 (f := .glo "need_runs") rfl)), (funOf (c.df 3 (d := mkD (fun K => ga K "need_runs") "need_runs" "need_runs" (top 17) []) rfl))⟩
  rule_of := ⟨(He.glo_ok X G (c.fa 4 (f := .glo "rule_of") rfl)), (funOf (c.df 4 (d := mkD (fun K => ga K "rule_of") "rule_of" "rule_of" (top 24) []) rfl))⟩
  is_integer_shortest := ⟨(He.glo_ok X G (c.fa 5 (f := .glo "is_integer_shortest") rfl)), (funOf (c.df 5 (d := mkD (fun K => ga K "is_integer_shortest") "is_integer" "is_integer" (top 27) []) rfl))⟩
  check_number := ⟨(He.glo_ok X G (c.fa 6 (f := .glo "check_number") rfl)), (funOf (c.df 6 (d := mkD (fun K => ga K "check_number") "check_number" "check_number" (top 29) []) rfl))⟩
  steps_of := ⟨(He.glo_ok X G (c.fa 7 (f := .glo "steps_of") rfl)), (funOf (c.df 7 (d := mkD (fun K => ga K "steps_of") "steps_of" "steps_of" (top 30) []) rfl))⟩
  cheapest_ways := ⟨(He.glo_ok X G (c.fa 8 (f := .glo "cheapest_ways") rfl)), (funOf (c.df 8 (d := mkD (fun K => ga K "cheapest_ways") "cheapest_ways" "cheapest_ways" (top 31) []) rfl))⟩
  excesses := ⟨(He.glo_ok X G (c.fa 9 (f := .glo "excesses") rfl)), (funOf (c.df 9 (d := mkD (fun K => ga K "excesses") "excesses" "excesses" (top 32) []) rfl))⟩
  bound_of := ⟨(He.glo_ok X G (c.fa 10 (f := .glo "bound_of") rfl)), (funOf (c.df 10 (d := mkD (fun K => ga K "bound_of") "bound_of" "bound_of" (top 33) []) rfl))⟩
  stretches_of := ⟨(He.glo_ok X G (c.fa 11 (f := .glo "stretches_of") rfl)), (funOf (c.df 11 (d := mkD (fun K => ga K "stretches_of") "stretches_of" "stretches_of" (top 34) []) rfl))⟩
  worth_of := ⟨(He.glo_ok X G (c.fa 12 (f := .glo "worth_of") rfl)), (funOf (c.df 12 (d := mkD (fun K => ga K "worth_of") "worth_of" "worth_of" (top 35) []) rfl))⟩
  cheapest_by_worth := ⟨(He.glo_ok X G (c.fa 13 (f := .glo "cheapest_by_worth") rfl)), (funOf (c.df 13 (d := mkD (fun K => ga K "cheapest_by_worth") "cheapest_by_worth" "cheapest_by_worth" (top 36) []) rfl))⟩
  tables_to := ⟨(He.glo_ok X G (c.fa 14 (f := .glo "tables_to") rfl)), (funOf (c.df 14 (d := mkD (fun K => ga K "tables_to") "tables_to" "tables_to" (top 38) []) rfl))⟩
  best_table := ⟨(He.glo_ok X G (c.fa 15 (f := .glo "best_table") rfl)), (funOf (c.df 15 (d := mkD (fun K => ga K "best_table") "best_table" "best_table" (top 39) []) rfl))⟩
  fewest := ⟨(He.glo_ok X G (c.fa 16 (f := .glo "fewest") rfl)), (funOf (c.df 16 (d := mkD (fun K => ga K "fewest") "fewest" "fewest" (top 40) []) rfl))⟩
  runs_of := ⟨(He.glo_ok X G (c.fa 17 (f := .glo "runs_of") rfl)), (funOf (c.df 17 (d := mkD (fun K => ga K "runs_of") "runs_of" "runs_of" (top 41) []) rfl))⟩
  far_word := ⟨(He.glo_ok X G (c.fa 18 (f := .glo "far_word") rfl)), (funOf (c.df 18 (d := mkD (fun K => ga K "far_word") "far_word" "far_word" (top 42) []) rfl))⟩
  shortest := ⟨(He.glo_ok X G (c.fa 19 (f := .glo "shortest") rfl)), (funOf (c.df 19 (d := mkD (fun K => ga K "shortest") "shortest" "shortest" (top 44) []) rfl))⟩
  is_entry := ⟨(He.glo_ok X G (c.fa 20 (f := .glo "is_entry") rfl)), (funOf (c.df 20 (d := mkD (fun K => ga K "is_entry") "is_entry" "is_entry" (top 45) []) rfl))⟩
  shows_bound := ⟨(He.glo_ok X G (c.fa 21 (f := .glo "shows_bound") rfl)), (funOf (c.df 21 (d := mkD (fun K => ga K "shows_bound") "shows_bound" "shows_bound" (top 46) []) rfl))⟩
  fewest_to := ⟨(He.glo_ok X G (c.fa 22 (f := .glo "fewest_to") rfl)), (funOf (c.df 22 (d := mkD (fun K => ga K "fewest_to") "fewest_to" "fewest_to" (top 47) []) rfl))⟩
  are_values := ⟨(He.glo_ok X G (c.fa 23 (f := .glo "are_values") rfl)), (funOf (c.df 23 (d := mkD (fun K => ga K "are_values") "are_values" "are_values" (top 50) []) rfl))⟩
  is_rule := ⟨(He.glo_ok X G (c.fa 24 (f := .glo "is_rule") rfl)), (funOf (c.df 24 (d := mkD (fun K => ga K "is_rule") "is_rule" "is_rule" (top 51) []) rfl))⟩
  signs_of := ⟨(He.glo_ok X G (c.fa 25 (f := .glo "signs_of") rfl)), (funOf (c.df 25 (d := mkD (fun K => ga K "signs_of") "signs_of" "signs_of" (top 55) []) rfl))⟩
  value_of := ⟨(He.glo_ok X G (c.fa 26 (f := .glo "value_of") rfl)), (funOf (c.df 26 (d := mkD (fun K => ga K "value_of") "value_of" "value_of" (top 56) []) rfl))⟩
  size_of := ⟨(He.glo_ok X G (c.fa 27 (f := .glo "size_of") rfl)), (funOf (c.df 27 (d := mkD (fun K => ga K "size_of") "size_of" "size_of" (top 57) []) rfl))⟩
  last_number := ⟨(He.glo_ok X G (c.fa 28 (f := .glo "last_number") rfl)), (funOf (c.df 28 (d := mkD (fun K => ga K "last_number") "last_number" "last_number" (top 61) []) rfl))⟩
  first_longer := ⟨(He.glo_ok X G (c.fa 29 (f := .glo "first_longer") rfl)), (funOf (c.df 29 (d := mkD (fun K => ga K "first_longer") "first_longer" "first_longer" (top 62) []) rfl))⟩
  law_bag := ⟨(He.glo_ok X G (c.fa 30 (f := .glo "_law_bag") rfl)), (funOf (c.df 30 (d := mkD (fun K => ga K "_law_bag") "_law_bag" "_law_bag" (top 64) []) rfl))⟩
  law_stirred := ⟨(He.glo_ok X G (c.fa 31 (f := .glo "_law_stirred") rfl)), (funOf (c.df 31 (d := mkD (fun K => ga K "_law_stirred") "_law_stirred" "_law_stirred" (top 65) []) rfl))⟩
  law_draw := ⟨(He.glo_ok X G (c.fa 32 (f := .glo "_law_draw") rfl)), (funOf (c.df 32 (d := mkD (fun K => ga K "_law_draw") "_law_draw" "_law_draw" (top 66) []) rfl))⟩
  law_alike := ⟨(He.glo_ok X G (c.fa 33 (f := .glo "_law_alike") rfl)), (funOf (c.df 33 (d := mkD (fun K => ga K "_law_alike") "_law_alike" "_law_alike" (top 67) []) rfl))⟩
  law_row := ⟨(He.glo_ok X G (c.fa 34 (f := .glo "_law_row") rfl)), (funOf (c.df 34 (d := mkD (fun K => ga K "_law_row") "_law_row" "_law_row" (top 68) []) rfl))⟩
  law_rule := ⟨(He.glo_ok X G (c.fa 35 (f := .glo "_law_rule") rfl)), (funOf (c.df 35 (d := mkD (fun K => ga K "_law_rule") "_law_rule" "_law_rule" (top 69) []) rfl))⟩
  law_table := ⟨(He.glo_ok X G (c.fa 36 (f := .glo "_law_table") rfl)), (funOf (c.df 36 (d := mkD (fun K => ga K "_law_table") "_law_table" "_law_table" (top 75) []) rfl))⟩
  law_number_right := ⟨(He.glo_ok X G (c.fa 37 (f := .glo "_law_number_right") rfl)), (funOf (c.df 37 (d := mkD (fun K => ga K "_law_number_right") "_law_number_right" "_law_number_right" (top 76) []) rfl))⟩
  law := ⟨(He.glo_ok X G (c.fa 38 (f := .glo "law") rfl)), (funOf (c.df 38 (d := mkD (fun K => ga K "law") "law" "law" (top 77) []) rfl))⟩
  c_MOST_RUNS := He.int_ok X G (c.fa 39 (f := .int "MOST_RUNS" 200) rfl)
  c_MOST := He.int_ok X G (c.fa 40 (f := .int "MOST" (10 ^ 30)) rfl)
  c_MOST_VALUE := He.int_ok X G (c.fa 41 (f := .int "MOST_VALUE" 60) rfl)
  c_MOST_DIFFERENT := He.int_ok X G (c.fa 42 (f := .int "MOST_DIFFERENT" 12) rfl)
  c_PLAIN := He.str_ok X G (c.fa 43 (f := .str "PLAIN" "plain") rfl)
  c_SINGLE := He.str_ok X G (c.fa 44 (f := .str "SINGLE" "single") rfl)
  c_NEXT := He.str_ok X G (c.fa 45 (f := .str "NEXT" "next") rfl)
  c_BLOCK := He.str_ok X G (c.fa 46 (f := .str "BLOCK" "block") rfl)
  b_len := He.free_ok X G (c.fa 47 (f := .free "len") rfl)
  b_isinstance := He.free_ok X G (c.fa 48 (f := .free "isinstance") rfl)
  b_all := He.free_ok X G (c.fa 49 (f := .free "all") rfl)
  b_sum := He.free_ok X G (c.fa 50 (f := .free "sum") rfl)
  b_range := He.free_ok X G (c.fa 51 (f := .free "range") rfl)
  b_enumerate := He.free_ok X G (c.fa 52 (f := .free "enumerate") rfl)
  b_zip := He.free_ok X G (c.fa 53 (f := .free "zip") rfl)
  b_sorted := He.free_ok X G (c.fa 54 (f := .free "sorted") rfl)
  b_max := He.free_ok X G (c.fa 55 (f := .free "max") rfl)
  b_min := He.free_ok X G (c.fa 56 (f := .free "min") rfl)
  b_abs := He.free_ok X G (c.fa 57 (f := .free "abs") rfl)
  b_int := He.free_ok X G (c.fa 58 (f := .free "int") rfl)
  b_list := He.free_ok X G (c.fa 59 (f := .free "list") rfl)
  b_set := He.free_ok X G (c.fa 60 (f := .free "set") rfl)
  b_tuple := He.free_ok X G (c.fa 61 (f := .free "tuple") rfl)
  b_bool := He.free_ok X G (c.fa 62 (f := .free "bool") rfl)
  b_str := He.free_ok X G (c.fa 63 (f := .free "str") rfl)
  b_super := He.free_ok X G (c.fa 64 (f := .free "super") rfl)
  System := ⟨(He.glo_ok X G (c.fa 65 (f := .glo "System") rfl)), He.cls_ok (c.fa 66 (f := .cls "System") rfl)⟩
  Sums := ⟨(He.glo_ok X G (c.fa 67 (f := .glo "Sums") rfl)), He.cls_ok (c.fa 68 (f := .cls "Sums") rfl)⟩
  Far := ⟨(He.glo_ok X G (c.fa 69 (f := .glo "Far") rfl)), He.cls_ok (c.fa 70 (f := .cls "Far") rfl)⟩
  Rule := (He.glo_ok X G (c.fa 71 (f := .glo "Rule") rfl))
  n_held_values := He.noat_ok (c.fa 72 (f := .noat "System" "held_values") rfl)
  n_held_rule := He.noat_ok (c.fa 73 (f := .noat "System" "held_rule") rfl)
  sys_mk := He.mkr_ok (c.fa 74 (f := .mkr "System") rfl)
  sys_init := (c.df 39 (d := mkD (fun K => ma K (ga K "System") "__init__") "__init__" "System.__init__" (atC 53 1) [("rule", .str "next")]) rfl)
  sys_read := readB_ok (c.ex 0 (b := (fun K => readB K "System")) rfl)
  sys_most := mostB_ok (c.ex 1 (b := mostB) rfl)
  sys_of := of_cm (c.ex 2 (b := (fun K => cmB K "System" "of")) rfl)
  f_of := (funOf (c.df 40 (d := mkD (fun K => He5.wf K (ga K "System") "classmethod" "of") "of" "System.of" (atC 53 2) []) rfl))
  row := ⟨propB_ok (c.ex 3 (b := (fun K => propB K "System" "row")) rfl), (funOf (c.df 41 (d := mkD (fun K => pf K "System" "row") "row" "System.row" (atC 53 3) []) rfl))⟩
  rule := ⟨propB_ok (c.ex 4 (b := (fun K => propB K "System" "rule")) rfl), (funOf (c.df 42 (d := mkD (fun K => pf K "System" "rule") "rule" "System.rule" (atC 53 4) []) rfl))⟩
  greatest := ⟨propB_ok (c.ex 5 (b := (fun K => propB K "System" "greatest")) rfl), (funOf (c.df 43 (d := mkD (fun K => pf K "System" "greatest") "greatest" "System.greatest" (atC 53 5) []) rfl))⟩
  with_rule := ⟨He.meth_ok (c.fa 75 (f := .meth "System" "with_rule") rfl), (funOf (c.df 44 (d := mkD (fun K => ma K (ga K "System") "with_rule") "with_rule" "System.with_rule" (atC 53 7) []) rfl))⟩
  rule_read := readB_ok (c.ex 6 (b := (fun K => readB K "Rule")) rfl)
  rule_all := (allB_ok (c.ex 7 (b := allB) rfl)).1
  all_tup := (allB_ok (c.ex 7 (b := allB) rfl)).2
  rule_named := of_cm (c.ex 8 (b := (fun K => cmB K "Rule" "named")) rfl)
  f_named := (funOf (c.df 45 (d := mkD (fun K => He5.wf K (ga K "Rule") "classmethod" "named") "named" "Rule.named" (atC 18 2) []) rfl))
  Plain := ⟨(He.glo_ok X G (c.fa 76 (f := .glo "Plain") rfl)), He.cls_ok (c.fa 77 (f := .cls "Plain") rfl)⟩
  Single := ⟨(He.glo_ok X G (c.fa 78 (f := .glo "Single") rfl)), He.cls_ok (c.fa 79 (f := .cls "Single") rfl)⟩
  Next := ⟨(He.glo_ok X G (c.fa 80 (f := .glo "Next") rfl)), He.cls_ok (c.fa 81 (f := .cls "Next") rfl)⟩
  Block := ⟨(He.glo_ok X G (c.fa 82 (f := .glo "Block") rfl)), He.cls_ok (c.fa 83 (f := .cls "Block") rfl)⟩
  Later := ⟨(He.glo_ok X G (c.fa 84 (f := .glo "Later") rfl)), He.cls_ok (c.fa 85 (f := .cls "Later") rfl)⟩
  plain_mk := mk0B_ok (c.ex 9 (b := (fun K => mk0B K "Plain")) rfl)
  single_mk := mk0B_ok (c.ex 10 (b := (fun K => mk0B K "Single")) rfl)
  next_mk := mk0B_ok (c.ex 11 (b := (fun K => mk0B K "Next")) rfl)
  block_mk := mk0B_ok (c.ex 12 (b := (fun K => mk0B K "Block")) rfl)
  later_mk := mk0B_ok (c.ex 13 (b := (fun K => mk0B K "Later")) rfl)
  plain_signs := ⟨He.meth_ok (c.fa 86 (f := .meth "Plain" "signs") rfl), (funOf (c.df 46 (d := mkD (fun K => ma K (ga K "Plain") "signs") "signs" "Plain.signs" (atC 19 1) []) rfl))⟩
  next_signs := ⟨He.meth_ok (c.fa 87 (f := .meth "Next" "signs") rfl), (funOf (c.df 47 (d := mkD (fun K => ma K (ga K "Next") "signs") "signs" "Next.signs" (atC 20 1) []) rfl))⟩
  block_signs := ⟨He.meth_ok (c.fa 88 (f := .meth "Block" "signs") rfl), (funOf (c.df 48 (d := mkD (fun K => ma K (ga K "Block") "signs") "signs" "Block.signs" (atC 22 1) []) rfl))⟩
  single_signs := c.sd 0 (d := ⟨"Single", "Next", "signs", "Single.signs", atC 21 1⟩) rfl
  later_signs := c.sd 1 (d := ⟨"Later", "Block", "signs", "Later.signs", atC 23 1⟩) rfl
  n_pieces := He.noat_ok (c.fa 89 (f := .noat "Sums" "pieces") rfl)
  n_lowest := He.noat_ok (c.fa 90 (f := .noat "Sums" "lowest") rfl)
  n_highest := He.noat_ok (c.fa 91 (f := .noat "Sums" "highest") rfl)
  n_sizes := He.noat_ok (c.fa 92 (f := .noat "Sums" "sizes") rfl)
  n_last_values := He.noat_ok (c.fa 93 (f := .noat "Sums" "last_values") rfl)
  sums_mk := He.mkr_ok (c.fa 94 (f := .mkr "Sums") rfl)
  sums_init := (funOf (c.df 49 (d := mkD (fun K => ma K (ga K "Sums") "__init__") "__init__" "Sums.__init__" (atC 37 0) []) rfl))
  grow := ⟨He.meth_ok (c.fa 95 (f := .meth "Sums" "grow") rfl), (funOf (c.df 50 (d := mkD (fun K => ma K (ga K "Sums") "grow") "grow" "Sums.grow" (atC 37 1) []) rfl))⟩
  go_on_from := ⟨He.meth_ok (c.fa 96 (f := .meth "Sums" "go_on_from") rfl), (funOf (c.df 51 (d := mkD (fun K => ma K (ga K "Sums") "go_on_from") "go_on_from" "Sums.go_on_from" (atC 37 2) []) rfl))⟩
  n_most := He.noat_ok (c.fa 97 (f := .noat "Far" "most") rfl)
  n_small := He.noat_ok (c.fa 98 (f := .noat "Far" "small") rfl)
  n_step := He.noat_ok (c.fa 99 (f := .noat "Far" "step") rfl)
  n_excess := He.noat_ok (c.fa 100 (f := .noat "Far" "excess") rfl)
  far_mk := He.mkr_ok (c.fa 101 (f := .mkr "Far") rfl)
  far_init := (funOf (c.df 52 (d := mkD (fun K => ma K (ga K "Far") "__init__") "__init__" "Far.__init__" (atC 60 0) []) rfl))
  fewest_at := ⟨He.meth_ok (c.fa 102 (f := .meth "Far" "fewest_at") rfl), (funOf (c.df 53 (d := mkD (fun K => ma K (ga K "Far") "fewest_at") "fewest_at" "Far.fewest_at" (atC 60 1) []) rfl))⟩
  NoWord := excX (He.glo_ok X G (c.fa 103 (f := .glo "NoWord") rfl)) (c.fa 104 (f := .exc "NoWord") rfl) (c.fa 105 (f := .exm "NoWord" "NoWord" true) rfl)
end K75R
set_option Elab.async false
set_option linter.all false
set_option maxRecDepth 100000
set_option maxHeartbeats 0
/-! The run of the top. Printed by g_run.py. -/
namespace K75R
open PySem PySem.Spec PyProof.Rows L2
abbrev rowR : PySem.W.OpenRow := PySem.W.OpenLaw.row PySem.Challenge.rw_signsheets_k75_whole_far_numbers
abbrev viewR : Program := PySem.W.view rowR.prog [77]
def nms0 : List Str := ["SignError", "InvalidValues", "InvalidWord", "InvalidNumber", "InvalidLength", "NoWord", "MOST_RUNS", "PLAIN", "SINGLE", "NEXT", "BLOCK", "is_integer"]
def nms1 : List Str := ["is_integer_rules", "is_run", "are_runs", "need_runs", "Rule", "Plain", "Next", "Single", "Block", "Later", "rule_of", "MOST"]
def nms2 : List Str := ["is_integer_shortest", "check_number", "steps_of", "cheapest_ways", "excesses", "bound_of", "stretches_of", "worth_of", "cheapest_by_worth", "Sums", "tables_to", "best_table"]
def nms3 : List Str := ["fewest", "runs_of", "far_word", "near_word", "shortest", "is_entry", "shows_bound", "fewest_to", "MOST_VALUE", "are_values", "is_rule", "common_divisor"]
def nms4 : List Str := ["System", "signs_of", "value_of", "size_of", "MOST_DIFFERENT", "Far", "last_number", "first_longer", "_law_bag", "_law_stirred", "_law_draw", "_law_alike"]
def nms5 : List Str := ["_law_row", "_law_rule", "_law_signs", "_law_value", "_law_runs", "_law_sheet", "_law_word", "_law_table", "_law_number_right"]
def nms : List Str := nms0 ++ (nms1 ++ (nms2 ++ (nms3 ++ (nms4 ++ (nms5)))))
theorem runR (w : World) : HandSHeadRun.RunEq rowR viewR hk ob 8000 nms w := by
  intro os
  kernel_rfl
end K75R
set_option Elab.async false
set_option linter.all false
set_option maxRecDepth 100000
set_option maxHeartbeats 4000000
/-! Integers, systems: made, read. -/
namespace K75R
open PySem PySem.Spec PyProof.Rows L2

/-! ### isinstance beside built-in classes -/
def rIs (K : PySem.W.Frag) : List V → Hp → VK → Prop := fun xs H Q => ∃ (x : V) (T t : String) (b : Bool), xs = [x, .ty T] ∧ TyX K H x (.type t) ∧ kitB t T = some b ∧ Q (.bl b) H
theorem call_isB {X : Cx} : CallR X (.builtin "isinstance") (rIs X.K) := by
  intro pins s σ H xs us Q I r h
  obtain ⟨x, T, t, b, rfl, ty, kb, q⟩ := h
  exact call_isi pins s σ H _ us Q I r ⟨x, .ty T, .type t, .type T, b, rfl, .ty T, ty, kit_ty kb, q⟩
theorem kii : kitB "int" "int" = some true := by decide +kernel
theorem kib : kitB "int" "bool" = some false := by decide +kernel
theorem kis : kitB "int" "str" = some false := by decide +kernel
theorem kil : kitB "int" "list" = some false := by decide +kernel
theorem kit : kitB "int" "tuple" = some false := by decide +kernel
theorem kni : kitB "NoneType" "int" = some false := by decide +kernel
theorem knb : kitB "NoneType" "bool" = some false := by decide +kernel
theorem kns : kitB "NoneType" "str" = some false := by decide +kernel
theorem knl : kitB "NoneType" "list" = some false := by decide +kernel
theorem knt : kitB "NoneType" "tuple" = some false := by decide +kernel
theorem kll : kitB "list" "list" = some true := by decide +kernel
theorem klt : kitB "list" "tuple" = some false := by decide +kernel
theorem kss : kitB "str" "str" = some true := by decide +kernel
theorem ktt : kitB "tuple" "tuple" = some true := by decide +kernel

theorem bt_len : bootBuiltins "len" = some (.builtin "len") := by decide +kernel
theorem bt_isinstance : bootBuiltins "isinstance" = some (.builtin "isinstance") := by decide +kernel
theorem bt_all : bootBuiltins "all" = some (.builtin "all") := by decide +kernel
theorem bt_sum : bootBuiltins "sum" = some (.builtin "sum") := by decide +kernel
theorem bt_sorted : bootBuiltins "sorted" = some (.builtin "sorted") := by decide +kernel
theorem bt_max : bootBuiltins "max" = some (.builtin "max") := by decide +kernel
theorem bt_min : bootBuiltins "min" = some (.builtin "min") := by decide +kernel
theorem bt_abs : bootBuiltins "abs" = some (.builtin "abs") := by decide +kernel
theorem bt_int : bootBuiltins "int" = some (.type "int") := by decide +kernel
theorem bt_list : bootBuiltins "list" = some (.type "list") := by decide +kernel
theorem bt_set : bootBuiltins "set" = some (.type "set") := by decide +kernel
theorem bt_tuple : bootBuiltins "tuple" = some (.type "tuple") := by decide +kernel
theorem bt_bool : bootBuiltins "bool" = some (.type "bool") := by decide +kernel
theorem bt_str : bootBuiltins "str" = some (.type "str") := by decide +kernel

end K75R
set_option Elab.async false
set_option linter.all false
set_option maxRecDepth 100000
set_option maxHeartbeats 4000000
/-! Integers, systems: made, read. -/
namespace K75R
open PySem PySem.Spec PyProof.Rows L2
section
variable {P : Program} {w : World} {K : PySem.W.Frag} {mg : Str → Option Value} {base : Heap}
/-! ### is_integer of the rules: two ints -/
def sp_isint : Sp := fun vs H Q _ => ∃ a b : Int, vs = [.int a, .int b] ∧ Q (.bl (decide (b ≤ a))) H
theorem sc_isint : FnScope ["thing", "least"] ["thing", "least"] (defScope (top 13)) := ⟨rfl, rfl, rfl, by decide +kernel, rfl, by decide +kernel, by decide +kernel⟩
theorem R_is_integer_rules (T : Txt K mg) : FnR P w K mg base CX0 1 (ga K "is_integer_rules") sp_isint := by
  obtain ⟨fd, F⟩ := T.is_integer_rules.F
  refine Fun.raw F sc_isint (fun vs H Q E h => ?_) (fun _ _ _ _ _ _ us hl => match us, hl with | [_, _], _ => rfl) (fun cdv A outer s H vs Q E hr h => ?_)
  · obtain ⟨a, b, rfl, _⟩ := h
    rfl
  obtain ⟨a, b, rfl, q⟩ := h
  refine ⟨_, pss_one (ps_ret (pe_and (pe_callB call_isB (by rfl) T.b_isinstance bt_isinstance (pa_cons (pv 0) (pa_cons (pe_ty "int" T.b_int bt_int) pa_nil)))
    (pe_and (pe_not (pe_callB call_isB (by rfl) T.b_isinstance bt_isinstance (pa_cons (pv 0) (pa_cons (pe_ty "bool" T.b_bool bt_bool) pa_nil)))) (pe_one (pe_cmpR op_ge (pv 0) (pv 1) (nomark _)))))), ?_⟩
  refine ⟨_, rfl, _, _, "int", true, rfl, .base (.int _), kii, true, rfl, iteT ?_⟩
  refine ⟨_, rfl, _, _, "int", false, rfl, .base (.int _), kib, false, rfl, true, rfl, iteT ?_⟩
  exact ⟨_, rfl, _, rfl, _, _, rfl, rfl, q⟩
/-! ### a system's properties -/
def sp_row (K : PySem.W.Frag) : Sp := fun vs H Q _ => ∃ a xs r, vs = [.ref a] ∧ SysAt K H a xs r ∧ ∀ p, H p = none → Q (.ref p) (upd H p (.lst (xs.map V.int)))
def sp_rule (K : PySem.W.Frag) : Sp := fun vs H Q _ => ∃ a xs r, vs = [.ref a] ∧ SysAt K H a xs r ∧ Q (.str r.nm) H
def sp_greatest (K : PySem.W.Frag) : Sp := fun vs H Q _ => ∃ a xs r, vs = [.ref a] ∧ SysAt K H a xs r ∧ Q (.int (topOf xs)) H
theorem sc_row : FnScope ["self"] ["self"] (defScope (atC 53 3)) := ⟨rfl, rfl, rfl, by decide +kernel, rfl, by decide +kernel, by decide +kernel⟩
theorem sc_rule : FnScope ["self"] ["self"] (defScope (atC 53 4)) := ⟨rfl, rfl, rfl, by decide +kernel, rfl, by decide +kernel, by decide +kernel⟩
theorem sc_greatest : FnScope ["self"] ["self"] (defScope (atC 53 5)) := ⟨rfl, rfl, rfl, by decide +kernel, rfl, by decide +kernel, by decide +kernel⟩
theorem at_top {vs : List Int} (h : vs ≠ []) : atI (vs.map V.int) (-1) = some (.int (topOf vs)) := by
  have e : vs.map V.int = vs.dropLast.map V.int ++ [V.int (vs.getLast h)] := by rw [← List.map_singleton, ← List.map_append, List.dropLast_concat_getLast]
  have e2 : topOf vs = vs.getLast h := by unfold topOf; rw [List.getLastD_eq_getLast?, List.getLast?_eq_getLast h] <;> rfl
  rw [e, e2]
  exact atI_last _ _
theorem R_row (T : Txt K mg) : FnR P w K mg base CX0 1 (pf K "System" "row") (sp_row K) := by
  obtain ⟨fd, F⟩ := T.row.F
  refine Fun.raw F sc_row (fun vs H Q E h => ?_) (fun _ _ _ _ _ _ us hl => match us, hl with | [_], _ => rfl) (fun cdv A outer s H vs Q E hr h => ?_)
  · obtain ⟨a, xs, r, rfl, _⟩ := h
    rfl
  obtain ⟨a, xs, r, rfl, ⟨dx, l, h1, h2, h3⟩, q⟩ := h
  refine ⟨_, pss_one (ps_ret (pe_callTy call_list_of (by rfl) T.b_list bt_list (pa_cons (pe_fld (pv 0) rfl) pa_nil))), ?_⟩
  exact ⟨_, rfl, a, _, dx, _, _, rfl, h1, T.System.c, T.n_held_values, sysF_v l r, l, _, rfl, .inl (sqL h2), fun p hp => q p hp⟩
theorem R_rule (T : Txt K mg) : FnR P w K mg base CX0 1 (pf K "System" "rule") (sp_rule K) := by
  obtain ⟨fd, F⟩ := T.rule.F
  refine Fun.raw F sc_rule (fun vs H Q E h => ?_) (fun _ _ _ _ _ _ us hl => match us, hl with | [_], _ => rfl) (fun cdv A outer s H vs Q E hr h => ?_)
  · obtain ⟨a, xs, r, rfl, _⟩ := h
    rfl
  obtain ⟨a, xs, r, rfl, ⟨dx, l, h1, h2, h3⟩, q⟩ := h
  refine ⟨_, pss_one (ps_ret (pe_fld (pv 0) rfl)), ?_⟩
  exact ⟨_, rfl, a, _, dx, _, _, rfl, h1, T.System.c, T.n_held_rule, sysF_r l r, q⟩
theorem R_greatest (T : Txt K mg) : FnR P w K mg base CX0 1 (pf K "System" "greatest") (sp_greatest K) := by
  obtain ⟨fd, F⟩ := T.greatest.F
  refine Fun.raw F sc_greatest (fun vs H Q E h => ?_) (fun _ _ _ _ _ _ us hl => match us, hl with | [_], _ => rfl) (fun cdv A outer s H vs Q E hr h => ?_)
  · obtain ⟨a, xs, r, rfl, _⟩ := h
    rfl
  obtain ⟨a, xs, r, rfl, ⟨dx, l, h1, h2, h3⟩, q⟩ := h
  refine ⟨_, pss_one (ps_ret (pe_ix ix_list (pe_fld (pv 0) rfl) (pe_un un_neg pe_int) (fun _ _ => rfl))), ?_⟩
  exact ⟨_, rfl, a, _, dx, _, _, rfl, h1, T.System.c, T.n_held_values, sysF_v l r, 1, rfl, l, _, _, _, rfl, rfl, sqL h2, at_top h3.ne, q⟩
end
/-! ### .. as terms -/
section
variable {K : PySem.W.Frag} {H : Hp} {Q : VK} {E : XK} {a : Addr} {xs : List Int} {r : Rl}
theorem SysAt.tRow (h : SysAt K H a xs r) (q : ∀ p, H p = none → Q (.ref p) (upd H p (.lst (xs.map V.int)))) : ∃ a' dx fs, V.ref a = .ref a' ∧ H a' = some (.ins (ga K "System") dx fs) ∧ sp_row K (.ref a' :: []) H Q E := by
  have h0 := h
  obtain ⟨dx, l, h1, h2, h3⟩ := h
  exact ⟨a, dx, _, rfl, h1, a, xs, r, rfl, h0, q⟩
theorem SysAt.tRule (h : SysAt K H a xs r) (q : Q (.str r.nm) H) : ∃ a' dx fs, V.ref a = .ref a' ∧ H a' = some (.ins (ga K "System") dx fs) ∧ sp_rule K (.ref a' :: []) H Q E := by
  have h0 := h
  obtain ⟨dx, l, h1, h2, h3⟩ := h
  exact ⟨a, dx, _, rfl, h1, a, xs, r, rfl, h0, q⟩
theorem SysAt.tTop (h : SysAt K H a xs r) (q : Q (.int (topOf xs)) H) : ∃ a' dx fs, V.ref a = .ref a' ∧ H a' = some (.ins (ga K "System") dx fs) ∧ sp_greatest K (.ref a' :: []) H Q E := by
  have h0 := h
  obtain ⟨dx, l, h1, h2, h3⟩ := h
  exact ⟨a, dx, _, rfl, h1, a, xs, r, rfl, h0, q⟩
end
section
variable {X : Cx} {j : Nat} {e : Expr} {te : TE} {pos : Pos}
/-- a property whose promise is asked of the object alone -/
theorem prop_of {f qual : Str} {st : Stmt} {sp : Sp} (T : Txt X.K X.mg) (hp : PF X.K "System" f qual st) (F : FnR X.prog X.w X.K X.mg X.base CX0 1 (pf X.K "System" f) sp) (hr : Room j X.A) (he : PE X e te) (hk : 2 ≤ j := by decide)
    (hab : attributeBase e f X.env (eval e X.env) = eval e X.env := by rfl) : PE X (.Attribute e f pos) (tProp (ga X.K "System") sp [] E0 te) :=
  pe_propR (p' := ma X.K (ga X.K "System") f) he T.System.c hp.at_ F hr (fun _ _ _ _ _ _ _ h => h.elim) hk hab
theorem pe_row (T : Txt X.K X.mg) (hr : Room j X.A) (he : PE X e te) (hk : 2 ≤ j := by decide) (hab : attributeBase e "row" X.env (eval e X.env) = eval e X.env := by rfl) : PE X (.Attribute e "row" pos) (tProp (ga X.K "System") (sp_row X.K) [] E0 te) :=
  prop_of T T.row (R_row T) hr he hk hab
theorem pe_rule (T : Txt X.K X.mg) (hr : Room j X.A) (he : PE X e te) (hk : 2 ≤ j := by decide) (hab : attributeBase e "rule" X.env (eval e X.env) = eval e X.env := by rfl) : PE X (.Attribute e "rule" pos) (tProp (ga X.K "System") (sp_rule X.K) [] E0 te) :=
  prop_of T T.rule (R_rule T) hr he hk hab
theorem pe_top (T : Txt X.K X.mg) (hr : Room j X.A) (he : PE X e te) (hk : 2 ≤ j := by decide) (hab : attributeBase e "greatest" X.env (eval e X.env) = eval e X.env := by rfl) : PE X (.Attribute e "greatest" pos) (tProp (ga X.K "System") (sp_greatest X.K) [] E0 te) :=
  prop_of T T.greatest (R_greatest T) hr he hk hab
end
end K75R
set_option Elab.async false
set_option linter.all false
set_option maxRecDepth 100000
set_option maxHeartbeats 4000000
/-! Comprehensions that leave the old heap alone; the properties of a system as terms. -/
namespace K75R
open PySem PySem.Spec PyProof.Rows L2
/-- a list comprehension whose items are told by the turn: some x, x goes in; none, it is left out -/
theorem lc_fm {J : It} {n : Nat} {G : Hp → Prop} {Y : Nat → Hp → V → Hp → Prop} (w : Walk J n G Y) {g : TG} {tt : TT} {te : TE} {vs : List Nat} {σ : L2.St} {H1 : Hp} {D : Addr} {Qd : Hp → Prop} (f : Nat → Option V) (hn : n ≤ 1000000) (hD : H1 D = none)
    (hG : ∀ H, Same H1 H → G H)
    (hs : ∀ i x H H' (Ry : VK) (Rn : Hp → Prop), i < n → Same H1 H → Y i H x H' → (∀ y H4, f i = some y → Same H H4 → Ry y H4) → (∀ H4, f i = none → Same H H4 → Rn H4) →
      g x (wipe σ vs) H' fun σ2 H2 => wipe σ2 vs = wipe σ vs ∧ tt σ2 H2 fun b H3 => if b = true then te σ2 H3 Ry else Rn H3)
    (hd : ∀ H, Same H1 H → H D = some (.lst ((List.range n).filterMap f)) → Qd H) :
    ∃ W : Nat → Nat → Hp → Prop, (∃ m, W 0 m (upd H1 D (.lst []))) ∧ ∀ i m H, W i m H →
      (J.stop i H ∧ Qd H) ∨ (J.go i H ∧ ∃ Nx : Hp → Prop, (∀ H', Nx H' → ∃ m', m' < m ∧ W (i + 1) m' H') ∧ ∀ x H', J.yld i H x H' → g x (wipe σ vs) H' fun σ2 H2 => wipe σ2 vs = wipe σ vs ∧ tt σ2 H2 fun b H3 =>
        if b = true then te σ2 H3 fun y H4 => ∃ acc, H4 D = some (.lst acc) ∧ acc.length < sizeLine ∧ Nx (upd H4 D (.lst (acc ++ [y]))) else Nx H3) := by
  have rs : ∀ i, (List.range (i + 1)).filterMap f = (List.range i).filterMap f ++ (match f i with | some y => [y] | none => []) := fun i => by
    rw [List.range_succ, List.filterMap_append]
    cases h : f i <;> simp [h]
  refine lc_it w (Pv := fun i H => Same H1 H ∧ H D = some (.lst ((List.range i).filterMap f))) ⟨same_new hD, upd_same⟩ (fun i H _ h => hG H h.1) (fun i x H H' hi ⟨h1, h2⟩ y => ?_) fun H h => hd H h.1 h.2
  refine hs i x H H' _ _ hi h1 y (fun v H4 e sm => ?_) fun H4 e sm => ?_
  · refine ⟨_, sm _ _ h2, ?_, ?_, ?_⟩
    · exact Nat.lt_of_le_of_lt (List.length_filterMap_le _ _) (by rw [List.length_range]; exact sz_lt (by omega))
    · intro b o hb
      rw [upd_ne (ne_of_none hb hD)]
      exact sm _ _ (h1 _ _ hb)
    · rw [upd_same, rs, e]
  · refine ⟨h1.trans sm, ?_⟩
    rw [sm _ _ h2, rs, e, List.append_nil]
/-- .. without a filter: the list ys comes about -/
theorem lc_map {J : It} {n : Nat} {G : Hp → Prop} {Y : Nat → Hp → V → Hp → Prop} (w : Walk J n G Y) {g : TG} {te : TE} {vs : List Nat} {σ : L2.St} {H1 : Hp} {D : Addr} {Qd : Hp → Prop} (ys : List V) (hl : ys.length = n) (hn : n ≤ 1000000) (hD : H1 D = none)
    (hG : ∀ H, Same H1 H → G H)
    (hs : ∀ i x H H' (Ry : VK), i < n → Same H1 H → Y i H x H' → (∀ y H4, ys[i]? = some y → Same H H4 → Ry y H4) → g x (wipe σ vs) H' fun σ2 H2 => wipe σ2 vs = wipe σ vs ∧ te σ2 H2 Ry)
    (hd : ∀ H, Same H1 H → H D = some (.lst ys) → Qd H) :
    ∃ W : Nat → Nat → Hp → Prop, (∃ m, W 0 m (upd H1 D (.lst []))) ∧ ∀ i m H, W i m H →
      (J.stop i H ∧ Qd H) ∨ (J.go i H ∧ ∃ Nx : Hp → Prop, (∀ H', Nx H' → ∃ m', m' < m ∧ W (i + 1) m' H') ∧ ∀ x H', J.yld i H x H' → g x (wipe σ vs) H' fun σ2 H2 => wipe σ2 vs = wipe σ vs ∧ tYes σ2 H2 fun b H3 =>
        if b = true then te σ2 H3 fun y H4 => ∃ acc, H4 D = some (.lst acc) ∧ acc.length < sizeLine ∧ Nx (upd H4 D (.lst (acc ++ [y]))) else Nx H3) := by
  have e : (List.range n).filterMap (fun i => some ((ys[i]?).getD .non)) = ys := by
    rw [List.filterMap_eq_map']
    apply List.ext_getElem
    · rw [List.length_map, List.length_range, hl]
    · intro i h1 h2
      simp [h2]
  refine lc_fm w (fun i => some ((ys[i]?).getD .non)) hn hD hG (fun i x H H' Ry Rn hi h1 y ky _ => ?_) fun H h1 h2 => hd H h1 (by rw [h2, e])
  have := hs i x H H' Ry hi h1 y (fun y H4 e s => ky y H4 (by rw [e] <;> rfl) s)
  exact this
theorem mapI {α β : Type} {f : α → β} {xs : List α} {i : Nat} {v : β} (h : (xs.map f)[i]? = some v) : ∃ z, xs[i]? = some z ∧ v = f z := by
  rw [List.getElem?_map] at h
  obtain ⟨z, h1, h2⟩ := Option.map_eq_some_iff.mp h
  exact ⟨z, h1, h2.symm⟩
theorem cutV_tail (xs : List V) : cutV xs (some 1) none = xs.drop 1 := by
  unfold cutV
  have e : HT.sIx xs.length 0 (some 1) = min 1 xs.length := by simp [HT.sIx]
  have e2 : HT.sIx xs.length xs.length none = xs.length := by simp [HT.sIx]
  rw [e, e2]
  cases xs with
  | nil => rfl
  | cons x xs =>
    have : min 1 (x :: xs).length = 1 := by simp
    rw [this, List.take_of_length_le (by simp)]
theorem cutV_front (xs : List V) : cutV xs none (some (-1)) = xs.dropLast := by
  unfold cutV
  have e : HT.sIx xs.length 0 none = 0 := by simp [HT.sIx]
  have e2 : HT.sIx xs.length xs.length (some (-1)) = xs.length - 1 := by simp [HT.sIx]; omega
  rw [e, e2, List.drop_zero, Nat.sub_zero, List.dropLast_eq_take]
theorem cutV_take (xs : List V) (n : Nat) : cutV xs none (some (n : Int)) = xs.take n := by
  unfold cutV
  have e : HT.sIx xs.length 0 none = 0 := by simp [HT.sIx]
  have e2 : HT.sIx xs.length xs.length (some (n : Int)) = min n xs.length := by simp [HT.sIx]; omega
  rw [e, e2, List.drop_zero, Nat.sub_zero]
  rw [Nat.min_comm]
  apply List.take_eq_take_iff.mpr
  omega
end K75R
set_option Elab.async false
set_option linter.all false
set_option maxRecDepth 100000
set_option maxHeartbeats 4000000
/-! Systems: made. -/
namespace K75R
open PySem PySem.Spec PyProof.Rows L2
section
variable {P : Program} {w : World} {K : PySem.W.Frag} {mg : Str → Option Value} {base : Heap}
def sp_are_values (K : PySem.W.Frag) : Sp := fun vs H Q _ => ∃ a xs, vs = [.ref a] ∧ H a = some (.lst (xs.map V.int)) ∧ OkV xs ∧ ∀ H', Same H H' → Q (.bl true) H'
theorem sc_are_values : FnScope ["thing", "value", "one", "other"] ["thing"] (defScope (top 50)) := ⟨rfl, rfl, rfl, by decide +kernel, rfl, by decide +kernel, by decide +kernel⟩
theorem R_are_values (T : Txt K mg) : FnR P w K mg base CX0 2 (ga K "are_values") (sp_are_values K) := by
  obtain ⟨fd, F⟩ := T.are_values.F
  have sc := sc_are_values
  refine Fun.raw F sc (fun vs H Q E h => ?_) (fun _ _ _ _ _ _ us hl => match us, hl with | [_], _ => rfl) (fun cdv A outer s H vs Q E hr h => ?_)
  · obtain ⟨a, xs, rfl, _⟩ := h
    rfl
  obtain ⟨a, xs, rfl, ha, ok, q⟩ := h
  refine ⟨_, (pss_cons
    (ps_if (PW.pt (pw_or (pt_not (pt_val (pe_callB call_isB (by rfl) T.b_isinstance bt_isinstance (pa_cons (pv 0) (pa_cons (pe_ty "list" T.b_list bt_list) pa_nil))))) (pw_or1 (pt_not (pt_chain op_le op_le pe_int (pe_callB call_len_seq (by rfl) T.b_len bt_len (pa_cons (pv 0) pa_nil)) (ClX.pe_cval (pe_gref T.System.g)))))))
      (pss_one
      (ps_ret pe_bl))
      pss_nil)
    (pss_cons
    (ps_if (pt_not (pt_val (pe_callB (cr_all rfl) (by rfl) T.b_all bt_all (pa_cons (pe_lc (own := [("value", 1)]) (by rfl) sc.nd (pi_list (pv 0)) (blkOk_by (N := ["thing", "value", "one", "other"]) (sc := defScope (top 50)) (own := [("value", 1)]) (by decide +kernel)) (fun _ _ _ _ _ => (pg_name (i := 1) sc.nd rfl (by first | exact Or.inl rfl | exact Or.inr rfl))) (fun _ _ _ _ _ => pts_nil) (fun _ _ _ _ _ => (pe_and (cR T.is_integer_rules (R_is_integer_rules T) hr pass0 (pa_cons (pv 1) (pa_cons pe_int pa_nil))) (pe_one (pe_cmpR op_le (pv 1) (pe_gint T.c_MOST_VALUE) (nomark _)))))) pa_nil))))
      (pss_one
      (ps_ret pe_bl))
      pss_nil)
    (pss_one
    (ps_ret (pe_callB (cr_all rfl) (by rfl) T.b_all bt_all (pa_cons (pe_lc (own := [("one", 2), ("other", 3)]) (by rfl) sc.nd (pi_zip (by rfl) T.b_zip (pa_cons (pv 0) (pa_cons (pe_slice sl_list (pv 0) (po_some pe_int) po_none) pa_nil))) (blkOk_by (N := ["thing", "value", "one", "other"]) (sc := defScope (top 50)) (own := [("one", 2), ("other", 3)]) (by decide +kernel)) (fun _ _ _ _ _ => (show PG _ _ (gTup K 2 _) from (pg_tup (by rfl) (pgs_cons (pg_name (i := 2) sc.nd rfl (by first | exact Or.inl rfl | exact Or.inr rfl)) (pgs_cons (pg_name (i := 3) sc.nd rfl (by first | exact Or.inl rfl | exact Or.inr rfl)) pgs_nil))))) (fun _ _ _ _ _ => pts_nil) (fun _ _ _ _ _ => (pe_cmpR op_lt (pv 2) (pv 3) (nomark _)))) pa_nil)))))), ?_⟩
  have hl : ((xs.map V.int).length : Int) = (xs.length : Int) := by simp
  have h6 : (xs.length : Int) ≤ 6 := by have := ok.len; omega
  have h1 : 1 ≤ (xs.length : Int) := by have := List.length_pos_iff.mpr ok.ne; omega
  refine ⟨_, rfl, _, "list", "list", true, rfl, .base (.lst ha), kll, true, rfl, iteF ?_⟩
  refine ⟨_, rfl, a, _, rfl, .inl (sqL ha), _, _, rfl, rfl, _, rfl, ite2 (fun _ => ?_) (fun z => ?_)⟩
  rotate_left
  · exact absurd (by simpa using h1) z
  obtain ⟨t, hm⟩ := T.sys_most
  refine ⟨_, _, _, _, rfl, T.sys_read, hm, _, _, rfl, rfl, _, rfl, ite2 (fun z => ?_) (fun z => ?_)⟩
  · exact absurd z (by simp; omega)
  -- the values
  refine ⟨_, rfl, a, rfl, ⟨_, sqL ha⟩, fun D hD => lc_map walk_list (xs.map fun _ => V.bl true) (by simp) (by simp; omega) hD (fun H h => h.seq (sqL ha)) (fun i x H1 H' Ry hi h1 y ky => ?_) (fun H1 s1 h1 => ?_)⟩
  · obtain ⟨rfl, hx⟩ := y
    obtain ⟨z, hz, rfl⟩ := mapI hx
    have bd := ok.bd z (List.mem_of_getElem? hz)
    refine ⟨rfl, _, rfl, z, 1, rfl, _, rfl, ?_⟩
    rw [decide_eq_true bd.1]
    refine iteT ⟨_, rfl, _, _, rfl, rfl, ky _ _ ?_ (Same.refl _)⟩
    simp [hz, bd.2]
  refine ⟨D, xs.map fun _ => true, rfl, sqL (by rw [h1, List.map_map] <;> rfl), _, rfl, ite2 (fun z => ?_) fun _ => ?_⟩
  · exact absurd z (by simp)
  -- neighbours
  refine ⟨_, rfl, _, rfl, _, rfl, a, _, rfl, sqL (s1 _ _ ha), fun p hp => ?_⟩
  rw [cutV_tail, ← List.map_drop]
  have s2 : Same H (upd H1 p (.lst ((xs.drop 1).map V.int))) := same_put s1 (s1.free hp)
  refine ⟨a, p, _, _, rfl, sqL (s2 _ _ ha), sqL upd_same, fun D2 hD2 => lc_map (walk_zip (n := xs.length - 1) (by simp)) (List.replicate (xs.length - 1) (V.bl true)) (by simp) (by omega) hD2 (fun H h => ⟨h.seq (sqL (s2 _ _ ha)), h.seq (sqL upd_same)⟩) (fun i x H1 H' Ry hi h1 y ky => ?_) (fun H1 s3 h1 => ?_)⟩
  · obtain ⟨T', x', y', rfl, hT, rfl, hx, hy⟩ := y
    obtain ⟨u, hu, rfl⟩ := mapI hx
    obtain ⟨v, hv, rfl⟩ := mapI hy
    have lt : u < v := by
      rw [List.getElem?_drop] at hv
      obtain ⟨q1, q2⟩ := List.getElem?_eq_some_iff.mp hu
      obtain ⟨q3, q4⟩ := List.getElem?_eq_some_iff.mp hv
      have := List.pairwise_iff_getElem.mp ok.up i (1 + i) q1 q3 (by omega)
      rwa [q2, q4] at this
    refine ⟨_, _, rfl, sqT upd_same, rfl, _, _, rfl, _, _, rfl, rfl, rfl, _, rfl, _, rfl, _, _, rfl, rfl, ky _ _ ?_ (same_new hT)⟩
    simp [List.getElem?_replicate, hi, lt]
  · refine ⟨D2, List.replicate (xs.length - 1) true, rfl, sqL (by rw [h1, List.map_replicate]), ?_⟩
    rw [show (List.replicate (xs.length - 1) true).all id = true by simp]
    exact q _ (s2.trans s3)
-- is_rule --
def sp_is_rule : Sp := fun vs H Q _ => ∃ r : Rl, vs = [.str r.nm] ∧ Q (.bl true) H
theorem sc_is_rule : FnScope ["thing"] ["thing"] (defScope (top 51)) := ⟨rfl, rfl, rfl, by decide +kernel, rfl, by decide +kernel, by decide +kernel⟩
theorem R_is_rule (T : Txt K mg) : FnR P w K mg base CX0 1 (ga K "is_rule") sp_is_rule := by
  obtain ⟨fd, F⟩ := T.is_rule.F
  have sc := sc_is_rule
  refine Fun.raw F sc (fun vs H Q E h => ?_) (fun _ _ _ _ _ _ us hl => match us, hl with | [_], _ => rfl) (fun cdv A outer s H vs Q E hr h => ?_)
  · obtain ⟨r, rfl, _⟩ := h
    rfl
  obtain ⟨r, rfl, q⟩ := h
  refine ⟨_, (pss_one
    (ps_ret (pe_and (pe_callB call_isB (by rfl) T.b_isinstance bt_isinstance (pa_cons (pv 0) (pa_cons (pe_ty "str" T.b_str bt_str) pa_nil))) (pe_one (pe_cmpR op_in_seq (pv 0) (ClX.pe_cval (pe_gref T.Rule)) (by rfl)))))), ?_⟩
  refine ⟨_, rfl, _, "str", "str", true, rfl, .base (.str _), kss, true, rfl, iteT ?_⟩
  refine ⟨_, rfl, _, _, _, _, rfl, T.rule_read, T.rule_all, allAt K, _, rfl, .inr (T.all_tup _), rfl, rfl, ?_⟩
  cases r <;> exact q
-- __init__
def sp_sysI (K : PySem.W.Frag) : List V → List V → Hp → VK → XK → Prop := fun vs zs H Q _ => ∃ (x dx : Addr) (xs : List Int) (r : Rl), vs = .ref x :: xs.map V.int ∧ zs = [.str r.nm] ∧ H x = some (.ins (ga K "System") dx []) ∧ OkV xs ∧
  ∀ H' l, (∀ b o, H b = some o → b ≠ x → H' b = some o) → H' x = some (.ins (ga K "System") dx (sysF l r)) → H' l = some (.lst (xs.map V.int)) → Q .non H'
theorem sc_sysI : FnScope ["self", "rule", "values"] ["self", "rule", "values"] (defScope (atC 53 1)) := ⟨rfl, rfl, rfl, by decide +kernel, rfl, by decide +kernel, by decide +kernel⟩
theorem R_sysI (T : Txt K mg) : FnK P w K mg base CX0 3 (ma K (ga K "System") "__init__") ["rule"] (sp_sysI K) := by
  intro A outer s H us ws vs zs Q E hr e0 r rz hl h
  obtain ⟨fd, F⟩ := T.sys_init
  obtain ⟨oc, od, dV, kV, doc, pm, an, cdv, ct, osl, rfl, lk, hcd, hD, hK⟩ := F.ex
  obtain rfl : dV = .none := by
    rcases hD with ⟨_, e⟩ | ⟨e, _⟩
    · exact e
    · exact absurd rfl e
  obtain ⟨x, dx, xs, rl, rfl, rfl, hx, ok, q⟩ := h
  obtain ⟨wv, rfl, rw1⟩ := rz.one
  cases r with
  | @cons _ u _ us rx r =>
  have hlen : us.length ≤ sizeLine := by rw [← r.length, List.length_map]; exact sz_le (by have := ok.len; omega)
  have hb : ∀ us : List Value, bindArgs (PySem.W.fnOf "__init__" "System.__init__" (defArgs (atC 53 1)) (defBody (atC 53 1)) (defScope (atC 53 1)) .none kV doc pm an cdv ct) ⟨u :: us, (["rule"] : List Str).zip [wv]⟩ = (newTuple us >>= fun t => pure ([("self", u), ("rule", wv), ("values", t)] : List (Str × Value))) := fun us => by
    cases us with
    | nil => rfl
    | cons a us => rfl
  have sc := sc_sysI
  refine StX.run_bnd lk hcd sc hr e0 (G := fun ys H2 => ∃ p, H p = Option.none ∧ ys = [V.ref x, V.str rl.nm, V.ref p] ∧ H2 = upd H p (.tup (xs.map V.int))) (fun A' Ex Q' h => ?_) fun s2 H2 ys ⟨p, hp, ey, eH⟩ hr' => ?_
  · rw [hb us]
    have hn : H s.heap.objs.size = Option.none := e0.hok.fresh (Nat.le_refl _)
    refine wpAny_bind (wpAny_newTuple (wpAny_pure ?_) hlen)
    have new : ObjOk P w (upd H s.heap.objs.size (.tup (xs.map V.int))) (s.heap.push ({ cls := .type "tuple", data := .seq us.toArray } : Obj)) s.heap.objs.size (.tup (xs.map V.int)) := ⟨by rw [List.length_map]; exact sz_le (by have := ok.len; omega), us, r, ⟨_, Heap.get?_push_size _ rfl, rfl, _, rfl⟩⟩
    have un := StX.un_laid (fs := frs outer) (s := s) (o := ({ cls := .type "tuple", data := .seq us.toArray } : Obj)) (u := .tup (xs.map V.int)) hn
    exact h _ _ [V.ref x, V.str rl.nm, V.ref s.heap.objs.size] [u, wv, Value.ref s.heap.objs.size] (StX.env0_laid e0 new) un rfl (fun e s' z => z) (.cons rx (.cons rw1 (.cons rfl .nil))) rfl ⟨_, hn, rfl, rfl⟩
  · subst ey eH
    refine ⟨_, (pss_cons
    (ps_if (PW.pt (pw_or (pt_not (pt_val (cR T.are_values (R_are_values T) hr' pass0 (pa_cons (pe_callTy call_list_of (by rfl) T.b_list bt_list (pa_cons (pv 2) pa_nil)) pa_nil)))) (pw_or1 (pt_not (pt_val (cR T.is_rule (R_is_rule T) hr' pass0 (pa_cons (pv 1) pa_nil)))))))
      (pss_one
      ps_never)
      pss_nil)
    (pss_cons
    (ps_fld (pv 0) (pe_callTy call_list_of (by rfl) T.b_list bt_list (pa_cons (pv 2) pa_nil)) rfl)
    (pss_one
    (ps_fld (pv 0) (pv 1) rfl)))), ?_⟩
    have hxp : x ≠ p := ne_of_none hx hp
    have s0 : Same H (upd H p (.tup (xs.map V.int))) := same_new hp
    refine ⟨_, rfl, p, _, rfl, .inr (sqT upd_same), fun l hl => ⟨l, xs, rfl, upd_same, ok, fun H1 s1 => ⟨true, rfl, iteF ⟨_, rfl, rl, rfl, true, rfl, iteF ?_⟩⟩⟩⟩
    have s2 : Same (upd H p (.tup (xs.map V.int))) H1 := (same_new hl).trans s1
    refine ⟨_, rfl, p, _, rfl, .inr (sqT (s2 _ _ upd_same)), fun l2 hl2 => ?_⟩
    have s3 := s2.trans (same_new (o := .lst (xs.map V.int)) hl2)
    refine ⟨_, rfl, x, _, _, _, rfl, (s0.trans s3) _ _ hx, T.System.c, T.n_held_values, by simp, ?_⟩
    refine ⟨_, rfl, _, rfl, x, _, _, _, rfl, upd_same, T.System.c, T.n_held_rule, Nat.le_of_ble_eq_true rfl, ?_⟩
    have hlx : l2 ≠ x := fun e => by
      subst e
      exact absurd (s2 _ _ (s0 _ _ hx)) (by rw [hl2]; intro z; cases z)
    refine q _ l2 (fun b o hb hbx => ?_) upd_same ?_
    · rw [upd_ne hbx, upd_ne hbx]
      exact (s0.trans s3) _ _ hb
    · rw [upd_ne hlx, upd_ne hlx, upd_same]
-- of
/-- a new system of the values and the rule, the old heap as it was -/
def sp_of (K : PySem.W.Frag) : Sp := fun vs H Q _ => ∃ a xs r, vs = [.ref (ga K "System"), .ref a, .str (Rl.nm r)] ∧ H a = some (.lst (xs.map V.int)) ∧ OkV xs ∧ ∀ H' x, Same H H' → SysAt K H' x xs r → Q (.ref x) H'
theorem sc_of : FnScope ["cls", "values", "rule"] ["cls", "values", "rule"] (defScope (atC 53 2)) := ⟨rfl, rfl, rfl, by decide +kernel, rfl, by decide +kernel, by decide +kernel⟩
/-- what the maker asks -/
theorem made_sys {H : Hp} {Q : VK} {E : XK} {xs : List Int} {r : Rl} (ok : OkV xs) (q : ∀ H' x, Same H H' → SysAt K H' x xs r → Q (.ref x) H') (x dx : Addr) (hx : H x = none) (hd : H dx = none) (ne : dx ≠ x) :
    sp_sysI K (.ref x :: xs.map V.int) [.str r.nm] (upd (upd H dx (.own x)) x (.ins (ga K "System") dx [])) (fun v H3 => v = .non ∧ Q (.ref x) H3) E := by
  refine ⟨x, dx, xs, r, rfl, rfl, upd_same, ok, fun H' l h1 h2 h3 => ⟨rfl, q H' x (fun b o hb => ?_) ⟨dx, l, h2, h3, ok⟩⟩⟩
  refine h1 b o ?_ (ne_of_none hb hx)
  rw [upd_ne (ne_of_none hb hx), upd_ne (ne_of_none hb hd)]
  exact hb
theorem R_of (T : Txt K mg) : FnR P w K mg base CX0 5 (He5.wf K (ga K "System") "classmethod" "of") (sp_of K) := by
  obtain ⟨fd, F⟩ := T.f_of
  have sc := sc_of
  refine Fun.raw F sc (fun vs H Q E h => ?_) (fun _ _ _ _ _ _ us hl => match us, hl with | [_, _, _], _ => rfl) (fun cdv A outer s H vs Q E hr h => ?_)
  · obtain ⟨a, xs, r, rfl, _⟩ := h
    rfl
  obtain ⟨a, xs, r, rfl, ha, ok, q⟩ := h
  refine ⟨_, (pss_cons
    (ps_if (pt_not (pt_val (cR T.are_values (R_are_values T) hr pass0 (pa_cons (pv 1) pa_nil))))
      (pss_one
      ps_never)
      pss_nil)
    (pss_one
    (ps_ret (pe_makeS (pv 0) T.sys_mk (R_sysI T) hr (E := E0) pass0 (pv 1) (pk_cons (pv 2) pk_nil))))), ?_⟩
  refine ⟨_, rfl, a, xs, rfl, ha, ok, fun H1 s1 => ⟨true, rfl, iteF ?_⟩⟩
  refine ⟨_, rfl, rfl, _, rfl, _, rfl, rfl, a, _, rfl, .inr (sqL (s1 _ _ ha)), fun x dx hx hd ne => ?_⟩
  exact made_sys ok (fun H' x s2 S => q H' x (s1.trans s2) S) x dx hx hd ne
-- with_rule
def sp_with_rule (K : PySem.W.Frag) : Sp := fun vs H Q _ => ∃ a xs r r', vs = [.ref a, .str (Rl.nm r')] ∧ SysAt K H a xs r ∧ ∀ H' x, Same H H' → SysAt K H' x xs r' → Q (.ref x) H'
theorem sc_with_rule : FnScope ["self", "rule"] ["self", "rule"] (defScope (atC 53 7)) := ⟨rfl, rfl, rfl, by decide +kernel, rfl, by decide +kernel, by decide +kernel⟩
theorem R_with_rule (T : Txt K mg) : FnR P w K mg base CX0 5 (ma K (ga K "System") "with_rule") (sp_with_rule K) := by
  obtain ⟨fd, F⟩ := T.with_rule.F
  have sc := sc_with_rule
  refine Fun.raw F sc (fun vs H Q E h => ?_) (fun _ _ _ _ _ _ us hl => match us, hl with | [_, _], _ => rfl) (fun cdv A outer s H vs Q E hr h => ?_)
  · obtain ⟨a, xs, r, r', rfl, _⟩ := h
    rfl
  obtain ⟨a, xs, r, r', rfl, ⟨dx, l, h1, h2, ok⟩, q⟩ := h
  refine ⟨_, (pss_one
    (ps_ret (pe_makeS (pe_gref T.System.g) T.sys_mk (R_sysI T) hr (E := E0) pass0 (pe_fld (pv 0) rfl) (pk_cons (pv 1) pk_nil)))), ?_⟩
  refine ⟨rfl, _, rfl, a, _, dx, _, _, rfl, h1, T.System.c, T.n_held_values, sysF_v l r, _, rfl, rfl, l, _, rfl, .inr (sqL h2), fun x dx hx hd ne => ?_⟩
  exact made_sys ok q x dx hx hd ne
end
end K75R
set_option Elab.async false
set_option linter.all false
set_option maxRecDepth 100000
set_option maxHeartbeats 4000000
namespace K75R
open PySem PySem.Spec PyProof.Rows L2
section
variable {P : Program} {w : World} {K : PySem.W.Frag} {mg : Str → Option Value} {base : Heap}
/-! words: a list of tuples -/
/-- a list of tuples -/
def TupsAt (H : Hp) (a : Addr) (ts : List (List V)) : Prop := ∃ ps : List Addr, H a = some (.lst (ps.map V.ref)) ∧ ps.length = ts.length ∧ ∀ (i : Nat) p t, ps[i]? = some p → ts[i]? = some t → H p = some (.tup t)
theorem TupsAt.same {H H' : Hp} {a : Addr} {ts : List (List V)} (h : TupsAt H a ts) (e : Same H H') : TupsAt H' a ts := by
  obtain ⟨ps, h1, h2, h3⟩ := h
  exact ⟨ps, e _ _ h1, h2, fun i p t q1 q2 => e _ _ (h3 i p t q1 q2)⟩
def runV (r : Int × Int) : List V := [.int r.1, .int r.2]
def sgnV (r : Int × Int × Int) : List V := [.int r.1, .int r.2.1, .int r.2.2]
def WordAt (H : Hp) (a : Addr) (ws : List (Int × Int)) : Prop := TupsAt H a (ws.map runV)
structure OkW (ws : List (Int × Int)) : Prop where
  ne : ws ≠ []
  len : ws.length ≤ 200
  pos : ∀ r ∈ ws, 1 ≤ r.1 ∧ 1 ≤ r.2
  nb : ∀ i a b, ws[i]? = some a → ws[i + 1]? = some b → a.1 ≠ b.1
theorem TupsAt.get {H : Hp} {ts : List (List V)} {ps : List Addr} (h2 : ps.length = ts.length) (h3 : ∀ (i : Nat) p t, ps[i]? = some p → ts[i]? = some t → H p = some (.tup t)) {i : Nat} {p : Addr} (e : ps[i]? = some p) : ∃ t, ts[i]? = some t ∧ H p = some (.tup t) := by
  obtain ⟨h, _⟩ := List.getElem?_eq_some_iff.mp e
  have hi : i < ts.length := by omega
  exact ⟨ts[i], by simp [hi], h3 i p _ e (by simp [hi])⟩
theorem TupsAt.item {α : Type} {f : α → List V} {H : Hp} {ws : List α} {ps : List Addr} (h2 : ps.length = (ws.map f).length) (h3 : ∀ (i : Nat) p t, ps[i]? = some p → (ws.map f)[i]? = some t → H p = some (.tup t)) {i : Nat} {x : V} (e : (ps.map V.ref)[i]? = some x) :
    ∃ p r, x = .ref p ∧ ws[i]? = some r ∧ H p = some (.tup (f r)) := by
  obtain ⟨p, hp, rfl⟩ := mapI e
  obtain ⟨t, ht, hpt⟩ := TupsAt.get h2 h3 hp
  obtain ⟨r, hr, rfl⟩ := mapI ht
  exact ⟨p, r, rfl, hr, hpt⟩
/-- one more tuple, appended -/
theorem TupsAt.push {H : Hp} {l p : Addr} {ts : List (List V)} {xs : List V} {t : List V} (h : TupsAt H l ts) (e : H l = some (.lst xs)) (hp : H p = none) : TupsAt (upd (upd H p (.tup t)) l (.lst (xs ++ [V.ref p]))) l (ts ++ [t]) := by
  obtain ⟨ps, h1, h2, h3⟩ := h
  rw [h1] at e
  obtain rfl : ps.map V.ref = xs := by cases e; rfl
  refine ⟨ps ++ [p], by rw [upd_same, List.map_append] <;> rfl, by simp [h2], fun i q t' q1 q2 => ?_⟩
  have ne : ∀ q u, H q = some (.tup u) → q ≠ l := fun q u e1 e2 => by subst e2; rw [h1] at e1; cases e1
  have pl : p ≠ l := fun e2 => by subst e2; rw [h1] at hp; cases hp
  by_cases hi : i < ps.length
  · rw [List.getElem?_append_left hi] at q1
    rw [List.getElem?_append_left (by omega)] at q2
    have := h3 i q t' q1 q2
    rw [upd_ne (ne _ _ this), upd_ne (ne_of_none this hp)]
    exact this
  · rw [List.getElem?_append_right (by omega)] at q1 q2
    have e0 : i - ps.length = 0 := by
      by_cases z : i - ps.length = 0
      · exact z
      · rw [List.getElem?_eq_none (by simp; omega)] at q1; cases q1
    rw [e0] at q1
    rw [← h2, e0] at q2
    obtain rfl : p = q := by simpa using q1
    obtain rfl : t = t' := by simpa using q2
    rw [upd_ne pl, upd_same]
theorem TupsAt.lst {H : Hp} {l : Addr} {ts : List (List V)} (h : TupsAt H l ts) : ∃ xs, H l = some (.lst xs) ∧ xs.length = ts.length := by
  obtain ⟨ps, h1, h2, _⟩ := h
  exact ⟨_, h1, by simp [h2]⟩
theorem TupsAt.nil {H : Hp} {l : Addr} (h : H l = some (.lst [])) : TupsAt H l [] := ⟨[], h, rfl, fun i p t q => by simp at q⟩
/-- .. by a list whose tuple is there -/
theorem TupsAt.add {H : Hp} {l p : Addr} {ts : List (List V)} {xs : List V} {t : List V} (h : TupsAt H l ts) (e : H l = some (.lst xs)) (hp : H p = some (.tup t)) : TupsAt (upd H l (.lst (xs ++ [V.ref p]))) l (ts ++ [t]) := by
  obtain ⟨ps, h1, h2, h3⟩ := h
  rw [h1] at e
  obtain rfl : ps.map V.ref = xs := by cases e; rfl
  refine ⟨ps ++ [p], by rw [upd_same, List.map_append] <;> rfl, by simp [h2], fun i q t' q1 q2 => ?_⟩
  have ne : ∀ q u, H q = some (.tup u) → q ≠ l := fun q u e1 e2 => by subst e2; rw [h1] at e1; cases e1
  by_cases hi : i < ps.length
  · rw [List.getElem?_append_left hi] at q1
    rw [List.getElem?_append_left (by omega)] at q2
    have := h3 i q t' q1 q2
    rw [upd_ne (ne _ _ this)]
    exact this
  · rw [List.getElem?_append_right (by omega)] at q1 q2
    have e0 : i - ps.length = 0 := by
      by_cases z : i - ps.length = 0
      · exact z
      · rw [List.getElem?_eq_none (by simp; omega)] at q1; cases q1
    rw [e0] at q1
    rw [← h2, e0] at q2
    obtain rfl : p = q := by simpa using q1
    obtain rfl : t = t' := by simpa using q2
    rw [upd_ne (ne _ _ hp)]
    exact hp
/-- a comprehension whose items are new tuples -/
theorem lc_tups {J : It} {n : Nat} {G : Hp → Prop} {Y : Nat → Hp → V → Hp → Prop} (w : Walk J n G Y) {g : TG} {te : TE} {vs : List Nat} {σ : L2.St} {H1 : Hp} {D : Addr} {Qd : Hp → Prop} (ts : List (List V)) (hl : ts.length = n) (hn : n ≤ 1000000) (hD : H1 D = none)
    (hG : ∀ H, Same H1 H → G H)
    (hs : ∀ i x H H' (Ry : VK), i < n → Same H1 H → Y i H x H' → (∀ p t H4, ts[i]? = some t → Same H H4 → H4 p = some (.tup t) → Ry (.ref p) H4) → g x (wipe σ vs) H' fun σ2 H2 => wipe σ2 vs = wipe σ vs ∧ te σ2 H2 Ry)
    (hd : ∀ H, Same H1 H → TupsAt H D ts → Qd H) :
    ∃ W : Nat → Nat → Hp → Prop, (∃ m, W 0 m (upd H1 D (.lst []))) ∧ ∀ i m H, W i m H →
      (J.stop i H ∧ Qd H) ∨ (J.go i H ∧ ∃ Nx : Hp → Prop, (∀ H', Nx H' → ∃ m', m' < m ∧ W (i + 1) m' H') ∧ ∀ x H', J.yld i H x H' → g x (wipe σ vs) H' fun σ2 H2 => wipe σ2 vs = wipe σ vs ∧ tYes σ2 H2 fun b H3 =>
        if b = true then te σ2 H3 fun y H4 => ∃ acc, H4 D = some (.lst acc) ∧ acc.length < sizeLine ∧ Nx (upd H4 D (.lst (acc ++ [y]))) else Nx H3) := by
  refine lc_it w (Pv := fun i H => Same H1 H ∧ TupsAt H D (ts.take i)) ⟨same_new hD, TupsAt.nil upd_same⟩ (fun i H _ h => hG H h.1) (fun i x H H' hi ⟨h1, h2⟩ y => ?_) fun H h => hd H h.1 (by rw [← hl, List.take_length] at h; exact h.2)
  have := hs i x H H' (fun y H4 => ∃ acc, H4 D = some (.lst acc) ∧ acc.length < sizeLine ∧ Same H1 (upd H4 D (.lst (acc ++ [y]))) ∧ TupsAt (upd H4 D (.lst (acc ++ [y]))) D (ts.take (i + 1))) hi h1 y (fun p t H4 e sm hp => ?_)
  · exact this
  · obtain ⟨xs, hx, hxl⟩ := h2.lst
    refine ⟨xs, sm _ _ hx, by rw [hxl, List.length_take]; exact sz_lt (by omega), ?_, ?_⟩
    · intro b o hb
      rw [upd_ne (ne_of_none hb hD)]
      exact sm _ _ (h1 _ _ hb)
    · rw [List.take_add_one, e]
      exact (h2.same sm).add (sm _ _ hx) hp

def sp_is_run : Sp := fun vs H Q _ => ∃ p r, vs = [.ref p] ∧ H p = some (.tup (runV r)) ∧ 1 ≤ r.1 ∧ 1 ≤ r.2 ∧ ∀ H', Same H H' → Q (.bl true) H'
theorem sc_is_run : FnScope ["thing", "part"] ["thing"] (defScope (top 15)) := ⟨rfl, rfl, rfl, by decide +kernel, rfl, by decide +kernel, by decide +kernel⟩
theorem R_is_run (T : Txt K mg) : FnR P w K mg base CX0 2 (ga K "is_run") sp_is_run := by
  obtain ⟨fd, F⟩ := T.is_run.F
  have sc := sc_is_run
  refine Fun.raw F sc (fun vs H Q E h => ?_) (fun _ _ _ _ _ _ us hl => match us, hl with | [_], _ => rfl) (fun cdv A outer s H vs Q E hr h => ?_)
  · obtain ⟨p, r, rfl, _⟩ := h
    rfl
  obtain ⟨p, ⟨u, v⟩, rfl, hp, h1, h2, q⟩ := h
  refine ⟨_, (pss_one
    (ps_ret (pe_and (pe_callB call_isB (by rfl) T.b_isinstance bt_isinstance (pa_cons (pv 0) (pa_cons (pe_ty "tuple" T.b_tuple bt_tuple) pa_nil))) (pe_and (pe_cmpR op_eq (pe_callB call_len_seq (by rfl) T.b_len bt_len (pa_cons (pv 0) pa_nil)) pe_int (nomark _)) (pe_one (pe_callB (cr_all rfl) (by rfl) T.b_all bt_all (pa_cons (pe_lc (own := [("part", 1)]) (by rfl) sc.nd (pi_tup (pv 0)) (blkOk_by (N := ["thing", "part"]) (sc := defScope (top 15)) (own := [("part", 1)]) (by decide +kernel)) (fun _ _ _ _ _ => (pg_name (i := 1) sc.nd rfl (by first | exact Or.inl rfl | exact Or.inr rfl))) (fun _ _ _ _ _ => pts_nil) (fun _ _ _ _ _ => (cR T.is_integer_rules (R_is_integer_rules T) hr pass0 (pa_cons (pv 1) (pa_cons pe_int pa_nil))))) pa_nil))))))), ?_⟩
  refine ⟨_, rfl, _, "tuple", "tuple", true, rfl, .base (.tup hp), ktt, true, rfl, iteT ?_⟩
  refine ⟨_, rfl, p, _, rfl, .inr (sqT hp), rfl, true, rfl, iteT ?_⟩
  refine ⟨_, rfl, p, rfl, ⟨_, sqT hp⟩, fun D hD => lc_map (walk_tup (xs := runV (u, v))) [V.bl true, V.bl true] rfl (by simp [runV]) hD (fun H h => (sqT (h _ _ hp))) (fun i x H1 H' Ry hi h1' y ky => ?_) (fun H1 s1 h1 => ?_)⟩
  · obtain ⟨rfl, hx⟩ := y
    have hb : ∃ z : Int, x = .int z ∧ 1 ≤ z ∧ [V.bl true, V.bl true][i]? = some (.bl true) := by
      match i, hi, hx with
      | 0, _, hx => exact ⟨u, (Option.some.inj hx).symm, h1, rfl⟩
      | 1, _, hx => exact ⟨v, (Option.some.inj hx).symm, h2, rfl⟩
    obtain ⟨z, rfl, hz, hb⟩ := hb
    refine ⟨rfl, _, rfl, z, 1, rfl, ky _ _ ?_ (Same.refl _)⟩
    rw [decide_eq_true hz]
    exact hb
  · exact ⟨D, [true, true], rfl, sqL h1, q _ s1⟩

def sp_are_runs : Sp := fun vs H Q _ => ∃ a ws, vs = [.ref a] ∧ WordAt H a ws ∧ OkW ws ∧ ∀ H', Same H H' → Q (.bl true) H'
theorem sc_are_runs : FnScope ["thing", "one", "other", "run"] ["thing"] (defScope (top 16)) := ⟨rfl, rfl, rfl, by decide +kernel, rfl, by decide +kernel, by decide +kernel⟩
theorem R_are_runs (T : Txt K mg) : FnR P w K mg base CX0 3 (ga K "are_runs") sp_are_runs := by
  obtain ⟨fd, F⟩ := T.are_runs.F
  have sc := sc_are_runs
  refine Fun.raw F sc (fun vs H Q E h => ?_) (fun _ _ _ _ _ _ us hl => match us, hl with | [_], _ => rfl) (fun cdv A outer s H vs Q E hr h => ?_)
  · obtain ⟨p, r, rfl, _⟩ := h
    rfl
  obtain ⟨a, ws, rfl, ⟨ps, ha, hl, hp⟩, ok, q⟩ := h
  refine ⟨_, (pss_cons
    (ps_if (PW.pt (pw_or (pt_not (pt_val (pe_callB call_isB (by rfl) T.b_isinstance bt_isinstance (pa_cons (pv 0) (pa_cons (pe_ty "list" T.b_list bt_list) pa_nil))))) (pw_or (pt_not (pt_chain op_le op_le pe_int (pe_callB call_len_seq (by rfl) T.b_len bt_len (pa_cons (pv 0) pa_nil)) (pe_gint T.c_MOST_RUNS))) (pw_or1 (pt_not (pt_val (pe_callB (cr_all rfl) (by rfl) T.b_all bt_all (pa_cons (pe_lc (own := [("run", 3)]) (by rfl) sc.nd (pi_list (pv 0)) (blkOk_by (N := ["thing", "one", "other", "run"]) (sc := defScope (top 16)) (own := [("run", 3)]) (by decide +kernel)) (fun _ _ _ _ _ => (pg_name (i := 3) sc.nd rfl (by first | exact Or.inl rfl | exact Or.inr rfl))) (fun _ _ _ _ _ => pts_nil) (fun _ _ _ _ _ => (cR T.is_run (R_is_run T) hr pass0 (pa_cons (pv 3) pa_nil)))) pa_nil))))))))
      (pss_one
      (ps_ret pe_bl))
      pss_nil)
    (pss_one
    (ps_ret (pe_callB (cr_all rfl) (by rfl) T.b_all bt_all (pa_cons (pe_lc (own := [("one", 1), ("other", 2)]) (by rfl) sc.nd (pi_zip (by rfl) T.b_zip (pa_cons (pv 0) (pa_cons (pe_slice sl_list (pv 0) (po_some pe_int) po_none) pa_nil))) (blkOk_by (N := ["thing", "one", "other", "run"]) (sc := defScope (top 16)) (own := [("one", 1), ("other", 2)]) (by decide +kernel)) (fun _ _ _ _ _ => (show PG _ _ (gTup K 2 _) from (pg_tup (by rfl) (pgs_cons (pg_name (i := 1) sc.nd rfl (by first | exact Or.inl rfl | exact Or.inr rfl)) (pgs_cons (pg_name (i := 2) sc.nd rfl (by first | exact Or.inl rfl | exact Or.inr rfl)) pgs_nil))))) (fun _ _ _ _ _ => pts_nil) (fun _ _ _ _ _ => (show PE _ _ (tOp rNe (tOp (rIxT K) _ _) (tOp (rIxT K) _ _)) from pe_cmpR op_ne (pe_ix ix_tup (pv 1) pe_int (fun _ _ => rfl)) (pe_ix ix_tup (pv 2) pe_int (fun _ _ => rfl)) (nomark _)))) pa_nil))))), ?_⟩
  have hlen : ps.length = ws.length := by rw [hl, List.length_map]
  have h200 : (ws.length : Int) ≤ 200 := by have := ok.len; omega
  have h1 : 1 ≤ (ws.length : Int) := by have := List.length_pos_iff.mpr ok.ne; omega
  refine ⟨_, rfl, _, "list", "list", true, rfl, .base (.lst ha), kll, true, rfl, iteF ?_⟩
  refine ⟨_, rfl, a, _, rfl, .inl (sqL ha), _, _, rfl, rfl, _, rfl, ite2 (fun _ => ?_) (fun z => ?_)⟩
  rotate_left
  · exact absurd (by simpa [hlen] using h1) z
  refine ⟨_, _, rfl, rfl, _, rfl, ite2 (fun z => ?_) (fun z => ?_)⟩
  · exact absurd z (by simp [hlen]; omega)
  refine ⟨_, rfl, a, rfl, ⟨_, sqL ha⟩, fun D hD => lc_map walk_list (ps.map fun _ => V.bl true) (by simp) (by simp; omega) hD (fun H h => h.seq (sqL ha)) (fun i x H1 H' Ry hi h1 y ky => ?_) (fun H1 s1 h1 => ?_)⟩
  · obtain ⟨rfl, hx⟩ := y
    obtain ⟨p, hpi, rfl⟩ := mapI hx
    obtain ⟨t, ht, hpt⟩ := TupsAt.get hl hp hpi
    obtain ⟨r, hr', rfl⟩ := mapI ht
    have bd := ok.pos r (List.mem_of_getElem? hr')
    exact ⟨rfl, _, rfl, p, r, rfl, h1 _ _ hpt, bd.1, bd.2, fun H2 s2 => ky _ _ (by simp [hpi]) s2⟩
  refine ⟨D, ps.map fun _ => true, rfl, sqL (by rw [h1, List.map_map] <;> rfl), _, rfl, ite2 (fun z => ?_) fun _ => ?_⟩
  · exact absurd z (by simp)
  refine ⟨_, rfl, _, rfl, _, rfl, a, _, rfl, sqL (s1 _ _ ha), fun p hp' => ?_⟩
  rw [cutV_tail, ← List.map_drop]
  have s2 : Same H (upd H1 p (.lst ((ps.drop 1).map V.ref))) := same_put s1 (s1.free hp')
  refine ⟨a, p, _, _, rfl, sqL (s2 _ _ ha), sqL upd_same, fun D2 hD2 => lc_map (walk_zip (n := ps.length - 1) (by simp)) (List.replicate (ps.length - 1) (V.bl true)) (by simp) (by omega) hD2 (fun H h => ⟨h.seq (sqL (s2 _ _ ha)), h.seq (sqL upd_same)⟩) (fun i x H1 H' Ry hi h1 y ky => ?_) (fun H1 s3 h1 => ?_)⟩
  · obtain ⟨T', x', y', rfl, hT, rfl, hx, hy⟩ := y
    obtain ⟨u, hu, rfl⟩ := mapI hx
    obtain ⟨v, hv, rfl⟩ := mapI hy
    rw [List.getElem?_drop] at hv
    obtain ⟨t1, ht1, hu2⟩ := TupsAt.get hl hp hu
    obtain ⟨t2, ht2, hv2⟩ := TupsAt.get hl hp hv
    obtain ⟨r1, hr1, rfl⟩ := mapI ht1
    obtain ⟨r2, hr2, rfl⟩ := mapI ht2
    have ne := ok.nb i r1 r2 hr1 (by rw [Nat.add_comm]; exact hr2)
    have s4 := (s2.trans h1).trans (same_new (o := .tup [V.ref u, V.ref v]) hT)
    refine ⟨_, _, rfl, sqT upd_same, rfl, _, _, rfl, _, _, rfl, rfl, rfl, _, rfl, u, _, 0, _, rfl, rfl, sqT (s4 _ _ hu2), rfl, _, rfl, v, _, 0, _, rfl, rfl, sqT (s4 _ _ hv2), rfl, rfl, ky _ _ ?_ (same_new hT)⟩
    simp [List.getElem?_replicate, hi, eqV, ne]
  · refine ⟨D2, List.replicate (ps.length - 1) true, rfl, sqL (by rw [h1, List.map_replicate]), ?_⟩
    rw [show (List.replicate (ps.length - 1) true).all id = true by simp]
    exact q _ (s2.trans s3)

def sp_need_runs : Sp := fun vs H Q _ => ∃ a ws, vs = [.ref a] ∧ WordAt H a ws ∧ OkW ws ∧ ∀ H', Same H H' → Q .non H'
theorem sc_need_runs : FnScope ["word"] ["word"] (defScope (top 17)) := ⟨rfl, rfl, rfl, by decide +kernel, rfl, by decide +kernel, by decide +kernel⟩
theorem R_need_runs (T : Txt K mg) : FnR P w K mg base CX0 4 (ga K "need_runs") sp_need_runs := by
  obtain ⟨fd, F⟩ := T.need_runs.F
  have sc := sc_need_runs
  refine Fun.raw F sc (fun vs H Q E h => ?_) (fun _ _ _ _ _ _ us hl => match us, hl with | [_], _ => rfl) (fun cdv A outer s H vs Q E hr h => ?_)
  · obtain ⟨p, r, rfl, _⟩ := h
    rfl
  obtain ⟨a, ws, rfl, hw, ok, q⟩ := h
  refine ⟨_, (pss_one
    (ps_if (pt_not (pt_val (cR T.are_runs (R_are_runs T) hr pass0 (pa_cons (pv 0) pa_nil))))
      (pss_one
      ps_never)
      pss_nil)), ?_⟩
  exact ⟨_, rfl, a, ws, rfl, hw, ok, fun H' s1 => ⟨true, rfl, iteF (q H' s1)⟩⟩
end
end K75R
set_option Elab.async false
set_option linter.all false
set_option maxRecDepth 100000
set_option maxHeartbeats 4000000
namespace K75R
open PySem PySem.Spec PyProof.Rows L2
section
variable {P : Program} {w : World} {K : PySem.W.Frag} {mg : Str → Option Value} {base : Heap}
/-! signs under the rules -/
def clsA (K : PySem.W.Frag) : Rl → Addr | .plain => ga K "Plain" | .single => ga K "Single" | .next => ga K "Next" | .block => ga K "Block" | .later => ga K "Later"
theorem made0 {H : Hp} {Q : VK} {C : Addr} (q : ∀ H' x dx, Same H H' → H' x = some (.ins C dx []) → Q (.ref x) H') : ∀ x dx, H x = none → H dx = none → dx ≠ x → Q (.ref x) (upd (upd H dx (.own x)) x (.ins C dx [])) := fun x dx hx hd ne =>
  q _ x dx (fun b o hb => by rw [upd_ne (ne_of_none hb hx), upd_ne (ne_of_none hb hd)]; exact hb) upd_same

def sp_rule_of (K : PySem.W.Frag) : Sp := fun vs H Q _ => ∃ r, vs = [.str (Rl.nm r)] ∧ ∀ H' x dx, Same H H' → H' x = some (.ins (clsA K r) dx []) → Q (.ref x) H'
theorem sc_rule_of : FnScope ["name"] ["name"] (defScope (top 24)) := ⟨rfl, rfl, rfl, by decide +kernel, rfl, by decide +kernel, by decide +kernel⟩
theorem R_rule_of (T : Txt K mg) : FnR P w K mg base CX0 1 (ga K "rule_of") (sp_rule_of K) := by
  obtain ⟨fd, F⟩ := T.rule_of.F
  have sc := sc_rule_of
  refine Fun.raw F sc (fun vs H Q E h => ?_) (fun _ _ _ _ _ _ us hl => match us, hl with | [_], _ => rfl) (fun cdv A outer s H vs Q E hr h => ?_)
  · obtain ⟨r, rfl, _⟩ := h
    rfl
  obtain ⟨r, rfl, q⟩ := h
  refine ⟨_, (pss_cons
    (ps_if (pt_cmpR op_eq (pv 0) (pe_gstr T.c_PLAIN) (nomark _))
      (pss_one
      (ps_ret (pe_mk0 T.plain_mk (by rfl) T.Plain.g)))
      pss_nil)
    (pss_cons
    (ps_if (pt_cmpR op_eq (pv 0) (pe_gstr T.c_SINGLE) (nomark _))
      (pss_one
      (ps_ret (pe_mk0 T.single_mk (by rfl) T.Single.g)))
      pss_nil)
    (pss_cons
    (ps_if (pt_cmpR op_eq (pv 0) (pe_gstr T.c_NEXT) (nomark _))
      (pss_one
      (ps_ret (pe_mk0 T.next_mk (by rfl) T.Next.g)))
      pss_nil)
    (pss_one
    (ps_ret (pe_ifExp (pt_cmpR op_eq (pv 0) (pe_gstr T.c_BLOCK) (nomark _)) (pe_mk0 T.block_mk (by rfl) T.Block.g) (pe_mk0 T.later_mk (by rfl) T.Later.g))))))), ?_⟩
  cases r
  · exact ⟨_, rfl, rfl, _, rfl, iteT (made0 q)⟩
  · exact ⟨_, rfl, rfl, _, rfl, iteF ⟨_, rfl, rfl, _, rfl, iteT (made0 q)⟩⟩
  · exact ⟨_, rfl, rfl, _, rfl, iteF ⟨_, rfl, rfl, _, rfl, iteF ⟨_, rfl, rfl, _, rfl, iteT (made0 q)⟩⟩⟩
  · exact ⟨_, rfl, rfl, _, rfl, iteF ⟨_, rfl, rfl, _, rfl, iteF ⟨_, rfl, rfl, _, rfl, iteF ⟨_, rfl, rfl, _, rfl, iteT (made0 q)⟩⟩⟩⟩
  · exact ⟨_, rfl, rfl, _, rfl, iteF ⟨_, rfl, rfl, _, rfl, iteF ⟨_, rfl, rfl, _, rfl, iteF ⟨_, rfl, rfl, _, rfl, iteF (made0 q)⟩⟩⟩⟩

def sp_named (K : PySem.W.Frag) : Sp := fun vs H Q _ => ∃ r, vs = [.ref (ga K "Rule"), .str (Rl.nm r)] ∧ ∀ H' x dx, Same H H' → H' x = some (.ins (clsA K r) dx []) → Q (.ref x) H'
theorem sc_named : FnScope ["cls", "name"] ["cls", "name"] (defScope (atC 18 2)) := ⟨rfl, rfl, rfl, by decide +kernel, rfl, by decide +kernel, by decide +kernel⟩
theorem R_named (T : Txt K mg) : FnR P w K mg base CX0 2 (He5.wf K (ga K "Rule") "classmethod" "named") (sp_named K) := by
  obtain ⟨fd, F⟩ := T.f_named
  have sc := sc_named
  refine Fun.raw F sc (fun vs H Q E h => ?_) (fun _ _ _ _ _ _ us hl => match us, hl with | [_, _], _ => rfl) (fun cdv A outer s H vs Q E hr h => ?_)
  · obtain ⟨r, rfl, _⟩ := h
    rfl
  obtain ⟨r, rfl, q⟩ := h
  refine ⟨_, (pss_cons
    (ps_if (pt_cmpR op_notIn_seq (pv 1) (ClX.pe_cval (pv 0)) (by rfl))
      (pss_one
      ps_never)
      pss_nil)
    (pss_one
    (ps_ret (cR T.rule_of (R_rule_of T) hr pass0 (pa_cons (pv 1) pa_nil))))), ?_⟩
  refine ⟨_, rfl, _, rfl, _, _, _, _, rfl, T.rule_read, T.rule_all, allAt K, _, rfl, .inr (T.all_tup _), rfl, rfl, false, ?_, iteF ?_⟩
  · cases r <;> rfl
  · exact ⟨_, rfl, r, rfl, q⟩

/-! the signs, plain -/
def plainF (ws : List (Int × Int)) : List (Int × Int × Int) := ws.map fun r => (r.1, r.2, 0)
/-- what the method signs of a class is promised to do: f tells the signs -/
def sp_signs (g : List (Int × Int) → Prop) (f : List (Int × Int) → List (Int × Int × Int)) : Sp := fun vs H Q _ => ∃ (x a : Addr) (ws : List (Int × Int)), vs = [.ref x, .ref a] ∧ WordAt H a ws ∧ OkW ws ∧ g ws ∧
  ∀ H' l, Same H H' → H l = none → TupsAt H' l ((f ws).map sgnV) → Q (.ref l) H'
theorem sc_plain_signs : FnScope ["self", "word", "value", "count"] ["self", "word"] (defScope (atC 19 1)) := ⟨rfl, rfl, rfl, by decide +kernel, rfl, by decide +kernel, by decide +kernel⟩
theorem R_plain_signs (T : Txt K mg) : FnR P w K mg base CX0 5 (ma K (ga K "Plain") "signs") (sp_signs (fun _ => True) plainF) := by
  obtain ⟨fd, F⟩ := T.plain_signs.F
  have sc := sc_plain_signs
  refine Fun.raw F sc (fun vs H Q E h => ?_) (fun _ _ _ _ _ _ us hl => match us, hl with | [_, _], _ => rfl) (fun cdv A outer s H vs Q E hr h => ?_)
  · obtain ⟨_, _, _, rfl, _⟩ := h
    rfl
  obtain ⟨x, a, ws, rfl, hw, ok, -, q⟩ := h
  refine ⟨_, (pss_cons
    (ps_expr (cR T.need_runs (R_need_runs T) hr pass0 (pa_cons (pv 1) pa_nil)))
    (pss_one
    (ps_ret (pe_lc (own := [("value", 2), ("count", 3)]) (by rfl) sc.nd (pi_list (pv 1)) (blkOk_by (N := ["self", "word", "value", "count"]) (sc := defScope (atC 19 1)) (own := [("value", 2), ("count", 3)]) (by decide +kernel)) (fun _ _ _ _ _ => (show PG _ _ (gTup K 2 _) from (pg_tup (by rfl) (pgs_cons (pg_name (i := 2) sc.nd rfl (by first | exact Or.inl rfl | exact Or.inr rfl)) (pgs_cons (pg_name (i := 3) sc.nd rfl (by first | exact Or.inl rfl | exact Or.inr rfl)) pgs_nil))))) (fun _ _ _ _ _ => pts_nil) (fun _ _ _ _ _ => (pe_tup (pa_cons (pv 2) (pa_cons (pv 3) (pa_cons pe_int pa_nil))))))))), ?_⟩
  refine ⟨_, rfl, a, ws, rfl, hw, ok, fun H1 s1 => ?_⟩
  obtain ⟨ps, ha, hl, hp⟩ := hw
  have hlen : ps.length = ws.length := by rw [hl, List.length_map]
  have h200 := ok.len
  refine ⟨_, rfl, a, rfl, ⟨_, sqL (s1 _ _ ha)⟩, fun D hD => lc_tups walk_list ((plainF ws).map sgnV) (by simp [plainF, hlen]) (by simp; omega) hD (fun H h => h.seq (sqL (s1 _ _ ha))) (fun i y H2 H' Ry hi h1 yy ky => ?_) (fun H2 s2 h2 => q _ _ (s1.trans s2) (s1.free hD) h2)⟩
  obtain ⟨rfl, hy⟩ := yy
  obtain ⟨p, r, rfl, hr1, hp1⟩ := TupsAt.item hl hp hy
  refine ⟨p, _, rfl, sqT (h1 _ _ (s1 _ _ hp1)), rfl, _, _, rfl, _, _, rfl, rfl, rfl, _, rfl, _, rfl, by simp [sizeLine_eq], fun t ht => ky t _ _ ?_ (same_new ht) upd_same⟩
  simp [plainF, hr1, sgnV]

/-- how many of the i-th run's signs are subtracted by the next run -/
def minusAt (ws : List (Int × Int)) (i : Nat) : Int := match ws[i]?, ws[i + 1]? with
  | some a, some b => if a.1 < b.1 then 1 else 0
  | _, _ => 0
def nextF (ws : List (Int × Int)) : List (Int × Int × Int) := (List.range ws.length).map fun i => ((ws.getD i (0, 0)).1, (ws.getD i (0, 0)).2 - minusAt ws i, minusAt ws i)
theorem sc_next_signs : FnScope ["self", "word", "found", "place", "minus", "value", "count"] ["self", "word"] (defScope (atC 20 1)) := ⟨rfl, rfl, rfl, by decide +kernel, rfl, by decide +kernel, by decide +kernel⟩
theorem R_next_signs (T : Txt K mg) : FnR P w K mg base CX0 5 (ma K (ga K "Next") "signs") (sp_signs (fun _ => True) nextF) := by
  obtain ⟨fd, F⟩ := T.next_signs.F
  have sc := sc_next_signs
  refine Fun.raw F sc (fun vs H Q E h => ?_) (fun _ _ _ _ _ _ us hl => match us, hl with | [_, _], _ => rfl) (fun cdv A outer s H vs Q E hr h => ?_)
  · obtain ⟨_, _, _, rfl, _⟩ := h
    rfl
  obtain ⟨x, a, ws, rfl, hw, ok, -, q⟩ := h
  refine ⟨_, (pss_cons
    (ps_expr (cR T.need_runs (R_need_runs T) hr pass0 (pa_cons (pv 1) pa_nil)))
    (pss_cons
    (ps_set (i := 2) sc.nd rfl (by first | exact Or.inl rfl | exact Or.inr rfl) (pe_lst pa_nil))
    (pss_cons
    (ps_for PassesOwn.never rfl (pi_enum (by rfl) T.b_enumerate (pa_cons (pv 1) pa_nil)) (pg_tup (by rfl) (pgs_cons (pg_name (i := 3) sc.nd rfl (by first | exact Or.inl rfl | exact Or.inr rfl)) (pgs_cons (pg_tup (by rfl) (pgs_cons (pg_name (i := 5) sc.nd rfl (by first | exact Or.inl rfl | exact Or.inr rfl)) (pgs_cons (pg_name (i := 6) sc.nd rfl (by first | exact Or.inl rfl | exact Or.inr rfl)) pgs_nil))) pgs_nil)))
      (pss_cons
      (ps_set (i := 4) sc.nd rfl (by first | exact Or.inl rfl | exact Or.inr rfl) (pe_callTy call_int1 (by rfl) T.b_int bt_int (pa_cons (pe_and (pe_cmpR op_lt (pe_op op_add (pv 3) pe_int) (pe_callB call_len_seq (by rfl) T.b_len bt_len (pa_cons (pv 1) pa_nil)) (nomark _)) (pe_one (pe_cmpR op_gt (pe_ix ix_tup (pe_ix ix_list (pv 1) (pe_op op_add (pv 3) pe_int) (fun _ _ => rfl)) pe_int (fun _ _ => rfl)) (pv 5) (nomark _)))) pa_nil)))
      (pss_one
      (ps_expr (pe_bm PySem.F.plainAttrs_list PySem.F.slot_list_append PySem.F.type_list_append mt_append (pv 2) (pa_cons (pe_tup (pa_cons (pv 5) (pa_cons (pe_op op_sub (pv 6) (pv 4)) (pa_cons (pv 4) pa_nil)))) pa_nil))))))
    (pss_one
    (ps_ret (pv 2)))))), ?_⟩
  refine ⟨_, rfl, a, ws, rfl, hw, ok, fun H1 s1 => ?_⟩
  obtain ⟨ps, ha, hl, hp⟩ := hw
  have hlen : ps.length = ws.length := by rw [hl, List.length_map]
  have h200 := ok.len
  have nl : (nextF ws).length = ws.length := by simp [nextF]
  refine ⟨by simp [sizeLine_eq], fun l hnl => ?_⟩
  refine ⟨_, rfl, a, _, rfl, sqL (same_new hnl _ _ (s1 _ _ ha)), for_it walk_enum (fun i σ H2 => Same H H2 ∧ TupsAt H2 l (((nextF ws).take i).map sgnV) ∧ ∃ o3 o4 o5 o6, σ = [some (V.ref x), some (V.ref a), some (V.ref l), o3, o4, o5, o6]) ⟨s1.trans (same_new hnl), TupsAt.nil upd_same, _, _, _, _, rfl⟩ (fun i σ H2 _ h => h.1.seq (sqL ha)) ?_ ?_⟩
  · rintro i y σ H2 H' hi ⟨s2, tl, o3, o4, o5, o6, rfl⟩ yy
    obtain ⟨T', y1, y2, rfl, hT, rfl, e1, e2⟩ := yy
    cases e1
    obtain ⟨p, r, rfl, hr1, hp1⟩ := TupsAt.item hl hp e2
    have hi' : i < ws.length := by simpa [hlen] using hi
    have s3 : Same H2 (upd H2 T' (.tup [V.int (i : Nat), V.ref p])) := same_new hT
    have s4 := s2.trans s3
    have tl3 := tl.same s3
    have m0 : ∀ m : Int, m = minusAt ws i → (nextF ws)[i]? = some (r.1, r.2 - m, m) := fun m e => by
      subst e
      have hr1' := (List.getElem?_eq_some_iff.mp hr1).2
      simp [nextF, hi', List.getD_eq_getElem?_getD, hr1, hr1']
    -- what follows the test
    have fin : ∀ m : Int, m = minusAt ws i → tDrop (tBM K "list" rAppend (tVar 2) (tCons (tTup (tCons (tVar 5) (tCons (tOp (rI0 fun i j => V.int (i - j)) (tVar 6) (tVar 4)) (tCons (tVar 4) tNil)))) tNil)) 
        { nx := fun σ H2 => Same H H2 ∧ TupsAt H2 l (List.map sgnV (List.take (i + 1) (nextF ws))) ∧ ∃ o3 o4 o5 o6, σ = [some (V.ref x), some (V.ref a), some (V.ref l), o3, o4, o5, o6], rt := Q }
        [some (V.ref x), some (V.ref a), some (V.ref l), some (V.int i), some (V.int m), some (V.int r.1), some (V.int r.2)] (upd H2 T' (.tup [V.int (i : Nat), V.ref p])) := fun m em => by
      obtain ⟨xs, hx1, hx2⟩ := tl3.lst
      refine ⟨_, rfl, .inl ⟨rfl, _, sqL hx1⟩, _, rfl, _, rfl, _, rfl, _, _, rfl, rfl, _, rfl, by simp [sizeLine_eq], fun t ht => ?_⟩
      refine ⟨l, xs, _, rfl, rfl, (same_new ht) _ _ hx1, by rw [hx2, List.length_map, List.length_take]; exact sz_lt (by omega), ?_, ?_, _, _, _, _, rfl⟩
      · exact same_put (s4.trans (same_new ht)) (s1.free hnl)
      · have := tl3.push hx1 ht (t := sgnV (r.1, r.2 - m, m))
        rw [List.take_add_one, m0 m em, List.map_append]
        exact this
    refine ⟨T', _, rfl, sqT upd_same, rfl, _, _, rfl, _, _, rfl, p, _, rfl, sqT (s4 _ _ hp1), rfl, _, _, rfl, _, _, rfl, rfl, rfl, ?_⟩
    refine ⟨_, rfl, _, _, rfl, rfl, _, rfl, a, _, rfl, .inl (sqL (s4 _ _ ha)), _, _, rfl, rfl, _, rfl, ite2 (fun c1 => ?_) (fun c1 => ?_)⟩
    · have hi2 : i + 1 < ws.length := by have := of_decide_eq_true c1; simp [hlen] at this; omega
      have e3 : (ps.map V.ref)[i + 1]? = some (V.ref (ps[i + 1]'(by omega))) := by simp [hlen, hi2]
      obtain ⟨p2, r2, ep, hr2, hp2⟩ := TupsAt.item hl hp e3
      refine ⟨_, rfl, _, rfl, _, _, rfl, rfl, a, _, _, V.ref p2, rfl, rfl, sqL (s4 _ _ ha), by rw [← ep]; exact atI_nat (j := i + 1) e3, p2, _, 0, _, rfl, rfl, sqT (s4 _ _ hp2), rfl, _, rfl, _, _, rfl, rfl, .inr ⟨_, rfl, ?_⟩⟩
      refine fin _ ?_
      unfold minusAt
      rw [hr1, hr2]
      simp
    · refine .inr ⟨_, rfl, fin _ ?_⟩
      have hi2 : ws[i + 1]? = none := by
        have : (ps.length : Int) ≤ i + 1 := by simpa using c1
        exact List.getElem?_eq_none (by omega)
      unfold minusAt
      rw [hr1, hi2]
      rfl
  · rintro σ H2 ⟨s2, tl, o3, o4, o5, o6, rfl⟩
    refine ⟨_, rfl, q _ _ s2 (s1.free hnl) ?_⟩
    rw [List.length_map, hlen, ← nl, List.take_length] at tl
    exact tl

/-! block: from the end -/
/-- the values seen from the end: the run in front of i in the reversed word -/
def backV (rs : List (Int × Int)) (i : Nat) : Int := match i with | 0 => 0 | j + 1 => (rs.getD j (0, 0)).1
def scanF (rs : List (Int × Int)) : List (Int × Int × Int) := (List.range rs.length).map fun i => let r := rs.getD i (0, 0); if r.1 < backV rs i then (r.1, 0, r.2) else (r.1, r.2, 0)
def blockF (ws : List (Int × Int)) : List (Int × Int × Int) := (scanF ws.reverse).reverse
theorem scanF_len (rs : List (Int × Int)) : (scanF rs).length = rs.length := by simp [scanF]
theorem TupsAt.rev {H : Hp} {l l2 : Addr} {ts : List (List V)} {xs : List V} (h : TupsAt H l ts) (e : H l = some (.lst xs)) (hn : H l2 = none) : TupsAt (upd H l2 (.lst xs.reverse)) l2 ts.reverse := by
  obtain ⟨ps, h1, h2, h3⟩ := h
  rw [h1] at e
  obtain rfl : ps.map V.ref = xs := by cases e; rfl
  refine ⟨ps.reverse, by rw [upd_same, List.map_reverse], by simp [h2], fun i p t q1 q2 => ?_⟩
  have hi : i < ps.length := by simpa using (List.getElem?_eq_some_iff.mp q1).1
  rw [List.getElem?_reverse hi] at q1
  rw [List.getElem?_reverse (by omega)] at q2
  have := h3 _ _ _ q1 (by rw [h2]; exact q2)
  rw [upd_ne (ne_of_none this hn)]
  exact this
theorem sc_block_signs : FnScope ["self", "word", "found", "following", "value", "count"] ["self", "word"] (defScope (atC 22 1)) := ⟨rfl, rfl, rfl, by decide +kernel, rfl, by decide +kernel, by decide +kernel⟩
theorem R_block_signs (T : Txt K mg) : FnR P w K mg base CX0 5 (ma K (ga K "Block") "signs") (sp_signs (fun _ => True) blockF) := by
  obtain ⟨fd, F⟩ := T.block_signs.F
  have sc := sc_block_signs
  refine Fun.raw F sc (fun vs H Q E h => ?_) (fun _ _ _ _ _ _ us hl => match us, hl with | [_, _], _ => rfl) (fun cdv A outer s H vs Q E hr h => ?_)
  · obtain ⟨_, _, _, rfl, _⟩ := h
    rfl
  obtain ⟨x, a, ws, rfl, hw, ok, -, q⟩ := h
  refine ⟨_, (pss_cons
    (ps_expr (cR T.need_runs (R_need_runs T) hr pass0 (pa_cons (pv 1) pa_nil)))
    (pss_cons
    (ps_set (i := 2) sc.nd rfl (by first | exact Or.inl rfl | exact Or.inr rfl) (pe_lst pa_nil))
    (pss_cons
    (ps_set (i := 3) sc.nd rfl (by first | exact Or.inl rfl | exact Or.inr rfl) pe_int)
    (pss_cons
    (ps_for PassesOwn.never rfl (pi_list (pe_revL (pv 1))) (pg_tup (by rfl) (pgs_cons (pg_name (i := 4) sc.nd rfl (by first | exact Or.inl rfl | exact Or.inr rfl)) (pgs_cons (pg_name (i := 5) sc.nd rfl (by first | exact Or.inl rfl | exact Or.inr rfl)) pgs_nil)))
      (pss_cons
      (ps_expr (pe_bm PySem.F.plainAttrs_list PySem.F.slot_list_append PySem.F.type_list_append mt_append (pv 2) (pa_cons (pe_ifExp (pt_cmpR op_gt (pv 3) (pv 4) (nomark _)) (pe_tup (pa_cons (pv 4) (pa_cons pe_int (pa_cons (pv 5) pa_nil)))) (pe_tup (pa_cons (pv 4) (pa_cons (pv 5) (pa_cons pe_int pa_nil))))) pa_nil)))
      (pss_one
      (ps_set (i := 3) sc.nd rfl (by first | exact Or.inl rfl | exact Or.inr rfl) (pv 4)))))
    (pss_one
    (ps_ret (pe_revL (pv 2)))))))), ?_⟩
  refine ⟨_, rfl, a, ws, rfl, hw, ok, fun H1 s1 => ?_⟩
  obtain ⟨xs0, hx0, -⟩ := hw.lst
  have h200 := ok.len
  refine ⟨by simp [sizeLine_eq], fun l hnl => ?_⟩
  have s2 := s1.trans (same_new (o := .lst []) hnl)
  refine ⟨_, rfl, a, _, rfl, sqL (s2 _ _ hx0), fun b hnb => ?_⟩
  have hw2 := (hw.same s2).rev (s2 _ _ hx0) hnb
  rw [← List.map_reverse] at hw2
  have s3 : Same H (upd (upd H1 l (.lst [])) b (.lst xs0.reverse)) := s2.trans (same_new hnb)
  have hne : l ≠ b := fun e => by subst e; rw [upd_same] at hnb; cases hnb
  have hl0 : (upd (upd H1 l (.lst [])) b (.lst xs0.reverse)) l = some (.lst []) := by rw [upd_ne hne, upd_same]
  generalize (upd (upd H1 l (.lst [])) b (.lst xs0.reverse)) = Hb at hw2 s3 hl0
  obtain ⟨ps, hb, hl, hp⟩ := hw2
  have hlen : ps.length = ws.reverse.length := by rw [hl, List.length_map]
  generalize hrs : ws.reverse = rs at hl hp hlen
  have hrl : rs.length ≤ 200 := by rw [← hrs]; simpa using h200
  have hnH : H l = none := s1.free hnl
  have ne2 : ∀ (i : Nat) p, ps[i]? = some p → p ≠ l := fun i p e1 e2 => by
    obtain ⟨t, ht, hpt⟩ := TupsAt.get hl hp e1
    subst e2; rw [hl0] at hpt; cases hpt
  refine ⟨b, rfl, ⟨_, sqL hb⟩, for_it (walk_list (xs := ps.map V.ref)) (fun i σ H2 => (∀ c o, Hb c = some o → c ≠ l → H2 c = some o) ∧ Same H H2 ∧ TupsAt H2 l (((scanF rs).take i).map sgnV) ∧ ∃ o4 o5, σ = [some (V.ref x), some (V.ref a), some (V.ref l), some (.int (backV rs i)), o4, o5]) ⟨fun _ _ h _ => h, s3, TupsAt.nil hl0, _, _, rfl⟩ (fun i σ H2 _ h => sqL (h.1 _ _ hb (fun e => hne e.symm))) ?_ ?_⟩
  · rintro i y σ H2 H' hi ⟨s4, s5, tl, o4, o5, rfl⟩ ⟨rfl, hy⟩
    obtain ⟨p, r, rfl, hr1, hp1⟩ := TupsAt.item hl hp hy
    have hi' : i < rs.length := by simpa [hlen] using hi
    have hr1' := (List.getElem?_eq_some_iff.mp hr1).2
    obtain ⟨xs, hx1, hx2⟩ := tl.lst
    have hpl : p ≠ l := by
      obtain ⟨p', hp', e⟩ := mapI hy
      cases e
      exact ne2 i _ hp'
    have bk : backV rs (i + 1) = r.1 := by simp [backV, List.getD_eq_getElem?_getD, hr1, hi', hr1']
    refine ⟨p, _, rfl, sqT (s4 _ _ hp1 hpl), rfl, _, _, rfl, _, _, rfl, rfl, ?_⟩
    refine ⟨_, rfl, .inl ⟨rfl, _, sqL hx1⟩, _, rfl, _, rfl, _, _, rfl, rfl, _, rfl, ite2 (fun c => ?_) (fun c => ?_)⟩
    · have e1 : (scanF rs)[i]? = some (r.1, 0, r.2) := by
        have c := of_decide_eq_true c
        simp [scanF, hi', List.getD_eq_getElem?_getD, hr1, hr1', c]
      refine ⟨_, rfl, _, rfl, by simp [sizeLine_eq], fun t ht => ?_⟩
      refine ⟨l, xs, _, rfl, rfl, (same_new ht) _ _ hx1, by rw [hx2, List.length_map, List.length_take]; exact sz_lt (by omega), _, rfl, ?_⟩
      refine ⟨fun c o hc hcl => ?_, same_put (s5.trans (same_new ht)) hnH, ?_, _, _, by rw [bk] <;> rfl⟩
      · rw [upd_ne hcl]
        exact (same_new ht) _ _ (s4 _ _ hc hcl)
      · have := tl.push hx1 ht (t := sgnV (r.1, 0, r.2))
        rw [List.take_add_one, e1, List.map_append]
        exact this
    · have e1 : (scanF rs)[i]? = some (r.1, r.2, 0) := by
        have c : ¬ r.1 < backV rs i := by simpa using c
        simp [scanF, hi', List.getD_eq_getElem?_getD, hr1, hr1', c]
      refine ⟨_, rfl, _, rfl, by simp [sizeLine_eq], fun t ht => ?_⟩
      refine ⟨l, xs, _, rfl, rfl, (same_new ht) _ _ hx1, by rw [hx2, List.length_map, List.length_take]; exact sz_lt (by omega), _, rfl, ?_⟩
      refine ⟨fun c o hc hcl => ?_, same_put (s5.trans (same_new ht)) hnH, ?_, _, _, by rw [bk] <;> rfl⟩
      · rw [upd_ne hcl]
        exact (same_new ht) _ _ (s4 _ _ hc hcl)
      · have := tl.push hx1 ht (t := sgnV (r.1, r.2, 0))
        rw [List.take_add_one, e1, List.map_append]
        exact this
  · rintro σ H2 ⟨s4, s5, tl, o4, o5, rfl⟩
    obtain ⟨xs, hx1, hx2⟩ := tl.lst
    rw [List.length_map, hlen, ← scanF_len, List.take_length] at tl
    refine ⟨_, rfl, l, _, rfl, sqL hx1, fun l2 hl2 => q _ _ (s5.trans (same_new hl2)) (s5.free hl2) ?_⟩
    have := tl.rev hx1 hl2
    rw [← List.map_reverse] at this
    unfold blockF
    rw [hrs]
    exact this
end
end K75R
set_option Elab.async false
set_option linter.all false
set_option maxRecDepth 100000
set_option maxHeartbeats 4000000
/-! Own rule: super().m(..) in a method of a class of the program. -/
namespace K75R
open PySem PySem.Spec PyProof.Rows L2 PySem.W NdefX

/-- the program's main file, as the text's code objects name it -/
structure PFile (P : Program) : Prop where
  file : ((P.main.file : Str) == ("/claim/cut.py" : Str)) = true
  top : (P.main.scope.names.lookup ("super" : Str)).isSome = false

/-! ### readings at the running def's own code -/
structure PEa (X : Cx) (B : List Stmt) (e : Expr) (t : TE) : Prop where
  run : ∀ (pins : List (Addr × Obj)) (s : Shared) (σ : L2.St) (H : Hp) (Q : VK), Inv X pins σ H s → t σ H Q → _root_.PySem.wpAt (model X.prog X.w) X.A (.func B X.env) (eval e X.env) (EP X pins σ Q) X.xe s
structure PSa (X : Cx) (B : List Stmt) (st : Stmt) (t : TS) : Prop where
  run : ∀ (pins : List (Addr × Obj)) (s : Shared) (σ : L2.St) (H : Hp) (D : Ends), Inv X pins σ H s → t D σ H → _root_.PySem.wpAt (model X.prog X.w) X.A (.func B X.env) (exec st X.env) (SP X pins D) X.xe s
structure PSsa (X : Cx) (B : List Stmt) (ss : List Stmt) (t : TS) : Prop where
  run : ∀ (pins : List (Addr × Obj)) (s : Shared) (σ : L2.St) (H : Hp) (D : Ends), Inv X pins σ H s → t D σ H → _root_.PySem.wpAt (model X.prog X.w) X.A (.func B X.env) (execs ss X.env) (SP X pins D) X.xe s
section
variable {X : Cx} {B : List Stmt} {st : Stmt} {rest : List Stmt} {t u : TS} {pos : Pos}
theorem psa_of (h : PS X st t) : PSa X B st t := ⟨fun pins s σ H D I q => wpAt_of_wpAny (h.run pins s σ H D I q)⟩
theorem pssa_of (h : PSs X rest t) : PSsa X B rest t := ⟨fun pins s σ H D I q => wpAt_of_wpAny (h.run pins s σ H D I q)⟩
theorem pssa_cons (h1 : PSa X B st t) (h2 : PSsa X B rest u) : PSsa X B (st :: rest) (tSeq t u) := by
  refine ⟨fun pins s σ H D I h => ks_wpAt_execs_cons (ks_wpAt_mono (h1.run pins s σ H { D with nx := u D } I h) (fun f s1 q => ?_) fun _ _ z => z)⟩
  match f, q with
  | .next, ⟨σ', H', I', q⟩ => exact h2.run pins s1 σ' H' D I' q
  | .ret v, q => exact q
  | .brk, q => exact q
  | .cont, q => exact q
theorem psa_set {i : Nat} {x : Str} {e : Expr} {te : TE} {pos' : Pos} (hN : X.N.Nodup) (hi : X.N[i]? = some x) (hx : Loc X.env.scope x) (he : PEa X B e te) (hs : swapsWith e (some (.Name x pos')) pos.line X.env = pure false := by rfl)
    (hf : X.fn x = true ∨ X.env.scope.names.lookup x = some .local := by first | exact .inl rfl | exact .inr rfl | assumption) : PSa X B (.Assign [.Name x pos'] e pos) (tAsg te (gName i)) :=
  ⟨fun pins s σ H D I h => ks_wpAt_Assign_Name (ks_wpAt_mono (he.run pins s σ H _ I h) (fun v s1 ⟨y, H1, I1, r1, q1⟩ => store_ok I1 hN hi hx r1 (fun s2 I2 => ⟨_, H1, I2, q1⟩) hf) fun _ _ z => z) hs⟩
end

/-! ### super().m(e, ..) -/
theorem keeps_method {M : Model} {K : Frag} {f2 : Addr} {self : Value} {u : Addr} (hf : fnIn K f2 = true) (h : Heap) (z : K.In h ∧ h.get? u = some (methodObj (.ref f2) self)) : ∃ k, (k = Keeper.frame ∨ k = Keeper.machine ∨ k = Keeper.boundFrame) ∧ Looks M h (keeperOf (.ref u)) k := by
  refine ⟨.boundFrame, .inr (.inr rfl), fun A Q E s k q => ?_⟩
  have hg : ∃ o fd, h.get? f2 = some o ∧ o.data = .func fd := by
    unfold fnIn at hf
    split at hf
    · rename_i e
      exact ⟨_, _, z.1 _ _ e, rfl⟩
    · cases hf
  obtain ⟨o, fd, ho, hd⟩ := hg
  unfold keeperOf
  refine wpAny_bind (wpAny_load (k _ _ z.2) ?_)
  simp only [methodObj, show (Value.type "method" != Value.type "method") = false by decide, Bool.false_eq_true, if_false]
  refine wpAny_bind (wpAny_load (k _ _ ho) ?_)
  rw [hd]
  exact wpAny_pure q
/-- what the running def must be for super() -/
structure SupX (X : Cx) (f C cc cda : Addr) : Prop where
  func : X.env.func = some f
  code : X.env.code = .ref cda
  kc : X.env.kindOf ("__class__" : Str) = some .free
  ks : X.env.kindOf "super" = some .globalImplicit
  k0 : X.env.kindOf "self" = some .local
  n0 : X.N[0]? = some ("self" : Str)
  cell : X.env.cells.lookup ("__class__" : Str) = some cc
  isc : ∃ cl cld csl, X.K.lookup cc = some ⟨cl, cld, .cell (some (.ref C)), csl⟩
  fd : ∃ oc od fd osl ar, X.K.lookup f = some ⟨oc, od, .func fd, osl⟩ ∧ (fd.params.posonlyargs ++ fd.params.args).head? = some ar ∧ ar.arg = "self"
  rec_ : ∃ ccl cdd vs ccs tf, X.K.lookup cda = some ⟨ccl, cdd, .fields vs, ccs⟩ ∧ vs[2]? = some (.str "/claim/cut.py" tf)
  bsup : X.mg "super" = none
def tSup (C : Addr) (sp : Sp) (E : XK) (t : TA) : TE := fun σ H Q => ∃ x dx fs, σ[0]? = some (some (V.ref x)) ∧ H x = some (.ins C dx fs) ∧ t σ H fun vs H2 => sp (.ref x :: vs) H2 Q E
theorem pea_super {X : Cx} {B : List Stmt} {CX : CXT} {k : Nat} {f C cc cda f2 : Addr} {m : Str} {sp : Sp} {E : XK} {e : Expr} {es : List Expr} {t : TA} {p0 p1 apos pos : Pos} {pl : Sem Bool} (Z : SupX X f C cc cda) (hP : PFile X.prog)
    (hcls : (clsIn X.K C).isSome = true) (hself : mroIn X.K C (.ref C) = some true) (third : nsIn X.K cStatics "thirdparty.any" = some none)
    (hm : ks_superIn X.K C C m = some (some (.ref f2))) (ht : typeIn X.K (.ref f2) = some (.type "function")) (hfn : fnIn X.K f2 = true) (hn : (m == ("__class__" : Str)) = false)
    (F : FnR X.prog X.w X.K X.mg X.base CX k f2 sp) (hr : Room (k + 1) X.A) (hx : Passes CX X E) (ha : PA X (e :: es) t)
    (he : starEach (e :: es) X.env = (false, eval e X.env) :: starEach es X.env := by rfl) (hpl : (backTo pos (starEach es X.env)).any (·.1) = false := by rfl)
    (h3 : eval (.Call (.Attribute (.Call (.Name "super" p0) [] [] p1) m apos) (e :: es) [] pos) X.env = (do
      let ov ← attributeBase (.Call (.Name "super" p0) [] [] p1) m X.env (eval (.Call (.Name "super" p0) [] [] p1) X.env)
      standAt apos.atName
      let (f, first) ← holding [ov] (getMethod ov m pl)
      callWith pos f first (backTo pos (starEach (e :: es) X.env)) []) := by rfl) :
    PEa X B (.Call (.Attribute (.Call (.Name "super" p0) [] [] p1) m apos) (e :: es) [] pos) (tSup C sp E t) := by
  refine ⟨fun pins s σ H Q I h => ?_⟩
  obtain ⟨x, dx, fs, hσ, hxo, q⟩ := h
  obtain ⟨mA, O, _, _, _, _⟩ := ins_get I.hok hxo
  obtain ⟨od, J, _⟩ := O.look
  have KX := I.kIn
  obtain ⟨cd, hcd⟩ := Option.isSome_iff_exists.mp hcls
  obtain ⟨oD, hD1, hD2⟩ : ∃ oD, s.heap.get? C = some oD ∧ oD.data = .cls cd := by
    unfold clsIn at hcd
    split at hcd
    · rename_i c d cd' sl ho
      cases hcd
      exact ⟨_, KX _ _ ho, rfl⟩
    · cases hcd
  obtain ⟨cl, cld, csl, hcell⟩ := Z.isc
  obtain ⟨oc, odf, fd, osl, ar, hfl, hpar, har⟩ := Z.fd
  obtain ⟨ccl, cdd, vs, ccs, tf, hrec, hvs⟩ := Z.rec_
  obtain ⟨mb, hb1, hb2⟩ := I.mod.blt
  obtain ⟨ml, hns, hloc⟩ := I.loc
  have hself' : ml "self" = some (.ref x) := by
    obtain ⟨u, ru, lk⟩ := hloc 0 "self" (.ref x) Z.n0 hσ (.inl Z.k0)
    obtain rfl : u = Value.ref x := ru
    rcases lk with ⟨_, e⟩ | ⟨e, _⟩
    · exact e
    · rw [Z.k0] at e; rcases e with e | e <;> cases e
  have nocls : ∀ c, (instObj C dx).data ≠ .cls c := fun c e => by
    have := J.no
    unfold notCls at this
    rw [e] at this
    exact Bool.noConfusion this
  refine ks_wpAt_MethodCall (pl := pl) ?_ h3
  refine ks_wpAt_super_base Z.ks Z.kc hn Z.func (KX _ _ hfl) rfl hpar Z.code (KX _ _ hrec) rfl hvs hP.file hP.top ?_
  refine ks_loadName_global I.ok.kind Z.ks (Calls.loadGlobal_builtin (by rw [I.ok.glob]; exact I.mod.glob.keeps I.bk) Z.bsup (by rw [I.ok.blt]; exact hb1.keeps I.bk) ((hb2 "super" (by decide)).trans (by decide +kernel)) ⟨rfl, ?_⟩)
  refine wpAny_loadName_free I.ok.kind Z.kc Z.cell ⟨_, KX _ _ hcell, rfl⟩ ?_
  rw [har]
  refine wpAny_loadName_local I.ok.kind Z.k0 hns hself' ?_
  obtain ⟨hh, g, d, tk, os⟩ := s
  refine ks_wpAny_isType_cls hD1 hD2 ⟨rfl, ?_⟩
  refine ks_wpAny_call_super hD1 hD2 J.at_ J.cls nocls (looks_mroIn KX hself) (fun h' e1 k1 => ?_)
  have I1 : Inv X pins σ H ⟨h', g, d, tk, os⟩ := I.kept (t' := tk) k1
  have KX1 := I1.kIn
  obtain ⟨of, hof, hofc⟩ : ∃ of, h'.get? f2 = some of ∧ of.cls = .type "function" := by
    have ht' : (X.K.lookup f2).map (·.cls) = some (.type "function") := ht
    cases z : X.K.lookup f2 with
    | none => rw [z] at ht'; cases ht'
    | some of => rw [z] at ht'; exact ⟨of, KX1 _ _ z, Option.some.inj ht'⟩
  unfold ks_superIn at hm
  rw [hcd] at hm
  refine ks_wpAny_getMethod_super e1 (looks_opaque KX1 third) (l₀ := cd.mro) (fun A Q E s k q => wpAny_bind ((looks_clsIn KX1 hcd) A _ E s k (wpAny_pure q))) rfl KX1 hm hof hofc (ks_ne KX J hcd) hn ?_
  have I2 : Inv X pins σ H ⟨h'.push (methodObj (.ref f2) (.ref x)), g, d, tk + 1, os⟩ := I1.kept (t' := tk + 1) fun b o e => Heap.get?_push_of_some _ e
  have hmo : (h'.push (methodObj (.ref f2) (.ref x))).get? h'.objs.size = some (methodObj (.ref f2) (.ref x)) := Heap.get?_push_at rfl rfl
  have fp : FpOk X pins H h'.objs.size := I1.fpOk (Nat.le_refl _) (I1.hok.fresh (Nat.le_refl _))
  have I3 := I2.pinned (fp := [h'.objs.size]) (fun b hb => by rw [List.mem_singleton.mp hb]; exact fp) (fun b hb => by rw [List.mem_singleton.mp hb]; exact ⟨_, hmo, fun v z => by cases z⟩)
  rw [he]
  refine callWith_of (P := fun h => X.K.In h ∧ h.get? h'.objs.size = some (methodObj (.ref f2) (.ref x))) (by show ((false || (backTo pos (starEach es X.env)).any (·.1)) || false) = false; rw [hpl] <;> rfl) (fun h z => keeps_method hfn h z) (Calls.evalArgs_plain ?_)
  have har2 := ha.run pos _ _ σ H _ I3 q
  rw [he] at har2
  refine thn har2 fun us s4 ⟨vs, H4, I4, rv, q4⟩ => ?_
  have hm4 := (I4.pin (h'.objs.size, methodObj (.ref f2) (.ref x)) (List.mem_append_right _ (List.mem_append_right _ (mem_pinsAt (List.mem_singleton.mpr rfl) hmo)))).1
  refine ⟨⟨I4.kIn, hm4⟩, ?_⟩
  have I5 := I4.unpinned
  refine wpAny_call (ks_codeAny_call_bound hm4 ?_)
  exact run_fnR (us := .ref x :: us) (vs := .ref x :: vs) F (hr.mono (Nat.le_succ _)) hx I5 (.cons rfl rv) q4

/-! ### xs[::-1] and a for at the running def's own code -/
section
variable {X : Cx} {B : List Stmt}
theorem pea_revL {e : Expr} {te : TE} {k : Nat} {p1 p2 p3 pos : Pos} (he : PEa X B e te) : PEa X B (.Subscript e (.Slice none none (some (.UnaryOp .USub (.Constant (.int 1) k p1) p2)) p3) pos) (tRevL X.K te) := by
  refine ⟨fun pins s σ H Q I h => ?_⟩
  rw [eval_Subscript]
  refine _root_.PySem.wpAt_bind (ks_wpAt_mono (he.run pins s σ H _ I h) (fun v s1 hv => ?_) fun _ _ z => z)
  obtain ⟨y, H1, I1, r1, a, xs, rfl, hxs, q⟩ := hv
  cases r1
  refine wpAt_of_wpAny (wpAny_bind (wpAny_holding ?_))
  have third : PO X (some (.UnaryOp .USub (.Constant (.int 1) k p1) p2)) (tPart (tUn (rU fun i => .int (-i)) (tC (.int 1)))) :=
    po_some (pe_un un_neg pe_int)
  refine wpAny_Slice (thn (po_none.run pins s1 σ H1 (fun o G => o = none ∧ G = H1) I1 ⟨rfl, rfl⟩) fun va sa za => ?_)
  obtain ⟨_, _, Ia, pa, rfl, rfl⟩ := za
  refine thn (po_none.run pins sa σ _ (fun o G => o = none ∧ G = _) Ia ⟨rfl, rfl⟩) fun vb sb zb => ?_
  obtain ⟨_, _, Ib, pb, rfl, rfl⟩ := zb
  refine thn (third.run pins sb σ _ (fun o G => o = some (-1) ∧ G = _) Ib ⟨1, rfl, -1, rfl, rfl, rfl⟩) fun vc sc zc => ?_
  obtain ⟨_, _, Ic, pc, rfl, rfl⟩ := zc
  have slc : Inv X pins σ _ { sc with heap := sc.heap.push { cls := .type "slice", data := .fields #[va, vb, vc] } } :=
    Ic.kept (t' := sc.toks) fun b ob z => Heap.get?_push_of_some _ z
  obtain ⟨its, rr, lst, hz⟩ := slc.list hxs
  have hlen := rr.length
  refine wpAny_bind (wpAny_standAt ?_)
  refine tail_any (ops := [.ref a, .ref sc.heap.objs.size]) lst.isList.typeIs (PySem.slot_list_getitem.lookup) ?_ (by with_unfolding_all rfl)
  refine wpAny_getItem_list_slice lst.isList (Heap.IsSliceOf.new _ va vb vc) pa pb pc (by decide) ?_ (by rw [List.size_toArray]; omega)
  rw [PySem.W.krv_pick]
  refine ⟨.ref _, _, slc.laid (t' := sc.toks) (o := .lst xs.reverse) (fun b ob z => Heap.get?_push_of_some _ z) (Nat.le_refl _) ?_, rfl, q _ (slc.hok.fresh (Nat.le_refl _))⟩
  exact ⟨by rw [List.length_reverse] <;> exact hz, _, 0, rr.reverse, Heap.get?_push_size _ rfl⟩
/-- for x in e: .., e a list, told at the running def's own code -/
theorem psa_for {iter tg : Expr} {body : List Stmt} {te : TE} {g : TG} {tb : TS} {pos : Pos} (hp : PassesOwn (model X.prog X.w) X.A X.env X.xe) (hc : X.calm = true) (hi : PEa X B iter te) (hg : PG X tg g) (hb : PSs X body tb)
    (hs : ∀ x, foldedSetIterable iter X.env x = pure x := by intro _; rfl) : PSa X B (.For tg iter body [] pos) (tFor (iList X.K te) g tb) := by
  refine ⟨fun pins s σ H D I h => ?_⟩
  rw [exec_For]
  refine _root_.PySem.wpAt_bind (wpAt_of_wpAny (wpAny_standAt ?_))
  refine _root_.PySem.wpAt_bind (ks_wpAt_mono (hi.run pins s σ H _ I h) (fun v s1 hv => ?_) fun _ _ z => z)
  refine wpAt_of_wpAny (wpAny_bind (wpAny_of_eq (hs v) (wpAny_bind (wpAny_standAt ?_))))
  -- from here on the loop is the loop over a value that is there
  obtain ⟨y, H1, I1, r1, a, rfl, ⟨xs, hq⟩, q⟩ := hv
  cases r1
  obtain ⟨its, rv, pl, hz⟩ := I1.list hq
  refine wpAny_bind (wpAny_holding (wpAny_pyIter_list pl.isList ?_))
  generalize hh2 : s1.heap.push _ = h2
  have kp2 : ∀ b o, s1.heap.get? b = some o → h2.get? b = some o := fun b o e => by rw [← hh2]; exact Heap.get?_push_of_some _ e
  have I2 : Inv X pins σ H1 { s1 with heap := h2 } := I1.kept (t' := s1.toks) kp2
  refine wpAny_runOwn ?_
  obtain ⟨W, ⟨m0, w0⟩, turn⟩ := q
  have T := turn_list (P := X.prog) (w := X.w) (K := X.K) (tg := tg) a s1.heap.objs.size
  have fp0 : FpOk X pins H1 s1.heap.objs.size := I1.fpOk (Nat.le_refl _) (I1.hok.fresh (Nat.le_refl _))
  have st0 : h2.IsListIter s1.heap.objs.size a 0 := by rw [← hh2]; exact ⟨_, Heap.get?_push_size _ rfl, rfl, rfl⟩
  generalize s1.heap.objs.size = it at T fp0 st0
  have still : ∀ {G : Hp}, G it = none → ∀ b ∈ [it], FpOk X pins G b := fun hn b hb => by rw [List.mem_singleton.mp hb]; exact ⟨hn, fp0.2⟩
  refine codeAny_forLoop_any (fun n sa => ∃ i σa G, Inv X pins σa G sa ∧ sa.heap.IsListIter it a i ∧ G it = none ∧ W i n σa G) ?_ m0 ⟨0, σ, H1, I2, st0, fp0.1, w0⟩
  rintro n sa ⟨i, σa, G, Ia, sta, fra, wa⟩
  have one (ga : ∀ b ∈ [it], FpOk X pins G b) := T.done X rfl rfl rfl hc i pins sa σa G X.xe Ia ga sta
  have two (ga : ∀ b ∈ [it], FpOk X pins G b) := T.item X rfl rfl rfl hc i pins sa σa G X.xe Ia ga sta
  rcases turn i n σa G wa with ⟨ends, after⟩ | ⟨goes, Nx, hN, step⟩
  · refine wpAny_passesOwn hp (thn (one (still fra) ends) fun r sb zb => ?_)
    obtain ⟨rfl, Ib⟩ := zb
    exact wpAny_execs_nil ⟨σa, G, Ib, after⟩
  · refine wpAny_passesOwn hp (thn (two (still fra) goes) fun r sb zb => ?_)
    obtain ⟨u, rfl, zb⟩ := zb
    refine wpAny_passesOwn hp (thn zb fun _ sc zc => ?_)
    obtain ⟨x, G2, Ic, rc, yc, stc, frc⟩ := zc
    have Ip := Ic.pinned (still (frc it (by simp))) (T.obj _ _ stc)
    refine wpAny_passesOwn hp (thn (hg.run _ sc σa G2 x u _ Ip rc (step x G2 yc)) fun _ sd zd => ?_)
    obtain ⟨σd, Gd, Id, qd⟩ := zd
    refine wpAny_passesOwn hp (thn (hb.run _ sd σd Gd _ Id qd) fun fl se qe => ?_)
    obtain ⟨oi, ei, di⟩ := T.obj _ _ stc it (by simp)
    have more : ∀ {σe : L2.St} {Ge : Hp}, Inv X (pins ++ pinsAt [it] sc.heap) σe Ge se → Nx σe Ge → ∃ m, m < n ∧ ∃ i σa G, Inv X pins σa G se ∧ se.heap.IsListIter it a i ∧ G it = none ∧ W i m σa G := fun {σe Ge} Ie ne => by
      have pin := Ie.pin (it, oi) (List.mem_append_right _ (List.mem_append_right _ (mem_pinsAt (by simp) ei)))
      obtain ⟨m1, hm, w1⟩ := hN σe Ge ne
      exact ⟨m1, hm, i + 1, σe, Ge, Ie.unpinned, T.keep _ _ _ stc (fun b hb o e => by
        obtain rfl := List.mem_singleton.mp hb
        rw [ei] at e; cases e
        exact pin.1), pin.2.1, w1⟩
    match fl, qe with
    | .next, ⟨σe, Ge, Ie, ne⟩ => exact more Ie ne
    | .cont, ⟨σe, Ge, Ie, ne⟩ => exact more Ie ne
    | .brk, ⟨σe, Ge, Ie, q1⟩ => exact ⟨σe, Ge, Ie.unpinned, q1⟩
    | .ret v, ⟨xe, σe, Ge, Ie, re, q1⟩ => exact ⟨xe, σe, Ge, Ie.unpinned, re, q1⟩
end

/-! ### a method with super(), from its body -/
section
variable {P : Program} {w : World} {K : PySem.W.Frag} {mg : Str → Option Value} {base : Heap} {c d m qual : Str} {st : Stmt} {N ps : List Str} {k : Nat} {sp : Sp}
/-- the def with the cell and the code object at hand -/
abbrev nfS (m qual : Str) (st : Stmt) (cc cda : Addr) : NF := ⟨m, qual, defArgs st, defBody st, defScope st, [("__class__", cc)], cda⟩
theorem SF.raw (Z : SF K c d m qual st) (S : NScope N ps ["__class__"] (defScope st)) (len : ∀ vs H Q E, sp vs H Q E → vs.length = ps.length)
    (hpar : ∃ ar, ((defArgs st).posonlyargs ++ (defArgs st).args).head? = some ar ∧ ar.arg = "self") (hn0 : N[0]? = some ("self" : Str)) (hks : (defScope st).names.lookup ("super" : Str) = some .globalImplicit)
    (hk0 : (defScope st).names.lookup ("self" : Str) = some .local) (hkc : (defScope st).names.lookup ("__class__" : Str) = some .free) (hsup : mg "super" = none)
    (hb : ∀ (kV doc pm : Value) (an : Option Addr) (cc : Addr) (cdv ct : Value) (us : List Value), us.length = ps.length → bindArgs (ksFn m qual (defArgs st) (defBody st) (defScope st) .none kV doc pm an cdv ct cc) ⟨us, []⟩ = pure (ps.zip us))
    (hbody : ∀ (cc cda : Addr) (A : Around) (outer : List Env) (s : Shared) (H : Hp) (vs : List V) (Q : VK) (E : XK) (X : Cx), X = (ncx CX0 P w K mg base N (nfS m qual st cc cda) (ma K (ga K c) m) A outer s H E).nox → Room k X.A → SupX X (ma K (ga K c) m) (ga K c) cc cda → sp vs H Q E →
      ∃ t, PSsa X (defBody st) (defBody st) t ∧ t { nx := fun _ H' => Q .non H', rt := Q } (startF N vs [none]) H) : FnR P w K mg base CX0 (k + 1) (ma K (ga K c) m) sp := by
  intro A outer s H us vs Q E hr e0 r hsp
  obtain ⟨oc, od, kV, doc, pm, an, cda, cc, ct, osl, cl, ccl, cld, cdd, csl, ccs, rv, tf, hfl, hcode, hcell, hrec, hvs⟩ := Z.F
  have hl := len _ _ _ _ hsp
  have KX : K.In s.heap := e0.mod.kin.keeps fun b o e => (e0.bs b o e).1
  have lim : s.heap.NoLimit := e0.mod.nolimit.keeps fun b o e => (e0.bs b o e).1
  refine codeAny_call_function hr.depth (KX _ _ hfl) rfl S.co S.gen rfl (codeRec_of KX hcode) ?_
  rw [hb kV doc pm an cc (.ref cda) ct us (by rw [← r.length]; exact hl)]
  refine wpAny_pure (wpAny_newFunctionEnv S.nocell (fun ⟨n, _⟩ hy => S.par n (List.of_mem_zip hy).1) (fun h₁ hns hsb => ⟨lim.fresh _ hsb, ?_⟩) S.kind)
  show codeAny _ _ (.func (defBody st) (envF (nfS m qual st cc cda) (ma K (ga K c) m) s.heap.objs.size)) _ _
  refine ks_codeAny_funcAt ?_
  have kp : ∀ b o, s.heap.get? b = some o → h₁.get? b = some o := fun b o e => hsb.extBut b o (Nat.ne_of_lt (Heap.lt_size e)) (Heap.get?_push_of_some _ e)
  have hcc : H cc = none := by
    obtain ⟨ob, hob⟩ : ∃ ob, base.get? cc = some ob := ⟨_, e0.mod.kin _ _ hcell⟩
    exact (e0.bs _ _ hob).2
  have C : CellsAt [("__class__", cc)] ["__class__"] [none] s.heap H := by
    have one : ∀ (y : Str) b, ([("__class__", cc)] : List (Str × Addr)).lookup y = some b → y = "__class__" ∧ b = cc := fun y b e => by
      have := PySem.mem_of_lookup e
      simpa using this
    refine ⟨rfl, fun y b e => ?_, fun y z b e1 e2 => (one y b e1).1.trans (one z b e2).1.symm, fun i y e => ?_⟩
    · obtain ⟨rfl, rfl⟩ := one y b e
      exact ⟨hcc, _, _, KX _ _ hcell, rfl⟩
    · have : i = 0 := by
        cases i with
        | zero => rfl
        | succ i => simp at e
      subst this
      obtain rfl : ("__class__" : Str) = y := by simpa using e
      exact ⟨cc, by rfl, fun v hv => by simp at hv⟩
  have I : Inv (ncx CX0 P w K mg base N (nfS m qual st cc cda) (ma K (ga K c) m) A outer s H E) [] (startF N vs [none]) H { s with heap := h₁, toks := s.toks + (ps.zip us).length } := inv_startN S hr.hd e0 hl r C hns kp
  obtain ⟨ar, har1, har2⟩ := hpar
  obtain ⟨t, ht, hq⟩ := hbody cc cda A outer s H vs Q E _ rfl (hr.deeper _) ⟨rfl, rfl, hkc, hks, hk0, hn0, by rfl, ⟨_, _, _, hcell⟩, ⟨_, _, _, _, ar, hfl, har1, har2⟩, ⟨_, _, _, _, tf, hrec, hvs⟩, hsup⟩ hsp
  refine ks_wpAt_mono (ht.run [] _ (startF N vs [none]) H _ (I.wish _) hq) (fun fl s' hs => ?_) fun e s' hs => hs.elim
  have fin : ∀ {σ' : L2.St} {H' : Hp} {v : V} {u : Value}, Inv (ncx CX0 P w K mg base N (nfS m qual st cc cda) (ma K (ga K c) m) A outer s H E).nox [] σ' H' s' → L2.RelV v u → Q v H' → CE outer P w H s Q u s' :=
    fun {σ' H' v u} J rv q => ⟨v, H', J.os, J.bare, J.base, J.hok, rv, q⟩
  match fl, hs with
  | .ret u, ⟨v, σ', H', J, rv, q⟩ => exact fin J rv q
  | .next, ⟨σ', H', J, q⟩ => exact fin (v := V.non) (u := Value.none) J rfl q
  | .brk, ⟨_, _, _, q⟩ => exact q.elim
  | .cont, ⟨_, _, _, q⟩ => exact q.elim
end
end K75R
set_option Elab.async false
set_option linter.all false
set_option maxRecDepth 100000
set_option maxHeartbeats 4000000
namespace K75R
open PySem PySem.Spec PyProof.Rows L2
section
variable {P : Program} {w : World} {K : PySem.W.Frag} {mg : Str → Option Value} {base : Heap}
open PySem.W NdefX
/-! the two rules over another one -/
def sp_signsC (C : Addr) (g : List (Int × Int) → Prop) (f : List (Int × Int) → List (Int × Int × Int)) : Sp := fun vs H Q _ => ∃ (x dx a : Addr) (ws : List (Int × Int)), vs = [.ref x, .ref a] ∧ H x = some (.ins C dx []) ∧ WordAt H a ws ∧ OkW ws ∧ g ws ∧
  ∀ H' l, Same H H' → H l = none → TupsAt H' l ((f ws).map sgnV) → Q (.ref l) H'
/-- no two neighbouring signs subtracted -/
def NoPair (ws : List (Int × Int)) : Prop := ∀ (i : Nat) a b, (nextF ws)[i]? = some a → (nextF ws)[i + 1]? = some b → ¬ (0 < a.2.2 ∧ b.2.1 = 0)

theorem sc_single_signs : NScope ["self", "word", "__class__", "found", "value", "added", "minus", "following", "plus", "other_minus"] ["self", "word"] ["__class__"] (defScope (atC 21 1)) := nscope_by (by decide +kernel)
theorem R_single_signs (hP : PFile P) (T : Txt K mg) : FnR P w K mg base CX0 7 (ma K (ga K "Single") "signs") (sp_signsC (ga K "Single") NoPair nextF) := by
  have Z := T.single_signs
  have sc := sc_single_signs
  refine SF.raw Z sc (fun vs H Q E h => ?_) ⟨_, rfl, rfl⟩ rfl (by rfl) (by rfl) (by rfl) T.b_super (fun _ _ _ _ _ _ _ us hl => match us, hl with | [_, _], _ => rfl) (fun cc cda A outer s H vs Q E X hX hr Y h => ?_)
  · obtain ⟨_, _, _, _, rfl, _⟩ := h
    rfl
  obtain ⟨x, dx, a, ws, rfl, hx, hw, ok, np, q⟩ := h
  subst hX
  refine ⟨_, (pssa_cons
    (psa_set (i := 3) sc.nd rfl (by first | exact Or.inl rfl | exact Or.inr rfl) (pea_super (m := "signs") Y hP Z.cls Z.self Z.third Z.sup Z.ft Z.fi (by rfl) (R_next_signs T) hr (E := E0) pass0 (pa_cons (pv 1) pa_nil))) (pssa_of
    (pss_cons
    (ps_for PassesOwn.never rfl (pi_zip (by rfl) T.b_zip (pa_cons (pv 3) (pa_cons (pe_slice sl_list (pv 3) (po_some pe_int) po_none) pa_nil))) (pg_tup (by rfl) (pgs_cons (pg_tup (by rfl) (pgs_cons (pg_name (i := 4) sc.nd rfl (by first | exact Or.inl rfl | exact Or.inr rfl)) (pgs_cons (pg_name (i := 5) sc.nd rfl (by first | exact Or.inl rfl | exact Or.inr rfl)) (pgs_cons (pg_name (i := 6) sc.nd rfl (by first | exact Or.inl rfl | exact Or.inr rfl)) pgs_nil)))) (pgs_cons (pg_tup (by rfl) (pgs_cons (pg_name (i := 7) sc.nd rfl (by first | exact Or.inl rfl | exact Or.inr rfl)) (pgs_cons (pg_name (i := 8) sc.nd rfl (by first | exact Or.inl rfl | exact Or.inr rfl)) (pgs_cons (pg_name (i := 9) sc.nd rfl (by first | exact Or.inl rfl | exact Or.inr rfl)) pgs_nil)))) pgs_nil)))
      (pss_one
      (ps_if (PW.pt (pw_and (pt_cmpR op_gt (pv 6) pe_int (nomark _)) (pw_and1 (pt_cmpR op_eq (pv 8) pe_int (nomark _)))))
        (pss_one
        ps_never)
        pss_nil)))
    (pss_one
    (ps_ret (pv 3)))))), ?_⟩
  refine ⟨x, dx, _, rfl, hx, _, rfl, x, a, ws, rfl, hw, ok, True.intro, fun H1 l s1 hnl ht => ?_⟩
  obtain ⟨ps, hl0, hlen, hp⟩ := ht
  have hlen' : ps.length = ws.length := by rw [hlen]; simp [nextF]
  have h200 := ok.len
  refine ⟨_, rfl, _, rfl, _, rfl, l, _, rfl, sqL hl0, fun p hp' => ?_⟩
  rw [cutV_tail, ← List.map_drop]
  have s2 : Same H1 (upd H1 p (.lst ((ps.drop 1).map V.ref))) := same_new hp'
  refine ⟨l, p, _, _, rfl, sqL (s2 _ _ hl0), sqL upd_same, for_it (walk_zip (n := ps.length - 1) (by simp)) (fun i σ H2 => Same (upd H1 p (.lst ((ps.drop 1).map V.ref))) H2 ∧ ∃ o4 o5 o6 o7 o8 o9, σ = [some (V.ref x), some (V.ref a), none, some (V.ref l), o4, o5, o6, o7, o8, o9]) ⟨Same.refl _, _, _, _, _, _, _, rfl⟩
    (fun i σ H2 _ h => ⟨h.1.seq (sqL (s2 _ _ hl0)), h.1.seq (sqL upd_same)⟩) ?_ ?_⟩
  · rintro i y σ H2 H' hi ⟨s3, o4, o5, o6, o7, o8, o9, rfl⟩ yy
    obtain ⟨T', x', y', rfl, hT, rfl, hx', hy'⟩ := yy
    obtain ⟨p1, r1, rfl, hr1, hp1⟩ := TupsAt.item hlen hp hx'
    have hy2 : (ps.map V.ref)[i + 1]? = some y' := by
      have : ((ps.drop 1).map V.ref)[i]? = some y' := hy'
      rw [List.map_drop, List.getElem?_drop, Nat.add_comm] at this
      exact this
    obtain ⟨p2, r2, rfl, hr2, hp2⟩ := TupsAt.item hlen hp hy2
    have s4 := (s2.trans s3).trans (same_new (o := .tup [V.ref p1, V.ref p2]) hT)
    refine ⟨T', _, rfl, sqT upd_same, rfl, _, _, rfl, ⟨p1, _, rfl, sqT (s4 _ _ hp1), rfl, _, _, rfl, _, _, rfl, _, _, rfl, rfl, _, _, rfl, p2, _, rfl, sqT (s4 _ _ hp2), rfl, _, _, rfl, _, _, rfl, _, _, rfl, rfl, rfl, ?_⟩⟩
    have npi := np i r1 r2 hr1 hr2
    refine ⟨_, rfl, _, _, rfl, rfl, _, rfl, ite2 (fun c1 => ?_) (fun c1 => ?_)⟩
    · refine ⟨_, rfl, rfl, _, rfl, ite2 (fun c2 => ?_) (fun c2 => ?_)⟩
      · exact absurd ⟨by simpa using c1, by simpa using c2⟩ npi
      · exact ⟨s3.trans (same_new hT), _, _, _, _, _, _, rfl⟩
    · exact iteF ⟨s3.trans (same_new hT), _, _, _, _, _, _, rfl⟩
  · rintro σ H2 ⟨s3, o4, o5, o6, o7, o8, o9, rfl⟩
    exact ⟨_, rfl, q _ _ (s1.trans (s2.trans s3)) hnl ⟨ps, (s2.trans s3) _ _ hl0, hlen, fun i p t e1 e2 => (s2.trans s3) _ _ (hp i p t e1 e2)⟩⟩

/-! later: over the block's signs -/
def maxV (rs : List (Int × Int × Int)) (i : Nat) : Int := ((rs.take i).map (·.1)).foldl max 0
def laterS (rs : List (Int × Int × Int)) : List (Int × Int × Int) := (List.range rs.length).map fun i => let r := rs.getD i (0, 0, 0); if r.1 < maxV rs i then (r.1, 0, r.2.1 + r.2.2) else (r.1, r.2.1 + r.2.2, 0)
def laterF (ws : List (Int × Int)) : List (Int × Int × Int) := (laterS (blockF ws).reverse).reverse
theorem maxV_succ {rs : List (Int × Int × Int)} {i : Nat} {r : Int × Int × Int} (h : rs[i]? = some r) : maxV rs (i + 1) = max (maxV rs i) r.1 := by
  unfold maxV
  rw [List.take_add_one, h]
  simp
theorem laterS_len (rs : List (Int × Int × Int)) : (laterS rs).length = rs.length := by simp [laterS]
theorem sc_later_signs : NScope ["self", "word", "__class__", "found", "greatest", "value", "added", "subtracted", "count"] ["self", "word"] ["__class__"] (defScope (atC 23 1)) := nscope_by (by decide +kernel)
theorem R_later_signs (hP : PFile P) (T : Txt K mg) : FnR P w K mg base CX0 7 (ma K (ga K "Later") "signs") (sp_signsC (ga K "Later") (fun _ => True) laterF) := by
  have Z := T.later_signs
  have sc := sc_later_signs
  refine SF.raw Z sc (fun vs H Q E h => ?_) ⟨_, rfl, rfl⟩ rfl (by rfl) (by rfl) (by rfl) T.b_super (fun _ _ _ _ _ _ _ us hl => match us, hl with | [_, _], _ => rfl) (fun cc cda A outer s H vs Q E X hX hr Y h => ?_)
  · obtain ⟨_, _, _, _, rfl, _⟩ := h
    rfl
  obtain ⟨x, dx, a, ws, rfl, hx, hw, ok, -, q⟩ := h
  subst hX
  refine ⟨_, (pssa_cons (psa_of
    (ps_set (i := 3) sc.nd rfl (by first | exact Or.inl rfl | exact Or.inr rfl) (pe_lst pa_nil)))
    (pssa_cons (psa_of
    (ps_set (i := 4) sc.nd rfl (by first | exact Or.inl rfl | exact Or.inr rfl) pe_int))
    (pssa_cons
    (psa_for PassesOwn.never rfl (pea_revL (pea_super (m := "signs") Y hP Z.cls Z.self Z.third Z.sup Z.ft Z.fi (by rfl) (R_block_signs T) hr (E := E0) pass0 (pa_cons (pv 1) pa_nil))) (pg_tup (by rfl) (pgs_cons (pg_name (i := 5) sc.nd rfl (by first | exact Or.inl rfl | exact Or.inr rfl)) (pgs_cons (pg_name (i := 6) sc.nd rfl (by first | exact Or.inl rfl | exact Or.inr rfl)) (pgs_cons (pg_name (i := 7) sc.nd rfl (by first | exact Or.inl rfl | exact Or.inr rfl)) pgs_nil))))
      (pss_cons
      (ps_set (i := 8) sc.nd rfl (by first | exact Or.inl rfl | exact Or.inr rfl) (pe_op op_add (pv 6) (pv 7)))
      (pss_cons
      (ps_expr (pe_bm PySem.F.plainAttrs_list PySem.F.slot_list_append PySem.F.type_list_append mt_append (pv 3) (pa_cons (pe_ifExp (pt_cmpR op_gt (pv 4) (pv 5) (nomark _)) (pe_tup (pa_cons (pv 5) (pa_cons pe_int (pa_cons (pv 8) pa_nil)))) (pe_tup (pa_cons (pv 5) (pa_cons (pv 8) (pa_cons pe_int pa_nil))))) pa_nil)))
      (pss_one
      (ps_set (i := 4) sc.nd rfl (by first | exact Or.inl rfl | exact Or.inr rfl) (pe_callB (call_max2 rfl) (by rfl) T.b_max bt_max (pa_cons (pv 4) (pa_cons (pv 5) pa_nil))))))))
    (pssa_of <| pss_one
    (ps_ret (pe_revL (pv 3))))))), ?_⟩
  have h200 := ok.len
  refine ⟨by simp [sizeLine_eq], fun l hnl => ?_⟩
  have s0 : Same H (upd H l (.lst [])) := same_new hnl
  refine ⟨x, dx, _, rfl, s0 _ _ hx, _, rfl, x, a, ws, rfl, hw.same s0, ok, True.intro, fun H1 lb s1 hnb ht => ?_⟩
  obtain ⟨xs0, hx0, -⟩ := ht.lst
  have hl1 : H1 l = some (.lst []) := s1 _ _ upd_same
  refine ⟨lb, _, rfl, sqL hx0, fun b hnb2 => ?_⟩
  have hw2 := ht.rev hx0 hnb2
  rw [← List.map_reverse] at hw2
  have s3 : Same H (upd H1 b (.lst xs0.reverse)) := (s0.trans s1).trans (same_new hnb2)
  have hne : l ≠ b := ne_of_none hl1 hnb2
  have hl0 : (upd H1 b (.lst xs0.reverse)) l = some (.lst []) := by rw [upd_ne hne, hl1]
  have hbl : (blockF ws).reverse.length ≤ 200 := by simp [blockF, scanF_len]; omega
  unfold laterF at q
  generalize (upd H1 b (.lst xs0.reverse)) = Hb at hw2 s3 hl0
  generalize (blockF ws).reverse = rs at hw2 hbl q
  obtain ⟨ps, hb, hl, hp⟩ := hw2
  have hlen : ps.length = rs.length := by rw [hl, List.length_map]
  have ne2 : ∀ (i : Nat) p, ps[i]? = some p → p ≠ l := fun i p e1 e2 => by
    obtain ⟨t, ht, hpt⟩ := TupsAt.get hl hp e1
    subst e2; rw [hl0] at hpt; cases hpt
  refine ⟨b, rfl, ⟨_, sqL hb⟩, for_it (walk_list (xs := ps.map V.ref)) (fun i σ H2 => (∀ c o, Hb c = some o → c ≠ l → H2 c = some o) ∧ Same H H2 ∧ TupsAt H2 l (((laterS rs).take i).map sgnV) ∧ ∃ o5 o6 o7 o8, σ = [some (V.ref x), some (V.ref a), none, some (V.ref l), some (.int (maxV rs i)), o5, o6, o7, o8]) ⟨fun _ _ h _ => h, s3, TupsAt.nil hl0, _, _, _, _, rfl⟩ (fun i σ H2 _ h => sqL (h.1 _ _ hb (fun e => hne e.symm))) ?_ ?_⟩
  · rintro i y σ H2 H' hi ⟨s4, s5, tl, o5, o6, o7, o8, rfl⟩ ⟨rfl, hy⟩
    obtain ⟨p, r, rfl, hr1, hp1⟩ := TupsAt.item hl hp hy
    have hi' : i < rs.length := by simpa [hlen] using hi
    have hr1' := (List.getElem?_eq_some_iff.mp hr1).2
    obtain ⟨xs, hx1, hx2⟩ := tl.lst
    have hpl : p ≠ l := by
      obtain ⟨p', hp', e⟩ := mapI hy
      cases e
      exact ne2 i _ hp'
    have mx : ∀ {g : Int}, g = (if r.1 > maxV rs i then r.1 else maxV rs i) → g = maxV rs (i + 1) := fun {g} e => by
      rw [e, maxV_succ hr1]
      split <;> omega
    refine ⟨p, _, rfl, sqT (s4 _ _ hp1 hpl), rfl, _, _, rfl, _, _, rfl, _, _, rfl, rfl, ?_⟩
    refine ⟨_, rfl, _, rfl, _, _, rfl, rfl, ?_⟩
    refine ⟨_, rfl, .inl ⟨rfl, _, sqL hx1⟩, _, rfl, _, rfl, _, _, rfl, rfl, _, rfl, ite2 (fun c => ?_) (fun c => ?_)⟩
    · have e1 : (laterS rs)[i]? = some (r.1, 0, r.2.1 + r.2.2) := by
        have c := of_decide_eq_true c
        simp [laterS, hi', List.getD_eq_getElem?_getD, hr1, hr1', c]
      refine ⟨_, rfl, _, rfl, by simp [sizeLine_eq], fun t ht => ?_⟩
      refine ⟨l, xs, _, rfl, rfl, (same_new ht) _ _ hx1, by rw [hx2, List.length_map, List.length_take]; exact sz_lt (by omega), _, rfl, _, rfl, _, _, rfl, ?_⟩
      refine ⟨fun c o hc hcl => ?_, same_put (s5.trans (same_new ht)) hnl, ?_, some (.int r.1), some (.int r.2.1), some (.int r.2.2), some (.int (r.2.1 + r.2.2)), ?_⟩
      · rw [upd_ne hcl]
        exact (same_new ht) _ _ (s4 _ _ hc hcl)
      · have := tl.push hx1 ht (t := sgnV (r.1, 0, r.2.1 + r.2.2))
        rw [List.take_add_one, e1, List.map_append]
        exact this
      · rw [← mx rfl] <;> rfl
    · have e1 : (laterS rs)[i]? = some (r.1, r.2.1 + r.2.2, 0) := by
        have c : ¬ r.1 < maxV rs i := by simpa using c
        simp [laterS, hi', List.getD_eq_getElem?_getD, hr1, hr1', c]
      refine ⟨_, rfl, _, rfl, by simp [sizeLine_eq], fun t ht => ?_⟩
      refine ⟨l, xs, _, rfl, rfl, (same_new ht) _ _ hx1, by rw [hx2, List.length_map, List.length_take]; exact sz_lt (by omega), _, rfl, _, rfl, _, _, rfl, ?_⟩
      refine ⟨fun c o hc hcl => ?_, same_put (s5.trans (same_new ht)) hnl, ?_, some (.int r.1), some (.int r.2.1), some (.int r.2.2), some (.int (r.2.1 + r.2.2)), ?_⟩
      · rw [upd_ne hcl]
        exact (same_new ht) _ _ (s4 _ _ hc hcl)
      · have := tl.push hx1 ht (t := sgnV (r.1, r.2.1 + r.2.2, 0))
        rw [List.take_add_one, e1, List.map_append]
        exact this
      · rw [← mx rfl] <;> rfl
  · rintro σ H2 ⟨s4, s5, tl, o5, o6, o7, o8, rfl⟩
    obtain ⟨xs, hx1, hx2⟩ := tl.lst
    rw [List.length_map, hlen, ← laterS_len, List.take_length] at tl
    refine ⟨_, rfl, l, _, rfl, sqL hx1, fun l2 hl2 => q _ _ (s5.trans (same_new hl2)) (s5.free hl2) ?_⟩
    have := tl.rev hx1 hl2
    rw [← List.map_reverse] at this
    exact this
end
end K75R
set_option Elab.async false
set_option linter.all false
set_option maxRecDepth 100000
set_option maxHeartbeats 4000000
set_option profiler true
set_option profiler.threshold 1500
namespace K75R
open PySem PySem.Spec PyProof.Rows L2
section
variable {P : Program} {w : World} {K : PySem.W.Frag} {mg : Str → Option Value} {base : Heap}
/-! the words of a system -/
def okG (r : Rl) (ws : List (Int × Int)) : Prop := match r with | .single => NoPair ws | _ => True
def signsF (r : Rl) (ws : List (Int × Int)) : List (Int × Int × Int) := match r with | .plain => plainF ws | .single => nextF ws | .next => nextF ws | .block => blockF ws | .later => laterF ws
def clsN : Rl → Str | .plain => "Plain" | .single => "Single" | .next => "Next" | .block => "Block" | .later => "Later"
theorem clsA_eq (r : Rl) : clsA K r = ga K (clsN r) := by cases r <;> rfl
def sp_signsR (K : PySem.W.Frag) (r : Rl) : Sp := sp_signsC (clsA K r) (okG r) (signsF r)
theorem R_signs (hP : PFile P) (T : Txt K mg) (r : Rl) : FnR P w K mg base CX0 7 (ma K (clsA K r) "signs") (sp_signsR K r) := by
  cases r with
  | plain => exact ((R_plain_signs T).mono (by decide)).imp fun vs H Q E ⟨x, dx, a, ws, e, hx, hw, ok, g, q⟩ => ⟨x, a, ws, e, hw, ok, g, q⟩
  | single => exact R_single_signs hP T
  | next => exact ((R_next_signs T).mono (by decide)).imp fun vs H Q E ⟨x, dx, a, ws, e, hx, hw, ok, g, q⟩ => ⟨x, a, ws, e, hw, ok, g, q⟩
  | block => exact ((R_block_signs T).mono (by decide)).imp fun vs H Q E ⟨x, dx, a, ws, e, hx, hw, ok, g, q⟩ => ⟨x, a, ws, e, hw, ok, g, q⟩
  | later => exact R_later_signs hP T
theorem cls_rl (T : Txt K mg) (r : Rl) : Cls K (clsA K r) := by
  cases r
  · exact T.Plain.c
  · exact T.Single.c
  · exact T.Next.c
  · exact T.Block.c
  · exact T.Later.c
theorem meth_rl (T : Txt K mg) (r : Rl) : Meth K (clsA K r) "signs" (ma K (clsA K r) "signs") := by
  cases r
  · exact T.plain_signs.at_
  · exact T.single_signs.at_
  · exact T.next_signs.at_
  · exact T.block_signs.at_
  · exact T.later_signs.at_
/-- a word of a system: its signs are values, and single allows it -/
structure Good (vs : List Int) (r : Rl) (ws : List (Int × Int)) : Prop where
  w : OkW ws
  g : okG r ws
  s : ∀ s ∈ signsF r ws, s.1 ∈ vs
theorem inV_int {x : Int} : ∀ {xs : List Int}, inV (.int x) (xs.map V.int) = decide (x ∈ xs)
  | [] => by rfl
  | y :: xs => by
    have := inV_int (x := x) (xs := xs)
    unfold inV at this ⊢
    rw [List.map_cons, List.any_cons, this]
    by_cases h : y = x
    · subst h; simp [eqV]
    · have h2 : ¬ x = y := fun e => h e.symm
      simp [eqV, h, h2]
theorem flat_ints {xs : List Int} : (xs.map V.int).all flatV = true := by
  rw [List.all_eq_true]
  intro v hv
  obtain ⟨x, _, rfl⟩ := List.mem_map.mp hv
  rfl
def sp_signs_of (K : PySem.W.Frag) : Sp := fun vs H Q _ => ∃ (sa a : Addr) (xs : List Int) (r : Rl) (ws : List (Int × Int)), vs = [.ref sa, .ref a] ∧ SysAt K H sa xs r ∧ WordAt H a ws ∧ Good xs r ws ∧
  ∀ H' l, Same H H' → H l = none → TupsAt H' l ((signsF r ws).map sgnV) → Q (.ref l) H'
theorem signs_len (r : Rl) (ws : List (Int × Int)) : (signsF r ws).length = ws.length := by
  cases r <;> simp [signsF, plainF, nextF, blockF, laterF, scanF_len, laterS_len]

theorem sc_signs_of : FnScope ["system", "word", "found", "values", "value", "added", "subtracted"] ["system", "word"] (defScope (top 55)) := ⟨rfl, rfl, rfl, by decide +kernel, rfl, by decide +kernel, by decide +kernel⟩
theorem R_signs_of (hP : PFile P) (T : Txt K mg) : FnR P w K mg base CX0 8 (ga K "signs_of") (sp_signs_of K) := by
  obtain ⟨fd, F⟩ := T.signs_of.F
  have sc := sc_signs_of
  refine Fun.raw F sc (fun vs H Q E h => ?_) (fun _ _ _ _ _ _ us hl => match us, hl with | [_, _], _ => rfl) (fun cdv A outer s H vs Q E hr h => ?_)
  · obtain ⟨_, _, _, _, _, rfl, _⟩ := h
    rfl
  obtain ⟨sa, a, xs, r, ws, rfl, hs, hw, G, q⟩ := h
  refine ⟨_, (pss_cons
    (ps_set (i := 2) sc.nd rfl (by first | exact Or.inl rfl | exact Or.inr rfl) (pe_methI (ClX.pe_cmeth (pe_gref T.Rule) T.rule_read T.rule_named (R_named T) (hr.mono (by decide)) (E := E0) pass0 (pa_cons (pe_rule T hr (pv 0)) pa_nil)) (cls_rl T) (meth_rl T) (R_signs hP T) hr (E := E0) pass0 (pa_cons (pv 1) pa_nil)))
    (pss_cons
    (ps_set (i := 3) sc.nd rfl (by first | exact Or.inl rfl | exact Or.inr rfl) (pe_row T hr (pv 0)))
    (pss_cons
    (ps_if (pt_not (pt_val (pe_callB (cr_all rfl) (by rfl) T.b_all bt_all (pa_cons (pe_lc (own := [("value", 4), ("added", 5), ("subtracted", 6)]) (by rfl) sc.nd (pi_list (pv 2)) (blkOk_by (N := ["system", "word", "found", "values", "value", "added", "subtracted"]) (sc := defScope (top 55)) (own := [("value", 4), ("added", 5), ("subtracted", 6)]) (by decide +kernel)) (fun _ _ _ _ _ => (show PG _ _ (gTup K 3 _) from (pg_tup (by rfl) (pgs_cons (pg_name (i := 4) sc.nd rfl (by first | exact Or.inl rfl | exact Or.inr rfl)) (pgs_cons (pg_name (i := 5) sc.nd rfl (by first | exact Or.inl rfl | exact Or.inr rfl)) (pgs_cons (pg_name (i := 6) sc.nd rfl (by first | exact Or.inl rfl | exact Or.inr rfl)) pgs_nil)))))) (fun _ _ _ _ _ => pts_nil) (fun _ _ _ _ _ => (show PE _ _ (tOp (rIn K false) _ _) from pe_cmpR op_in_seq (pv 4) (pv 3) (by rfl)))) pa_nil))))
      (pss_one
      ps_never)
      pss_nil)
    (pss_one
    (ps_ret (pv 2)))))), ?_⟩
  refine ⟨rfl, _, rfl, ?_⟩
  refine hs.tRule ?_
  refine ⟨r, rfl, fun H1 x dx s1 hx => ?_⟩
  refine ⟨r, x, dx, _, rfl, hx, rfl, _, rfl, x, dx, a, ws, rfl, hx, hw.same s1, G.w, G.g, fun H2 l s2 hnl ht => ?_⟩
  have s12 := s1.trans s2
  have hnl0 : H l = none := s1.free hnl
  have h200 := G.w.len
  refine ⟨_, rfl, (hs.same s12).tRow fun p hp => ?_⟩
  have s3 := s12.trans (same_new (o := .lst (xs.map V.int)) hp)
  have ht3 := ht.same (same_new (o := .lst (xs.map V.int)) hp)
  obtain ⟨ps, hl0, hlen, hps⟩ := ht3
  have hlen' : ps.length = ws.length := by rw [hlen]; simp [signs_len]
  refine ⟨_, rfl, l, rfl, ⟨_, sqL hl0⟩, fun D hD => lc_map walk_list (List.replicate ws.length (V.bl true)) (by simp [hlen']) (by simp; omega) hD (fun H h => h.seq (sqL hl0)) (fun i y H3 H' Ry hi h1 yy ky => ?_) (fun H3 s4 h4 => ?_)⟩
  · obtain ⟨rfl, hy⟩ := yy
    obtain ⟨p1, sg, rfl, hsg, hp1⟩ := TupsAt.item hlen hps hy
    have mem := G.s sg (List.mem_of_getElem? hsg)
    have hi' : i < ws.length := by simpa [hlen'] using hi
    refine ⟨p1, _, rfl, sqT (h1 _ _ hp1), rfl, _, _, rfl, _, _, rfl, _, _, rfl, rfl, rfl, _, rfl, _, rfl, p, _, rfl, .inl (sqL (h1 _ _ upd_same)), rfl, flat_ints, ?_⟩
    refine ky _ _ ?_ (Same.refl _)
    simp [inV_int, mem, hi']
  · refine ⟨D, List.replicate ws.length true, rfl, sqL (by rw [h4, List.map_replicate]), _, rfl, ite2 (fun z => ?_) fun _ => ?_⟩
    · exact absurd z (by simp)
    · exact ⟨_, rfl, q _ _ (s3.trans s4) hnl0 ⟨ps, s4 _ _ hl0, hlen, fun i p t e1 e2 => s4 _ _ (hps i p t e1 e2)⟩⟩

def valF (ss : List (Int × Int × Int)) : Int := (ss.map fun s => (s.1 * (s.2.1 - s.2.2))).sum
def sp_value_of (K : PySem.W.Frag) : Sp := fun vs H Q _ => ∃ (sa a : Addr) (xs : List Int) (r : Rl) (ws : List (Int × Int)), vs = [.ref sa, .ref a] ∧ SysAt K H sa xs r ∧ WordAt H a ws ∧ Good xs r ws ∧
  ∀ H', Same H H' → Q (.int (valF (signsF r ws))) H'
theorem sc_value_of : FnScope ["system", "word", "value", "added", "subtracted"] ["system", "word"] (defScope (top 56)) := ⟨rfl, rfl, rfl, by decide +kernel, rfl, by decide +kernel, by decide +kernel⟩
theorem R_value_of (hP : PFile P) (T : Txt K mg) : FnR P w K mg base CX0 9 (ga K "value_of") (sp_value_of K) := by
  obtain ⟨fd, F⟩ := T.value_of.F
  have sc := sc_value_of
  refine Fun.raw F sc (fun vs H Q E h => ?_) (fun _ _ _ _ _ _ us hl => match us, hl with | [_, _], _ => rfl) (fun cdv A outer s H vs Q E hr h => ?_)
  · obtain ⟨_, _, _, _, _, rfl, _⟩ := h
    rfl
  obtain ⟨sa, a, xs, r, ws, rfl, hs, hw, G, q⟩ := h
  refine ⟨_, (pss_one
    (ps_ret (pe_callB (cr_sum rfl) (by rfl) T.b_sum bt_sum (pa_cons (pe_lc (own := [("value", 2), ("added", 3), ("subtracted", 4)]) (by rfl) sc.nd (pi_list (cR T.signs_of (R_signs_of hP T) hr pass0 (pa_cons (pv 0) (pa_cons (pv 1) pa_nil)))) (blkOk_by (N := ["system", "word", "value", "added", "subtracted"]) (sc := defScope (top 56)) (own := [("value", 2), ("added", 3), ("subtracted", 4)]) (by decide +kernel)) (fun _ _ _ _ _ => (show PG _ _ (gTup K 3 _) from (pg_tup (by rfl) (pgs_cons (pg_name (i := 2) sc.nd rfl (by first | exact Or.inl rfl | exact Or.inr rfl)) (pgs_cons (pg_name (i := 3) sc.nd rfl (by first | exact Or.inl rfl | exact Or.inr rfl)) (pgs_cons (pg_name (i := 4) sc.nd rfl (by first | exact Or.inl rfl | exact Or.inr rfl)) pgs_nil)))))) (fun _ _ _ _ _ => pts_nil) (fun _ _ _ _ _ => (pe_op op_mul (pv 2) (pe_op op_sub (pv 3) (pv 4))))) pa_nil)))), ?_⟩
  refine ⟨_, rfl, _, rfl, sa, a, xs, r, ws, rfl, hs, hw, G, fun H1 l s1 hnl ht => ?_⟩
  obtain ⟨ps, hl0, hlen, hps⟩ := ht
  have hlen' : ps.length = ws.length := by rw [hlen]; simp [signs_len]
  have h200 := G.w.len
  refine ⟨l, rfl, ⟨_, sqL hl0⟩, fun D hD => lc_map walk_list ((signsF r ws).map fun s => V.int (s.1 * (s.2.1 - s.2.2))) (by simp [hlen', signs_len]) (by simp; omega) hD (fun H h => h.seq (sqL hl0)) (fun i y H3 H' Ry hi h1 yy ky => ?_) (fun H3 s4 h4 => ?_)⟩
  · obtain ⟨rfl, hy⟩ := yy
    obtain ⟨p1, sg, rfl, hsg, hp1⟩ := TupsAt.item hlen hps hy
    have mem := G.s sg (List.mem_of_getElem? hsg)
    refine ⟨p1, _, rfl, sqT (h1 _ _ hp1), rfl, _, _, rfl, _, _, rfl, _, _, rfl, rfl, rfl, _, rfl, _, rfl, _, rfl, _, _, rfl, rfl, _, _, rfl, rfl, .inl ⟨by have := hs.ok.bd _ mem; omega, by have := hs.ok.bd _ mem; omega⟩, ky _ _ ?_ (Same.refl _)⟩
    simp [hsg]
  · exact ⟨D, (signsF r ws).map (fun s : Int × Int × Int => (s.1 * (s.2.1 - s.2.2))), rfl, sqL (by rw [h4, List.map_map] <;> rfl), q _ (s1.trans s4)⟩

def szF (ss : List (Int × Int × Int)) : Int := (ss.map fun s => (s.2.1 + s.2.2)).sum
def sp_size_of (K : PySem.W.Frag) : Sp := fun vs H Q _ => ∃ (sa a : Addr) (xs : List Int) (r : Rl) (ws : List (Int × Int)), vs = [.ref sa, .ref a] ∧ SysAt K H sa xs r ∧ WordAt H a ws ∧ Good xs r ws ∧
  ∀ H', Same H H' → Q (.int (szF (signsF r ws))) H'
theorem sc_size_of : FnScope ["system", "word", "value", "added", "subtracted"] ["system", "word"] (defScope (top 57)) := ⟨rfl, rfl, rfl, by decide +kernel, rfl, by decide +kernel, by decide +kernel⟩
theorem R_size_of (hP : PFile P) (T : Txt K mg) : FnR P w K mg base CX0 9 (ga K "size_of") (sp_size_of K) := by
  obtain ⟨fd, F⟩ := T.size_of.F
  have sc := sc_size_of
  refine Fun.raw F sc (fun vs H Q E h => ?_) (fun _ _ _ _ _ _ us hl => match us, hl with | [_, _], _ => rfl) (fun cdv A outer s H vs Q E hr h => ?_)
  · obtain ⟨_, _, _, _, _, rfl, _⟩ := h
    rfl
  obtain ⟨sa, a, xs, r, ws, rfl, hs, hw, G, q⟩ := h
  refine ⟨_, (pss_one
    (ps_ret (pe_callB (cr_sum rfl) (by rfl) T.b_sum bt_sum (pa_cons (pe_lc (own := [("value", 2), ("added", 3), ("subtracted", 4)]) (by rfl) sc.nd (pi_list (cR T.signs_of (R_signs_of hP T) hr pass0 (pa_cons (pv 0) (pa_cons (pv 1) pa_nil)))) (blkOk_by (N := ["system", "word", "value", "added", "subtracted"]) (sc := defScope (top 57)) (own := [("value", 2), ("added", 3), ("subtracted", 4)]) (by decide +kernel)) (fun _ _ _ _ _ => (show PG _ _ (gTup K 3 _) from (pg_tup (by rfl) (pgs_cons (pg_name (i := 2) sc.nd rfl (by first | exact Or.inl rfl | exact Or.inr rfl)) (pgs_cons (pg_name (i := 3) sc.nd rfl (by first | exact Or.inl rfl | exact Or.inr rfl)) (pgs_cons (pg_name (i := 4) sc.nd rfl (by first | exact Or.inl rfl | exact Or.inr rfl)) pgs_nil)))))) (fun _ _ _ _ _ => pts_nil) (fun _ _ _ _ _ => (pe_op op_add (pv 3) (pv 4)))) pa_nil)))), ?_⟩
  refine ⟨_, rfl, _, rfl, sa, a, xs, r, ws, rfl, hs, hw, G, fun H1 l s1 hnl ht => ?_⟩
  obtain ⟨ps, hl0, hlen, hps⟩ := ht
  have hlen' : ps.length = ws.length := by rw [hlen]; simp [signs_len]
  have h200 := G.w.len
  refine ⟨l, rfl, ⟨_, sqL hl0⟩, fun D hD => lc_map walk_list ((signsF r ws).map fun s => V.int (s.2.1 + s.2.2)) (by simp [hlen', signs_len]) (by simp; omega) hD (fun H h => h.seq (sqL hl0)) (fun i y H3 H' Ry hi h1 yy ky => ?_) (fun H3 s4 h4 => ?_)⟩
  · obtain ⟨rfl, hy⟩ := yy
    obtain ⟨p1, sg, rfl, hsg, hp1⟩ := TupsAt.item hlen hps hy
    have mem := G.s sg (List.mem_of_getElem? hsg)
    refine ⟨p1, _, rfl, sqT (h1 _ _ hp1), rfl, _, _, rfl, _, _, rfl, _, _, rfl, rfl, rfl, _, rfl, _, rfl, _, _, rfl, rfl, ky _ _ ?_ (Same.refl _)⟩
    simp [hsg]
  · exact ⟨D, (signsF r ws).map (fun s : Int × Int × Int => (s.2.1 + s.2.2)), rfl, sqL (by rw [h4, List.map_map] <;> rfl), q _ (s1.trans s4)⟩
end
end K75R
/-! Residues: walks of steps, their least costs, the cut of a walk that visits a residue twice. Plain Lean. -/
namespace K75
abbrev Step := Int × Int
def wsum (w : List Step) : Int := (w.map (·.1)).sum
def wcost (w : List Step) : Int := (w.map (·.2)).sum
@[simp] theorem wsum_nil : wsum [] = 0 := rfl
@[simp] theorem wcost_nil : wcost [] = 0 := rfl
theorem wsum_cons (s : Step) (w : List Step) : wsum (s :: w) = s.1 + wsum w := by simp [wsum]
theorem wcost_cons (s : Step) (w : List Step) : wcost (s :: w) = s.2 + wcost w := by simp [wcost]
theorem wsum_append (a b : List Step) : wsum (a ++ b) = wsum a + wsum b := by simp [wsum]
theorem wcost_append (a b : List Step) : wcost (a ++ b) = wcost a + wcost b := by simp [wcost]
theorem wsum_snoc (a : List Step) (s : Step) : wsum (a ++ [s]) = wsum a + s.1 := by simp [wsum]
theorem wcost_snoc (a : List Step) (s : Step) : wcost (a ++ [s]) = wcost a + s.2 := by simp [wcost]

/-- numbers below n, no two alike, are at most n -/
theorem pigeon : ∀ (n : Nat) (l : List Nat), (∀ x ∈ l, x < n) → l.Nodup → l.length ≤ n
  | 0, [], _, _ => Nat.le_refl _
  | 0, x :: l, h, _ => absurd (h x (by simp)) (Nat.not_lt_zero _)
  | n + 1, l, h, nd => by
    have ih := pigeon n (l.erase n) (fun x hx => by
      have h1 := (List.Nodup.mem_erase_iff nd).mp hx
      have h2 := h x h1.2
      have h3 := h1.1
      omega) (nd.erase n)
    by_cases hm : n ∈ l
    · rw [List.length_erase_of_mem hm] at ih
      omega
    · rw [List.erase_of_not_mem hm] at ih
      omega
/-- .. ints between lo and hi -/
theorem pigeonZ (lo hi : Int) (l : List Int) (h : ∀ x ∈ l, lo ≤ x ∧ x ≤ hi) (nd : l.Nodup) (hl : lo ≤ hi + 1) : (l.length : Int) ≤ hi - lo + 1 := by
  have h1 := pigeon (hi - lo + 1).toNat (l.map fun x => (x - lo).toNat) (fun y hy => by
    obtain ⟨x, hx, e⟩ := List.mem_map.mp hy
    have := h x hx
    omega) (by
    show List.Pairwise _ _
    rw [List.pairwise_map]
    refine List.Pairwise.imp_of_mem ?_ nd
    intro a b ha hb hab
    have h2 := h a ha
    have h3 := h b hb
    omega)
  rw [List.length_map] at h1
  omega

section
variable {S : List Step} {V : Int}
/-- w is a walk of S -/
def In (S w : List Step) : Prop := ∀ s ∈ w, s ∈ S
theorem In.nil : In S [] := fun _ h => by simp at h
theorem In.cons {s : Step} {w : List Step} (h : s ∈ S) (hw : In S w) : In S (s :: w) := fun x hx => by
  rcases List.mem_cons.mp hx with e | e
  · rw [e]; exact h
  · exact hw x e
theorem In.append {a b : List Step} (ha : In S a) (hb : In S b) : In S (a ++ b) := fun x hx => by
  rcases List.mem_append.mp hx with e | e
  · exact ha x e
  · exact hb x e
theorem In.snoc {a : List Step} {s : Step} (ha : In S a) (hs : s ∈ S) : In S (a ++ [s]) := ha.append (In.nil.cons hs)
theorem In.take {w : List Step} (h : In S w) (i : Nat) : In S (w.take i) := fun x hx => h x (List.mem_of_mem_take hx)
theorem In.drop {w : List Step} (h : In S w) (i : Nat) : In S (w.drop i) := fun x hx => h x (List.mem_of_mem_drop hx)
theorem In.mono {T w : List Step} (h : In S w) (hs : ∀ s ∈ S, s ∈ T) : In T w := fun x hx => hs x (h x hx)
theorem cost_len (hp : ∀ s ∈ S, 1 ≤ s.2) : ∀ {w : List Step}, In S w → (w.length : Int) ≤ wcost w
  | [], _ => by simp
  | s :: w, h => by
    have h1 := hp s (h s (by simp))
    have h2 := cost_len hp (w := w) (fun x hx => h x (by simp [hx]))
    rw [wcost_cons, List.length_cons]
    omega
theorem cost_nonneg (hp : ∀ s ∈ S, 1 ≤ s.2) {w : List Step} (h : In S w) : 0 ≤ wcost w := by
  have := cost_len hp h
  omega
/-- a walk of V steps or more visits a residue twice: there is a shorter, cheaper one -/
theorem cut (hV : 0 < V) (hp : ∀ s ∈ S, 1 ≤ s.2) {w : List Step} (h : In S w) (hl : V.toNat ≤ w.length) :
    ∃ w', In S w' ∧ wsum w' % V = wsum w % V ∧ wcost w' < wcost w ∧ w'.length < w.length := by
  by_cases hc : ∃ i j, i < j ∧ j ≤ w.length ∧ wsum (w.take i) % V = wsum (w.take j) % V
  · obtain ⟨i, j, hij, hj, e⟩ := hc
    refine ⟨w.take i ++ w.drop j, (h.take i).append (h.drop j), ?_, ?_, ?_⟩
    · have e1 : wsum w = wsum (w.take j) + wsum (w.drop j) := by rw [← wsum_append, List.take_append_drop]
      rw [wsum_append, e1, Int.add_emod, e, ← Int.add_emod]
    · have e1 : wcost w = wcost (w.take j) + wcost (w.drop j) := by rw [← wcost_append, List.take_append_drop]
      have e2 : w.take j = (w.take j).take i ++ (w.take j).drop i := (List.take_append_drop i _).symm
      have e3 : (w.take j).take i = w.take i := by rw [List.take_take]; congr 1; omega
      have h3 := cost_len hp ((h.take j).drop i)
      rw [List.length_drop, List.length_take] at h3
      rw [wcost_append, e1, e2, wcost_append, e3]
      omega
    · rw [List.length_append, List.length_take, List.length_drop]
      omega
  · exfalso
    have nd : ((List.range (w.length + 1)).map fun i => (wsum (w.take i) % V).toNat).Nodup := by
      show List.Pairwise _ _
      rw [List.pairwise_map, List.pairwise_iff_getElem]
      intro a b ha hb hab e
      rw [List.getElem_range, List.getElem_range] at e
      rw [List.length_range] at ha hb
      apply hc
      refine ⟨a, b, hab, by omega, ?_⟩
      have p1 := Int.emod_nonneg (wsum (w.take a)) (Int.ne_of_gt hV)
      have p2 := Int.emod_nonneg (wsum (w.take b)) (Int.ne_of_gt hV)
      omega
    have := pigeon V.toNat _ (fun x hx => by
      obtain ⟨i, _, e⟩ := List.mem_map.mp hx
      have p1 := Int.emod_nonneg (wsum (w.take i)) (Int.ne_of_gt hV)
      have p2 := Int.emod_lt_of_pos (wsum (w.take i)) hV
      omega) nd
    rw [List.length_map, List.length_range] at this
    omega
/-- every walk has one of fewer than V steps that is not dearer -/
theorem reduce (hV : 0 < V) (hp : ∀ s ∈ S, 1 ≤ s.2) : ∀ (n : Nat) (w : List Step), w.length ≤ n → In S w → ∃ w', In S w' ∧ wsum w' % V = wsum w % V ∧ wcost w' ≤ wcost w ∧ w'.length < V.toNat
  | 0, w, hn, h => ⟨w, h, rfl, Int.le_refl _, by omega⟩
  | n + 1, w, hn, h => by
    by_cases hl : V.toNat ≤ w.length
    · obtain ⟨w1, h1, e1, c1, l1⟩ := cut hV hp h hl
      obtain ⟨w2, h2, e2, c2, l2⟩ := reduce hV hp n w1 (by omega) h1
      exact ⟨w2, h2, e2.trans e1, by omega, l2⟩
    · exact ⟨w, h, rfl, Int.le_refl _, by omega⟩

/-! ### the least costs -/
/-- c tells the least cost of each residue -/
structure IsG (S : List Step) (V : Int) (c : Nat → Option Int) : Prop where
  none_ : ∀ r : Nat, r < V.toNat → c r = none → ∀ w, In S w → wsum w % V ≠ (r : Int)
  some_ : ∀ (r : Nat) (x : Int), r < V.toNat → c r = some x → (∃ w, In S w ∧ wsum w % V = (r : Int) ∧ wcost w = x) ∧ ∀ w, In S w → wsum w % V = (r : Int) → x ≤ wcost w
theorem IsG.uniq {c d : Nat → Option Int} (hc : IsG S V c) (hd : IsG S V d) {r : Nat} (hr : r < V.toNat) : c r = d r := by
  cases e1 : c r with
  | none =>
    cases e2 : d r with
    | none => rfl
    | some y =>
      obtain ⟨⟨w, h1, h2, _⟩, _⟩ := hd.some_ r y hr e2
      exact absurd h2 (hc.none_ r hr e1 w h1)
  | some x =>
    obtain ⟨⟨w, h1, h2, h3⟩, h4⟩ := hc.some_ r x hr e1
    cases e2 : d r with
    | none => exact absurd h2 (hd.none_ r hr e2 w h1)
    | some y =>
      obtain ⟨⟨w', k1, k2, k3⟩, k4⟩ := hd.some_ r y hr e2
      have a1 := h4 w' k1 k2
      have a2 := k4 w h1 h2
      rw [show x = y by omega]
/-- more steps: never dearer -/
theorem IsG.le {T : List Step} {c d : Nat → Option Int} (hc : IsG S V c) (hd : IsG T V d) (hs : ∀ s ∈ S, s ∈ T) {r : Nat} (hr : r < V.toNat) {x : Int} (e : c r = some x) : ∃ y, d r = some y ∧ y ≤ x := by
  obtain ⟨⟨w, h1, h2, h3⟩, h4⟩ := hc.some_ r x hr e
  cases e2 : d r with
  | none => exact absurd h2 (hd.none_ r hr e2 w (h1.mono hs))
  | some y =>
    obtain ⟨_, k4⟩ := hd.some_ r y hr e2
    exact ⟨y, rfl, h3 ▸ k4 w (h1.mono hs) h2⟩
/-- the same steps in another order -/
theorem IsG.same {T : List Step} {c : Nat → Option Int} (hc : IsG S V c) (hs : ∀ s, s ∈ S ↔ s ∈ T) : IsG T V c :=
  ⟨fun r hr e w hw => hc.none_ r hr e w (hw.mono fun s h => (hs s).mpr h), fun r x hr e => by
    obtain ⟨⟨w, h1, h2⟩, h3⟩ := hc.some_ r x hr e
    exact ⟨⟨w, h1.mono fun s h => (hs s).mp h, h2⟩, fun w hw => h3 w (hw.mono fun s h => (hs s).mpr h)⟩⟩
/-- from a table of costs of walks that no step betters -/
structure Sound (S : List Step) (V : Int) (c : Nat → Option Int) : Prop where
  walk : ∀ (r : Nat) (x : Int), r < V.toNat → c r = some x → ∃ w, In S w ∧ wsum w % V = (r : Int) ∧ wcost w = x
  zero : ∃ x, c 0 = some x ∧ x ≤ 0
def spot (V : Int) (r : Nat) (s : Step) : Nat := (((r : Int) + s.1) % V).toNat
def Relaxed (S : List Step) (V : Int) (c : Nat → Option Int) (r : Nat) : Prop := ∀ x, c r = some x → ∀ s ∈ S, ∃ y, c (spot V r s) = some y ∧ y ≤ x + s.2
theorem spot_lt (hV : 0 < V) (r : Nat) (s : Step) : spot V r s < V.toNat := by
  have p1 := Int.emod_nonneg ((r : Int) + s.1) (Int.ne_of_gt hV)
  have p2 := Int.emod_lt_of_pos ((r : Int) + s.1) hV
  unfold spot
  omega
theorem spot_int (hV : 0 < V) (r : Nat) (s : Step) : ((spot V r s : Nat) : Int) = ((r : Int) + s.1) % V := by
  have p1 := Int.emod_nonneg ((r : Int) + s.1) (Int.ne_of_gt hV)
  unfold spot
  omega
/-- the residue of a walk -/
def res (V : Int) (w : List Step) : Nat := (wsum w % V).toNat
theorem res_int (hV : 0 < V) (w : List Step) : ((res V w : Nat) : Int) = wsum w % V := by
  have p1 := Int.emod_nonneg (wsum w) (Int.ne_of_gt hV)
  unfold res
  omega
theorem res_lt (hV : 0 < V) (w : List Step) : res V w < V.toNat := by
  have p1 := Int.emod_nonneg (wsum w) (Int.ne_of_gt hV)
  have p2 := Int.emod_lt_of_pos (wsum w) hV
  unfold res
  omega
theorem res_snoc (hV : 0 < V) (w : List Step) (s : Step) : res V (w ++ [s]) = spot V (res V w) s := by
  have h : ((res V (w ++ [s]) : Nat) : Int) = ((spot V (res V w) s : Nat) : Int) := by
    rw [res_int hV, spot_int hV, res_int hV, wsum_snoc, Int.emod_add_emod]
  exact Int.ofNat.inj h
theorem res_of {w : List Step} {r : Nat} (hV : 0 < V) (e : wsum w % V = (r : Int)) : res V w = r := by
  have := res_int hV w
  omega
theorem snoc_ind {α : Type} {p : List α → Prop} (h0 : p []) (hs : ∀ l a, p l → p (l ++ [a])) : ∀ l, p l := fun l => by
  have h : ∀ n (l : List α), l.length = n → p l := by
    intro n
    induction n with
    | zero =>
      intro l e
      rw [List.eq_nil_of_length_eq_zero e]
      exact h0
    | succ n ih =>
      intro l e
      have hne : l ≠ [] := fun z => by rw [z] at e; simp at e
      rw [← List.dropLast_concat_getLast hne]
      exact hs _ _ (ih _ (by rw [List.length_dropLast]; omega))
  exact h _ l rfl
/-- closed under all steps: at most every walk's cost -/
theorem le_of_closed (hV : 0 < V) {c : Nat → Option Int} (h0 : ∃ x, c 0 = some x ∧ x ≤ 0) (hc : ∀ r, r < V.toNat → Relaxed S V c r) : ∀ w, In S w → ∃ y, c (res V w) = some y ∧ y ≤ wcost w := by
  refine snoc_ind ?_ ?_
  · intro _
    exact h0
  · intro w s ih hw
    obtain ⟨x, e, hx⟩ := ih (fun z hz => hw z (by simp [hz]))
    obtain ⟨y, e2, hy⟩ := hc _ (res_lt hV w) x e s (hw s (by simp))
    refine ⟨y, ?_, ?_⟩
    · rw [res_snoc hV]
      exact e2
    · rw [wcost_snoc]
      omega
theorem isG_of_le (hV : 0 < V) {c : Nat → Option Int} (hs : Sound S V c) (hl : ∀ w, In S w → ∃ y, c (res V w) = some y ∧ y ≤ wcost w) : IsG S V c := by
  refine ⟨fun r hr e w hw h => ?_, fun r x hr e => ⟨hs.walk r x hr e, fun w hw h => ?_⟩⟩
  · obtain ⟨y, e2, _⟩ := hl w hw
    rw [res_of hV h, e] at e2
    cases e2
  · obtain ⟨y, e2, hy⟩ := hl w hw
    rw [res_of hV h, e] at e2
    cases e2
    exact hy
theorem isG_of_closed (hV : 0 < V) {c : Nat → Option Int} (hs : Sound S V c) (hc : ∀ r, r < V.toNat → Relaxed S V c r) : IsG S V c :=
  isG_of_le hV hs (le_of_closed hV hs.zero hc)
/-- at most the cost of every walk of at most k steps -/
def Upto (S : List Step) (V : Int) (k : Nat) (c : Nat → Option Int) : Prop := ∀ w, In S w → w.length ≤ k → ∃ y, c (res V w) = some y ∧ y ≤ wcost w
theorem isG_of_upto (hV : 0 < V) (hp : ∀ s ∈ S, 1 ≤ s.2) {c : Nat → Option Int} (hs : Sound S V c) {k : Nat} (hk : V.toNat ≤ k + 1) (hu : Upto S V k c) : IsG S V c := by
  refine isG_of_le hV hs fun w hw => ?_
  obtain ⟨w', h1, e1, c1, l1⟩ := reduce hV hp _ w (Nat.le_refl _) hw
  obtain ⟨y, e2, hy⟩ := hu w' h1 (by omega)
  have er : res V w' = res V w := by unfold res; rw [e1]
  exact ⟨y, by rw [← er]; exact e2, by omega⟩
/-- a cheapest walk has fewer than V steps -/
theorem short_of_least (hV : 0 < V) (hp : ∀ s ∈ S, 1 ≤ s.2) {w : List Step} (hw : In S w) (hl : ∀ w', In S w' → wsum w' % V = wsum w % V → wcost w ≤ wcost w') : w.length < V.toNat := by
  by_cases h : V.toNat ≤ w.length
  · obtain ⟨w', h1, e1, c1, _⟩ := cut hV hp hw h
    have := hl w' h1 e1
    omega
  · omega
end
end K75
set_option Elab.async false
set_option linter.all false
/-! The ways of cheapest_ways: one relaxation, what stays true. -/
namespace K75
theorem sum_set {α : Type} (f : α → Nat) : ∀ (l : List α) (j : Nat) (a b : α), l[j]? = some a → ((l.set j b).map f).sum + f a = (l.map f).sum + f b
  | [], j, a, b, h => by simp at h
  | x :: l, 0, a, b, h => by
    obtain rfl : x = a := by simpa using h
    simp only [List.set_cons_zero, List.map_cons, List.sum_cons]
    omega
  | x :: l, j + 1, a, b, h => by
    have := sum_set f l j a b (by simpa using h)
    simp only [List.set_cons_succ, List.map_cons, List.sum_cons]
    omega
abbrev Ent := Option (Int × List Int)
def cO : Option Ent → Option Int
  | some (some p) => some p.1
  | _ => none
/-- the costs of a list of ways -/
def cOf (ws : List Ent) (r : Nat) : Option Int := cO ws[r]?
def cnt (ws : List Ent) : Nat := (ws.map fun o => if o.isSome then 1 else 0).sum
def vO (B : Nat) : Ent → Nat
  | none => B + 1
  | some p => p.1.toNat
def mu (B : Nat) (ws : List Ent) : Nat := (ws.map (vO B)).sum
theorem cOf_some {ws : List Ent} {r : Nat} {c : Int} {w : List Int} (h : ws[r]? = some (some (c, w))) : cOf ws r = some c := by unfold cOf; rw [h]; rfl
theorem cOf_none {ws : List Ent} {r : Nat} (h : ws[r]? = some none) : cOf ws r = none := by unfold cOf; rw [h]; rfl
theorem cOf_get {ws : List Ent} {r : Nat} {c : Int} (h : cOf ws r = some c) : ∃ w, ws[r]? = some (some (c, w)) := by
  unfold cOf at h
  cases e : ws[r]? with
  | none => rw [e] at h; cases h
  | some o =>
    cases o with
    | none => rw [e] at h; cases h
    | some p =>
      rw [e] at h
      cases h
      exact ⟨p.2, rfl⟩
theorem cOf_set {ws : List Ent} {j : Nat} {c : Int} {w : List Int} (hj : j < ws.length) (r : Nat) : cOf (ws.set j (some (c, w))) r = if r = j then some c else cOf ws r := by
  unfold cOf
  by_cases e : r = j
  · subst e
    rw [if_pos rfl, List.getElem?_set_self hj]
    rfl
  · rw [if_neg e, List.getElem?_set_ne (fun z => e z.symm)]
section
variable {S : List Step} {V : Int} {B : Nat} {pm : Nat}
/-- ways that are walks; pm: at least every price -/
structure Wy (S : List Step) (V : Int) (pm : Nat) (ws : List Ent) : Prop where
  len : ws.length = V.toNat
  walk : ∀ (r : Nat) c w, ws[r]? = some (some (c, w)) → ∃ st, In S st ∧ wsum st % V = (r : Int) ∧ wcost st = c ∧ st.map Prod.fst = w
  zero : ∃ c w, ws[0]? = some (some (c, w)) ∧ c ≤ 0
  bd : ∀ (r : Nat) c w, ws[r]? = some (some (c, w)) → c ≤ cnt ws * pm
theorem cnt_le (ws : List Ent) : cnt ws ≤ ws.length := by
  unfold cnt
  induction ws with
  | nil => simp
  | cons a l ih =>
    simp only [List.map_cons, List.sum_cons, List.length_cons]
    split <;> omega
theorem cnt_lt {ws : List Ent} {j : Nat} (h : ws[j]? = some none) : cnt ws + 1 ≤ ws.length := by
  unfold cnt
  induction ws generalizing j with
  | nil => simp at h
  | cons a l ih =>
    simp only [List.map_cons, List.sum_cons, List.length_cons]
    cases j with
    | zero =>
      obtain rfl : a = none := by simpa using h
      have := cnt_le l
      unfold cnt at this
      simp
      omega
    | succ j =>
      have := ih (j := j) (by simpa using h)
      split <;> omega
theorem Wy.sound (h : Wy S V pm ws) : Sound S V (cOf ws) := by
  refine ⟨fun r x hr e => ?_, ?_⟩
  · obtain ⟨w, hw⟩ := cOf_get e
    obtain ⟨st, h1, h2, h3, _⟩ := h.walk r x w hw
    exact ⟨st, h1, h2, h3⟩
  · obtain ⟨c, w, h1, h2⟩ := h.zero
    exact ⟨c, cOf_some h1, h2⟩
theorem Wy.cost (h : Wy S V pm ws) (hp : ∀ s ∈ S, 1 ≤ s.2) {r : Nat} {c : Int} {w : List Int} (e : ws[r]? = some (some (c, w))) : 0 ≤ c ∧ c ≤ V.toNat * pm ∧ (w.length : Int) ≤ c := by
  obtain ⟨st, h1, h2, h3, h4⟩ := h.walk r c w e
  have p1 := cost_nonneg hp h1
  have p2 := cost_len hp h1
  have p3 := h.bd r c w e
  have p4 := cnt_le ws
  have p5 : (cnt ws * pm : Nat) ≤ V.toNat * pm := Nat.mul_le_mul_right pm (by rw [← h.len]; exact p4)
  refine ⟨by omega, ?_, ?_⟩
  · have : ((cnt ws * pm : Nat) : Int) ≤ ((V.toNat * pm : Nat) : Int) := Int.ofNat_le.mpr p5
    push_cast at this
    omega
  · rw [← h4, List.length_map]
    omega
/-- the entry at j is none, or dearer than c -/
def Better (ws : List Ent) (j : Nat) (c : Int) : Prop := ∀ y, cOf ws j = some y → c < y
theorem Wy.put (h : Wy S V pm ws) (hV : 0 < V) (hp : ∀ s ∈ S, 1 ≤ s.2) (hm : ∀ s ∈ S, s.2 ≤ pm) {r : Nat} {c : Int} {w : List Int} {s : Step} (hs : s ∈ S) (e : ws[r]? = some (some (c, w))) (hb : Better ws (spot V r s) (c + s.2)) :
    Wy S V pm (ws.set (spot V r s) (some (c + s.2, w ++ [s.1]))) ∧ mu (V.toNat * pm) (ws.set (spot V r s) (some (c + s.2, w ++ [s.1]))) < mu (V.toNat * pm) ws := by
  have hj : spot V r s < ws.length := by rw [h.len]; exact spot_lt hV r s
  obtain ⟨st, w1, w2, w3, w4⟩ := h.walk r c w e
  have c0 : 0 ≤ c + s.2 := by have := (h.cost hp e).1; have := hp s hs; omega
  obtain ⟨o, ho⟩ : ∃ o, ws[spot V r s]? = some o := ⟨_, List.getElem?_eq_getElem hj⟩
  have cn : cnt (ws.set (spot V r s) (some (c + s.2, w ++ [s.1]))) + (if o.isSome then 1 else 0) = cnt ws + 1 := sum_set (fun o => if o.isSome then 1 else 0) ws (spot V r s) o (some (c + s.2, w ++ [s.1])) ho
  have mm : mu (V.toNat * pm) (ws.set (spot V r s) (some (c + s.2, w ++ [s.1]))) + vO (V.toNat * pm) o = mu (V.toNat * pm) ws + (c + s.2).toNat :=
    sum_set (vO (V.toNat * pm)) ws (spot V r s) o (some (c + s.2, w ++ [s.1])) ho
  have bdc := h.bd r c w e
  have pms := hm s hs
  have key : c + s.2 ≤ cnt (ws.set (spot V r s) (some (c + s.2, w ++ [s.1]))) * pm := by
    cases o with
    | none =>
      have : cnt (ws.set (spot V r s) (some (c + s.2, w ++ [s.1]))) = cnt ws + 1 := by simpa using cn
      rw [this]
      push_cast
      rw [Int.add_mul]
      omega
    | some p =>
      have : cnt (ws.set (spot V r s) (some (c + s.2, w ++ [s.1]))) = cnt ws := by simpa using cn
      rw [this]
      have b1 := h.bd _ p.1 p.2 ho
      have b2 := hb p.1 (cOf_some (c := p.1) (w := p.2) ho)
      omega
  have mono : cnt ws ≤ cnt (ws.set (spot V r s) (some (c + s.2, w ++ [s.1]))) := by
    split at cn <;> omega
  refine ⟨⟨by rw [List.length_set]; exact h.len, fun r' c' w' e' => ?_, ?_, fun r' c' w' e' => ?_⟩, ?_⟩
  · by_cases er : r' = spot V r s
    · subst er
      rw [List.getElem?_set_self hj] at e'
      cases e'
      refine ⟨st ++ [s], w1.snoc hs, ?_, by rw [wcost_snoc, w3], by rw [List.map_append, w4] <;> rfl⟩
      rw [wsum_snoc, spot_int hV, ← w2, Int.emod_add_emod]
    · rw [List.getElem?_set_ne (fun z => er z.symm)] at e'
      exact h.walk r' c' w' e'
  · obtain ⟨c0', w0, h1, h2⟩ := h.zero
    by_cases er : 0 = spot V r s
    · refine ⟨c + s.2, w ++ [s.1], ?_, ?_⟩
      · rw [← er] at hj ⊢
        rw [List.getElem?_set_self hj]
      · have := hb c0' (by rw [← er]; exact cOf_some h1)
        omega
    · exact ⟨c0', w0, by rw [List.getElem?_set_ne (fun z => er z.symm)]; exact h1, h2⟩
  · by_cases er : r' = spot V r s
    · subst er
      rw [List.getElem?_set_self hj] at e'
      cases e'
      exact key
    · rw [List.getElem?_set_ne (fun z => er z.symm)] at e'
      have := h.bd r' c' w' e'
      have m2 : ((cnt ws * pm : Nat) : Int) ≤ ((cnt (ws.set (spot V r s) (some (c + s.2, w ++ [s.1]))) * pm : Nat) : Int) := Int.ofNat_le.mpr (Nat.mul_le_mul_right pm mono)
      push_cast at m2
      omega
  · cases o with
    | none =>
      have l1 := cnt_lt ho
      have l2 : c + s.2 ≤ ((V.toNat * pm : Nat) : Int) := by
        have e1 : cnt (ws.set (spot V r s) (some (c + s.2, w ++ [s.1]))) = cnt ws + 1 := by simpa using cn
        rw [e1] at key
        have : ((cnt ws + 1) * pm : Nat) ≤ V.toNat * pm := Nat.mul_le_mul_right pm (by rw [← h.len]; exact l1)
        have := Int.ofNat_le.mpr this
        push_cast at this key ⊢
        omega
      have mm : mu (V.toNat * pm) (ws.set (spot V r s) (some (c + s.2, w ++ [s.1]))) + (V.toNat * pm + 1) = mu (V.toNat * pm) ws + (c + s.2).toNat := mm
      omega
    | some p =>
      have b2 := hb p.1 (cOf_some (c := p.1) (w := p.2) ho)
      have mm : mu (V.toNat * pm) (ws.set (spot V r s) (some (c + s.2, w ++ [s.1]))) + p.1.toNat = mu (V.toNat * pm) ws + (c + s.2).toNat := mm
      omega
/-- relaxed but for the residues of ks and os -/
def Cl (S : List Step) (V : Int) (ws : List Ent) (ks os : List Nat) : Prop := ∀ r, r < V.toNat → r ∉ ks → r ∉ os → Relaxed S V (cOf ws) r
theorem cOf_put_le {ws : List Ent} {j : Nat} {c : Int} {w : List Int} (hj : j < ws.length) (hb : Better ws j c) {r : Nat} {y : Int} (e : cOf ws r = some y) : ∃ z, cOf (ws.set j (some (c, w))) r = some z ∧ z ≤ y := by
  rw [cOf_set hj]
  by_cases er : r = j
  · subst er
    rw [if_pos rfl]
    exact ⟨c, rfl, Int.le_of_lt (hb y e)⟩
  · rw [if_neg er]
    exact ⟨y, e, Int.le_refl _⟩
theorem relaxed_put {ws : List Ent} {j : Nat} {c : Int} {w : List Int} (hj : j < ws.length) (hb : Better ws j c) {r : Nat} (hr : r ≠ j) (h : Relaxed S V (cOf ws) r) : Relaxed S V (cOf (ws.set j (some (c, w)))) r := by
  intro x hx s hs
  rw [cOf_set hj, if_neg hr] at hx
  obtain ⟨y, hy, hl⟩ := h x hx s hs
  obtain ⟨z, hz, hzl⟩ := cOf_put_le (w := w) hj hb hy
  exact ⟨z, hz, by omega⟩
def addK (ks : List Nat) (j : Nat) : List Nat := if j ∈ ks then ks else ks ++ [j]
theorem mem_addK {ks : List Nat} {j r : Nat} : r ∈ addK ks j ↔ r ∈ ks ∨ r = j := by
  unfold addK
  split
  · rename_i h
    constructor
    · exact .inl
    · rintro (h1 | rfl)
      · exact h1
      · exact h
  · simp
theorem nodup_addK {ks : List Nat} {j : Nat} (h : ks.Nodup) : (addK ks j).Nodup := by
  unfold addK
  split
  · exact h
  · rename_i hn
    exact List.nodup_append.mpr ⟨h, by simp, fun a ha b hb => by
      rw [List.mem_singleton.mp hb]
      exact fun e => hn (e ▸ ha)⟩
theorem Cl.put {ws : List Ent} {j : Nat} {c : Int} {w : List Int} {ks os : List Nat} (h : Cl S V ws ks os) (hj : j < ws.length) (hb : Better ws j c) : Cl S V (ws.set j (some (c, w))) (addK ks j) os := by
  intro r hr h1 h2
  have h1 : ¬ (r ∈ ks ∨ r = j) := fun z => h1 (mem_addK.mpr z)
  exact relaxed_put hj hb (fun e => h1 (.inr e)) (h r hr (fun z => h1 (.inl z)) h2)
/-- the steps of T from r at the cost c are told -/
def Part (T : List Step) (V : Int) (ws : List Ent) (ks : List Nat) (r : Nat) (c : Int) : Prop := r ∈ ks ∨ (cOf ws r = some c ∧ ∀ s ∈ T, ∃ y, cOf ws (spot V r s) = some y ∧ y ≤ c + s.2)
theorem Part.put {T : List Step} {ws : List Ent} {ks : List Nat} {r : Nat} {c : Int} {w : List Int} {s : Step} (h : Part T V ws ks r c) (hj : spot V r s < ws.length) (hb : Better ws (spot V r s) (c + s.2)) :
    Part (T ++ [s]) V (ws.set (spot V r s) (some (c + s.2, w))) (addK ks (spot V r s)) r c := by
  by_cases e : r = spot V r s
  · exact .inl (mem_addK.mpr (.inr e))
  rcases h with h | ⟨h1, h2⟩
  · exact .inl (mem_addK.mpr (.inl h))
  · refine .inr ⟨by rw [cOf_set hj, if_neg e]; exact h1, fun t ht => ?_⟩
    rcases List.mem_append.mp ht with ht | ht
    · obtain ⟨y, hy, hl⟩ := h2 t ht
      obtain ⟨z, hz, hzl⟩ := cOf_put_le (w := w) hj hb hy
      exact ⟨z, hz, by omega⟩
    · rw [List.mem_singleton.mp ht, cOf_set hj, if_pos rfl]
      exact ⟨_, rfl, Int.le_refl _⟩
theorem Part.keep {T : List Step} {ws : List Ent} {ks : List Nat} {r : Nat} {c y : Int} {s : Step} (h : Part T V ws ks r c) (e : cOf ws (spot V r s) = some y) (hb : ¬ c + s.2 < y) : Part (T ++ [s]) V ws ks r c := by
  rcases h with h | ⟨h1, h2⟩
  · exact .inl h
  · refine .inr ⟨h1, fun t ht => ?_⟩
    rcases List.mem_append.mp ht with ht | ht
    · exact h2 t ht
    · rw [List.mem_singleton.mp ht]
      exact ⟨y, e, by omega⟩
theorem Cl.next {ws : List Ent} {ks os : List Nat} {r : Nat} {c : Int} (h : Cl S V ws ks (r :: os)) (hp : Part S V ws ks r c) : Cl S V ws ks os := by
  intro r' hr h1 h2
  by_cases e : r' = r
  · subst e
    rcases hp with hp | ⟨h3, h4⟩
    · exact absurd hp h1
    · intro x hx s hs
      rw [h3] at hx
      cases hx
      exact h4 s hs
  · exact h r' hr h1 (fun z => (List.mem_cons.mp z).elim e h2)
theorem Cl.swap {ws : List Ent} {ks : List Nat} (h : Cl S V ws ks []) : Cl S V ws [] ks := fun r hr _ h2 => h r hr h2 (by simp)
theorem Wy.isG (h : Wy S V pm ws) (hV : 0 < V) (hc : Cl S V ws [] []) : IsG S V (cOf ws) := isG_of_closed hV h.sound fun r hr => hc r hr (by simp) (by simp)
end
theorem emod_cases {a V : Int} (hV : 0 < V) (h1 : -V ≤ a) (h2 : a < 2 * V) : a % V = a ∨ a % V = a + V ∨ a % V = a - V := by
  by_cases c1 : a < 0
  · right; left
    rw [← Int.add_emod_right, Int.emod_eq_of_lt (by omega) (by omega)]
  · by_cases c2 : a < V
    · left
      exact Int.emod_eq_of_lt (by omega) c2
    · right; right
      rw [← Int.sub_emod_right, Int.emod_eq_of_lt (by omega) (by omega)]
theorem spot_ne {V : Int} (hV : 0 < V) {r : Nat} {s : Step} (hr : r < V.toNat) (h0 : s.1 ≠ 0) (h1 : -V < s.1) (h2 : s.1 < V) : spot V r s ≠ r := fun e => by
  have := spot_int hV r s
  rw [e] at this
  rcases emod_cases (a := (r : Int) + s.1) hV (by omega) (by omega) with z | z | z <;> omega
section
variable {S : List Step} {V : Int} {pm : Nat}
theorem start_get (hV : 0 < V) (r : Nat) : ((List.replicate V.toNat (none : Ent)).set 0 (some (0, [])))[r]? = if r = 0 then some (some (0, [])) else if r < V.toNat then some none else none := by
  have h0 : 0 < V.toNat := by omega
  by_cases e : r = 0
  · subst e
    rw [if_pos rfl, List.getElem?_set_self (by simpa using h0)]
  · rw [if_neg e, List.getElem?_set_ne (fun z => e z.symm), List.getElem?_replicate]
theorem Wy.init (hV : 0 < V) : Wy S V pm ((List.replicate V.toNat (none : Ent)).set 0 (some (0, []))) := by
  refine ⟨by simp, fun r c w h => ?_, ⟨0, [], by rw [start_get hV, if_pos rfl], Int.le_refl _⟩, fun r c w h => ?_⟩
  · rw [start_get hV] at h
    split at h
    · rename_i e
      cases h
      subst e
      exact ⟨[], In.nil, by simp, by simp, rfl⟩
    · split at h <;> cases h
  · rw [start_get hV] at h
    split at h
    · cases h
      exact Int.mul_nonneg (by omega) (by omega)
    · split at h <;> cases h
theorem Cl.init (hV : 0 < V) : Cl S V ((List.replicate V.toNat (none : Ent)).set 0 (some (0, []))) [] [0] := by
  intro r hr _ h2 x hx
  have : r ≠ 0 := fun e => h2 (by simp [e])
  unfold cOf at hx
  rw [start_get hV, if_neg this, if_pos hr] at hx
  cases hx
end
/-! ### the steps of a system -/
def stepsF (xs : List Int) (V : Int) (plain : Bool) : List Step := xs.flatMap fun v => (v, V - v) :: (if plain then [] else [(0 - v, V + v)])
theorem mem_stepsF {xs : List Int} {V : Int} {plain : Bool} {s : Step} : s ∈ stepsF xs V plain ↔ ∃ v ∈ xs, s = (v, V - v) ∨ (plain = false ∧ s = (0 - v, V + v)) := by
  unfold stepsF
  rw [List.mem_flatMap]
  constructor
  · rintro ⟨v, hv, h⟩
    refine ⟨v, hv, ?_⟩
    cases plain <;> simp at h ⊢ <;> exact h
  · rintro ⟨v, hv, h⟩
    refine ⟨v, hv, ?_⟩
    cases plain <;> simp at h ⊢ <;> exact h
end K75
set_option Elab.async false
set_option linter.all false
set_option maxRecDepth 100000
set_option maxHeartbeats 4000000
namespace K75R
open PySem PySem.Spec PyProof.Rows L2
section
variable {P : Program} {w : World} {K : PySem.W.Frag} {mg : Str → Option Value} {base : Heap}
open K75
/-! numbers -/
def sp_isintS : Sp := fun vs H Q _ => ∃ a b c : Int, vs = [.int a, .int b, .int c] ∧ Q (.bl (decide (b ≤ a ∧ a ≤ c))) H

theorem sc_is_integer_shortest : FnScope ["thing", "least", "most"] ["thing", "least", "most"] (defScope (top 27)) := ⟨rfl, rfl, rfl, by decide +kernel, rfl, by decide +kernel, by decide +kernel⟩
theorem R_is_integer_shortest (T : Txt K mg) : FnR P w K mg base CX0 1 (ga K "is_integer_shortest") sp_isintS := by
  obtain ⟨fd, F⟩ := T.is_integer_shortest.F
  have sc := sc_is_integer_shortest
  refine Fun.raw F sc (fun vs H Q E h => ?_) (fun _ _ _ _ _ _ us hl => match us, hl with | [_, _, _], _ => rfl) (fun cdv A outer s H vs Q E hr h => ?_)
  · obtain ⟨_, _, _, rfl, _⟩ := h
    rfl
  obtain ⟨a, b, c, rfl, q⟩ := h
  refine ⟨_, (pss_cons
    (ps_if (PW.pt (pw_or (pt_not (pt_val (pe_callB call_isB (by rfl) T.b_isinstance bt_isinstance (pa_cons (pv 0) (pa_cons (pe_ty "int" T.b_int bt_int) pa_nil))))) (pw_or (pt_val (pe_callB call_isB (by rfl) T.b_isinstance bt_isinstance (pa_cons (pv 0) (pa_cons (pe_ty "bool" T.b_bool bt_bool) pa_nil)))) (pw_or1 (pt_cmpR op_lt (pv 0) (pv 1) (nomark _))))))
      (pss_one
      (ps_ret pe_bl))
      pss_nil)
    (pss_one
    (ps_ret (pe_or (pe_cmpR op_isN (pv 2) pe_non (nomark _)) (pe_one (pe_cmpR op_le (pv 0) (pv 2) (nomark _))))))), ?_⟩
  refine ⟨_, rfl, _, "int", "int", true, rfl, .base (.int _), kii, true, rfl, iteF ?_⟩
  refine ⟨_, rfl, _, "bool", "int", false, rfl, .base (.int _), kib, false, rfl, iteF ?_⟩
  refine ⟨_, rfl, _, rfl, _, _, rfl, rfl, _, rfl, ite2 (fun z => ?_) fun z => ?_⟩
  · have z := of_decide_eq_true z
    have e : decide (b ≤ a ∧ a ≤ c) = false := by simp; omega
    rw [e] at q
    exact q
  · have z : ¬ a < b := by simpa using z
    refine ⟨_, rfl, rfl, false, rfl, iteF ⟨_, rfl, _, rfl, _, _, rfl, rfl, ?_⟩⟩
    have e : decide (a ≤ c) = decide (b ≤ a ∧ a ≤ c) := by
      have : b ≤ a := by omega
      simp [this]
    show Q (V.bl (decide (a ≤ c))) H
    rw [e]
    exact q

def sp_check : Sp := fun vs H Q _ => ∃ n : Int, vs = [.int n] ∧ 1 ≤ n ∧ n ≤ 10 ^ 30 ∧ Q .non H
theorem sc_check_number : FnScope ["number"] ["number"] (defScope (top 29)) := ⟨rfl, rfl, rfl, by decide +kernel, rfl, by decide +kernel, by decide +kernel⟩
theorem R_check_number (T : Txt K mg) : FnR P w K mg base CX0 2 (ga K "check_number") sp_check := by
  obtain ⟨fd, F⟩ := T.check_number.F
  have sc := sc_check_number
  refine Fun.raw F sc (fun vs H Q E h => ?_) (fun _ _ _ _ _ _ us hl => match us, hl with | [_], _ => rfl) (fun cdv A outer s H vs Q E hr h => ?_)
  · obtain ⟨_, rfl, _⟩ := h
    rfl
  obtain ⟨n, rfl, h1, h2, q⟩ := h
  refine ⟨_, (pss_one
    (ps_if (pt_not (pt_val (cR T.is_integer_shortest (R_is_integer_shortest T) hr pass0 (pa_cons (pv 0) (pa_cons pe_int (pa_cons (pe_gint T.c_MOST) pa_nil))))))
      (pss_one
      ps_never)
      pss_nil)), ?_⟩
  refine ⟨_, rfl, n, 1, 10 ^ 30, rfl, ?_⟩
  have e : decide (1 ≤ n ∧ n ≤ 10 ^ 30) = true := by simp only [decide_eq_true_eq]; exact ⟨h1, h2⟩
  rw [e]
  exact ⟨true, rfl, iteF q⟩

/-! the steps -/
def plainB (r : Rl) : Bool := decide (r = .plain)
def stepsOf (xs : List Int) (r : Rl) : List K75.Step := stepsF xs.dropLast (topOf xs) (plainB r)
theorem plain_nm (r : Rl) : decide (V.str r.nm = V.str "plain") = plainB r := by cases r <;> rfl
theorem stepsF_snoc (xs : List Int) (v V : Int) (p : Bool) : stepsF (xs ++ [v]) V p = stepsF xs V p ++ ((v, V - v) :: (if p then [] else [(0 - v, V + v)])) := by simp [stepsF]
theorem stepsF_len (xs : List Int) (V : Int) (p : Bool) : (stepsF xs V p).length ≤ 2 * xs.length := by
  induction xs with
  | nil => simp [stepsF]
  | cons x xs ih =>
    unfold stepsF at ih ⊢
    rw [List.flatMap_cons, List.length_append, List.length_cons]
    have : (if p then ([] : List K75.Step) else [(0 - x, V + x)]).length ≤ 1 := by split <;> simp
    rw [List.length_cons]
    omega
theorem topOf_mem {xs : List Int} (h : xs ≠ []) : topOf xs ∈ xs := by
  unfold topOf
  rw [List.getLastD_eq_getLast?, List.getLast?_eq_getLast h]
  exact List.getLast_mem h
theorem OkV.top {xs : List Int} (h : OkV xs) : 1 ≤ topOf xs ∧ topOf xs ≤ 60 := h.bd _ (topOf_mem h.ne)
theorem OkV.split {xs : List Int} (h : OkV xs) : xs = xs.dropLast ++ [topOf xs] := by
  have : topOf xs = xs.getLast h.ne := by unfold topOf; rw [List.getLastD_eq_getLast?, List.getLast?_eq_getLast h.ne] <;> rfl
  rw [this, List.dropLast_concat_getLast]
theorem OkV.below {xs : List Int} (h : OkV xs) {v : Int} (hv : v ∈ xs.dropLast) : 1 ≤ v ∧ v < topOf xs := by
  have e := h.split
  have up := h.up
  rw [e] at up
  exact ⟨(h.bd v (List.dropLast_subset _ hv)).1, (List.pairwise_append.mp up).2.2 v hv _ (by simp)⟩
theorem steps_pos {xs : List Int} {r : Rl} (h : OkV xs) : ∀ s ∈ stepsOf xs r, 1 ≤ s.2 ∧ s.2 ≤ 120 ∧ -60 < s.1 ∧ s.1 < 60 := by
  intro s hs
  obtain ⟨v, hv, e⟩ := mem_stepsF.mp hs
  have b := h.below hv
  have t := h.top
  rcases e with rfl | ⟨_, rfl⟩ <;> refine ⟨?_, ?_, ?_, ?_⟩ <;> dsimp <;> omega
def sp_steps_of (K : PySem.W.Frag) : Sp := fun vs H Q _ => ∃ (a : Addr) (xs : List Int) (r : Rl), vs = [.ref a] ∧ SysAt K H a xs r ∧ ∀ H' l, Same H H' → H l = none → TupsAt H' l ((stepsOf xs r).map runV) → Q (.ref l) H'
theorem sc_steps_of : FnScope ["system", "found", "value"] ["system"] (defScope (top 30)) := ⟨rfl, rfl, rfl, by decide +kernel, rfl, by decide +kernel, by decide +kernel⟩
theorem R_steps_of (T : Txt K mg) : FnR P w K mg base CX0 3 (ga K "steps_of") (sp_steps_of K) := by
  obtain ⟨fd, F⟩ := T.steps_of.F
  have sc := sc_steps_of
  refine Fun.raw F sc (fun vs H Q E h => ?_) (fun _ _ _ _ _ _ us hl => match us, hl with | [_], _ => rfl) (fun cdv A outer s H vs Q E hr h => ?_)
  · obtain ⟨_, _, _, rfl, _⟩ := h
    rfl
  obtain ⟨a, xs, r, rfl, hs, q⟩ := h
  refine ⟨_, (pss_cons
    (ps_set (i := 1) sc.nd rfl (by first | exact Or.inl rfl | exact Or.inr rfl) (pe_lst pa_nil))
    (pss_cons
    (ps_for PassesOwn.never rfl (pi_list (pe_slice sl_list (pe_row T hr (pv 0)) po_none (po_some (pe_un un_neg pe_int)))) (pg_name (i := 2) sc.nd rfl (by first | exact Or.inl rfl | exact Or.inr rfl))
      (pss_cons
      (ps_expr (pe_bm PySem.F.plainAttrs_list PySem.F.slot_list_append PySem.F.type_list_append mt_append (pv 1) (pa_cons (pe_tup (pa_cons (pv 2) (pa_cons (pe_op op_sub (pe_top T hr (pv 0)) (pv 2)) pa_nil))) pa_nil)))
      (pss_one
      (ps_if (pt_cmpR op_ne (pe_rule T hr (pv 0)) (pe_gstr T.c_PLAIN) (nomark _))
        (pss_one
        (ps_expr (pe_bm PySem.F.plainAttrs_list PySem.F.slot_list_append PySem.F.type_list_append mt_append (pv 1) (pa_cons (pe_tup (pa_cons (pe_op op_sub pe_int (pv 2)) (pa_cons (pe_op op_add (pe_top T hr (pv 0)) (pv 2)) pa_nil))) pa_nil))))
        pss_nil))))
    (pss_one
    (ps_ret (pv 1))))), ?_⟩
  refine ⟨by simp [sizeLine_eq], fun l hnl => ?_⟩
  have s0 : Same H (upd H l (.lst [])) := same_new hnl
  refine ⟨_, rfl, (hs.same s0).tRow fun p hp => ⟨1, rfl, _, rfl, p, _, rfl, sqL upd_same, fun p2 hp2 => ?_⟩⟩
  have s1 := s0.trans ((same_new (o := .lst (xs.map V.int)) hp).trans (same_new (o := .lst (cutV (xs.map V.int) none (some (-1)))) hp2))
  have hl0 : (upd (upd (upd H l (.lst [])) p (.lst (xs.map V.int))) p2 (.lst (cutV (xs.map V.int) none (some (-1))))) l = some (.lst []) :=
    ((same_new (o := .lst (xs.map V.int)) hp).trans (same_new (o := .lst (cutV (xs.map V.int) none (some (-1)))) hp2)) _ _ upd_same
  have hp0 : (upd (upd (upd H l (.lst [])) p (.lst (xs.map V.int))) p2 (.lst (cutV (xs.map V.int) none (some (-1))))) p2 = some (.lst (xs.dropLast.map V.int)) := by rw [upd_same, cutV_front, List.map_dropLast]
  have hne : p2 ≠ l := (ne_of_none ((same_new (o := .lst (xs.map V.int)) hp) _ _ upd_same) hp2).symm
  generalize (upd (upd (upd H l (.lst [])) p (.lst (xs.map V.int))) p2 (.lst (cutV (xs.map V.int) none (some (-1))))) = Hb at s1 hl0 hp0
  have hl6 := hs.ok.len
  have dl : xs.dropLast.length = xs.length - 1 := List.length_dropLast
  refine ⟨p2, rfl, ⟨_, sqL hp0⟩, for_it (walk_list (xs := xs.dropLast.map V.int)) (fun i σ H2 => (∀ c o, Hb c = some o → c ≠ l → H2 c = some o) ∧ Same H H2 ∧ TupsAt H2 l ((stepsF (xs.dropLast.take i) (topOf xs) (plainB r)).map runV) ∧ ∃ o2, σ = [some (V.ref a), some (V.ref l), o2]) ⟨fun _ _ h _ => h, s1, TupsAt.nil hl0, _, rfl⟩ (fun i σ H2 _ h => sqL (h.1 _ _ hp0 hne)) ?_ ?_⟩
  · rintro i y σ H2 H' hi ⟨s4, s5, tl, o2, rfl⟩ ⟨rfl, hy⟩
    obtain ⟨v, hv, rfl⟩ := mapI hy
    obtain ⟨ys, hx1, hx2⟩ := tl.lst
    have lim : ys.length ≤ 1000 := by
      rw [hx2, List.length_map]
      refine Nat.le_trans (stepsF_len _ _ _) ?_
      rw [List.length_take]
      omega
    refine ⟨_, rfl, .inl ⟨rfl, _, sqL hx1⟩, _, rfl, _, rfl, (hs.same s5).tTop ⟨_, rfl, _, _, rfl, rfl, by simp [sizeLine_eq], fun t ht => ?_⟩⟩
    refine ⟨l, ys, _, rfl, rfl, (same_new ht) _ _ hx1, sz_lt (by omega), ?_⟩
    have t1 := tl.push hx1 ht (t := runV (v, topOf xs - v))
    have k1 : ∀ c o, Hb c = some o → c ≠ l → (upd (upd H' t (.tup [V.int v, V.int (topOf xs - v)])) l (.lst (ys ++ [V.ref t]))) c = some o := fun c o hc hcl => by
      rw [upd_ne hcl]; exact (same_new ht) _ _ (s4 _ _ hc hcl)
    have s6 : Same H (upd (upd H' t (.tup [V.int v, V.int (topOf xs - v)])) l (.lst (ys ++ [V.ref t]))) := same_put (s5.trans (same_new ht)) hnl
    have hx3 : (upd (upd H' t (.tup [V.int v, V.int (topOf xs - v)])) l (.lst (ys ++ [V.ref t]))) l = some (.lst (ys ++ [V.ref t])) := upd_same
    change TupsAt (upd (upd H' t (.tup [V.int v, V.int (topOf xs - v)])) l (.lst (ys ++ [V.ref t]))) l _ at t1
    generalize (upd (upd H' t (.tup [V.int v, V.int (topOf xs - v)])) l (.lst (ys ++ [V.ref t]))) = H3 at t1 k1 s6 hx3
    refine ⟨_, rfl, (hs.same s6).tRule ⟨rfl, _, rfl, ite2 (fun z => ?_) fun z => ?_⟩⟩
    · rw [plain_nm] at z
      have zp : plainB r = false := by simpa using z
      refine ⟨_, rfl, .inl ⟨rfl, _, sqL hx3⟩, _, rfl, _, _, rfl, rfl, _, rfl, (hs.same s6).tTop ⟨_, rfl, _, _, rfl, rfl, by simp [sizeLine_eq], fun t2 ht2 => ?_⟩⟩
      refine ⟨l, _, _, rfl, rfl, (same_new ht2) _ _ hx3, sz_lt (by simp; omega), fun c o hc hcl => ?_, same_put (s6.trans (same_new ht2)) hnl, ?_, _, rfl⟩
      · rw [upd_ne hcl]; exact (same_new ht2) _ _ (k1 _ _ hc hcl)
      · have t2' := t1.push hx3 ht2 (t := runV (0 - v, topOf xs + v))
        rw [List.take_add_one, hv]
        show TupsAt _ _ ((stepsF (xs.dropLast.take i ++ [v]) _ _).map runV)
        rw [stepsF_snoc, zp, List.map_append, show List.map runV ((v, topOf xs - v) :: (if false = true then [] else [(0 - v, topOf xs + v)])) = [runV (v, topOf xs - v)] ++ [runV (0 - v, topOf xs + v)] from rfl, ← List.append_assoc]
        rw [zp] at t2'
        exact t2'
    · rw [plain_nm] at z
      have zp : plainB r = true := by simpa using z
      refine ⟨k1, s6, ?_, _, rfl⟩
      rw [List.take_add_one, hv]
      show TupsAt _ _ ((stepsF (xs.dropLast.take i ++ [v]) _ _).map runV)
      rw [stepsF_snoc, zp, List.map_append]
      rw [zp] at t1
      exact t1
  · rintro σ H2 ⟨s4, s5, tl, o2, rfl⟩
    rw [List.length_map, List.take_length] at tl
    exact ⟨_, rfl, q _ _ s5 hnl tl⟩

def sp_bound (K : PySem.W.Frag) : Sp := fun vs H Q _ => ∃ (a : Addr) (xs : List Int) (r : Rl), vs = [.ref a] ∧ SysAt K H a xs r ∧ Q (.int ((topOf xs - 1) * (topOf xs - 1))) H
theorem sc_bound_of : FnScope ["system"] ["system"] (defScope (top 33)) := ⟨rfl, rfl, rfl, by decide +kernel, rfl, by decide +kernel, by decide +kernel⟩
theorem R_bound_of (T : Txt K mg) : FnR P w K mg base CX0 3 (ga K "bound_of") (sp_bound K) := by
  obtain ⟨fd, F⟩ := T.bound_of.F
  have sc := sc_bound_of
  refine Fun.raw F sc (fun vs H Q E h => ?_) (fun _ _ _ _ _ _ us hl => match us, hl with | [_], _ => rfl) (fun cdv A outer s H vs Q E hr h => ?_)
  · obtain ⟨_, _, _, rfl, _⟩ := h
    rfl
  obtain ⟨a, xs, r, rfl, hs, q⟩ := h
  refine ⟨_, (pss_one
    (ps_ret (pe_op op_mul (pe_op op_sub (pe_top T hr (pv 0)) pe_int) (pe_op op_sub (pe_top T hr (pv 0)) pe_int)))), ?_⟩
  have t := hs.ok.top
  exact ⟨_, rfl, hs.tTop ⟨_, _, rfl, rfl, _, rfl, hs.tTop ⟨_, _, rfl, rfl, _, _, rfl, rfl, .inl ⟨by omega, by omega⟩, q⟩⟩⟩
end
end K75R
set_option Elab.async false
set_option linter.all false
set_option maxRecDepth 100000
set_option maxHeartbeats 4000000
namespace K75R
open PySem PySem.Spec PyProof.Rows L2
section
variable {P : Program} {w : World} {K : PySem.W.Frag} {mg : Str → Option Value} {base : Heap}
open K75
/-! the ways in the heap -/
def EntAt (H : Hp) (f : Addr) (v : V) : Ent → Prop
  | none => v = .non
  | some (c, w) => ∃ p q, v = .ref p ∧ H p = some (.tup [.int c, .ref q]) ∧ H q = some (.lst (w.map V.int)) ∧ q ≠ f ∧ p ≠ f
def WaysAt (H : Hp) (f : Addr) (ws : List Ent) : Prop := ∃ vals : List V, H f = some (.lst vals) ∧ vals.length = ws.length ∧ ∀ (i : Nat) v e, vals[i]? = some v → ws[i]? = some e → EntAt H f v e
theorem EntAt.mono {H H' : Hp} {f : Addr} {v : V} {e : Ent} (h : EntAt H f v e) (k : ∀ b o, H b = some o → (∀ x, o ≠ .dK x) → b ≠ f → H' b = some o) : EntAt H' f v e := by
  cases e with
  | none => exact h
  | some e =>
    obtain ⟨p, q, h1, h2, h3, h4, h5⟩ := h
    exact ⟨p, q, h1, k _ _ h2 (fun x z => by cases z) h5, k _ _ h3 (fun x z => by cases z) h4, h4, h5⟩
theorem WaysAt.mono {H H' : Hp} {f : Addr} {ws : List Ent} (h : WaysAt H f ws) (k : ∀ b o, H b = some o → (∀ x, o ≠ .dK x) → H' b = some o) : WaysAt H' f ws := by
  obtain ⟨vals, h1, h2, h3⟩ := h
  exact ⟨vals, k _ _ h1 (fun x z => by cases z), h2, fun i v e e1 e2 => (h3 i v e e1 e2).mono fun b o q z _ => k b o q z⟩
theorem WaysAt.same {H H' : Hp} {f : Addr} {ws : List Ent} (h : WaysAt H f ws) (k : Same H H') : WaysAt H' f ws := h.mono fun b o q _ => k b o q
theorem WaysAt.set {H : Hp} {f : Addr} {ws : List Ent} {vals : List V} {j : Nat} {p q : Addr} {c : Int} {w : List Int} (h : WaysAt H f ws) (hf : H f = some (.lst vals)) (hp : H p = some (.tup [.int c, .ref q])) (hq : H q = some (.lst (w.map V.int))) (hqf : q ≠ f) :
    WaysAt (upd H f (.lst (vals.set j (.ref p)))) f (ws.set j (some (c, w))) := by
  obtain ⟨vals', h1, h2, h3⟩ := h
  rw [hf] at h1
  cases h1
  have hpf : p ≠ f := fun e => by subst e; rw [hf] at hp; cases hp
  refine ⟨_, upd_same, by simp [h2], fun i v e e1 e2 => ?_⟩
  by_cases hi : j = i
  · subst hi
    rw [List.getElem?_set_self' ] at e1 e2
    cases ev : vals[j]? with
    | none => rw [ev] at e1; cases e1
    | some v0 =>
      cases ew : ws[j]? with
      | none => rw [ew] at e2; cases e2
      | some w0 =>
        rw [ev] at e1
        rw [ew] at e2
        cases e1
        cases e2
        exact ⟨p, q, rfl, by rw [upd_ne hpf]; exact hp, by rw [upd_ne hqf]; exact hq, hqf, hpf⟩
  · rw [List.getElem?_set_ne hi] at e1 e2
    exact (h3 i v e e1 e2).mono fun b o z _ hb => by rw [upd_ne hb]; exact z
theorem WaysAt.get {H : Hp} {f : Addr} {ws : List Ent} {i : Nat} {e : Ent} (h : WaysAt H f ws) (he : ws[i]? = some e) : ∃ vals v, H f = some (.lst vals) ∧ vals.length = ws.length ∧ vals[i]? = some v ∧ EntAt H f v e := by
  obtain ⟨vals, h1, h2, h3⟩ := h
  obtain ⟨hi, _⟩ := List.getElem?_eq_some_iff.mp he
  have hi' : i < vals.length := by omega
  exact ⟨vals, vals[i], h1, h2, by simp [hi'], h3 i _ e (by simp [hi']) he⟩
/-- the dict of the residues met -/
def ksD (ks : List Nat) : List (Key × V) := ks.map fun k : Nat => ((.inl (k : Int) : Key), V.bl true)
theorem putK_ksD (ks : List Nat) (j : Nat) : putK (ksD ks) (.inl (j : Int)) (V.bl true) = ksD (addK ks j) := by
  unfold putK addK ksD
  have e : ((ks.map fun k : Nat => ((.inl (k : Int) : Key), V.bl true)).any fun kv => decide (kv.1 = .inl (j : Int))) = decide (j ∈ ks) := by
    rw [Bool.eq_iff_iff]
    simp only [List.any_map, List.any_eq_true, decide_eq_true_eq, Function.comp]
    constructor
    · rintro ⟨k, hk, e⟩
      have e : (k : Int) = j := Sum.inl.inj e
      rw [show j = k by omega]
      exact hk
    · intro h
      exact ⟨j, h, rfl⟩
  rw [e]
  by_cases h : j ∈ ks
  · rw [if_pos (by simpa using h), if_pos h, List.map_map]
    apply List.map_congr_left
    intro k hk
    dsimp
    split <;> rfl
  · rw [if_neg (by simpa using h), if_neg h, List.map_append]
    rfl
theorem ksD_len (ks : List Nat) : (ksD ks).length = ks.length := by simp [ksD]
/-- residues that are there -/
def In2 (V : Int) (ws : List Ent) (ks : List Nat) : Prop := ∀ r ∈ ks, r < V.toNat ∧ ∃ c w, ws[r]? = some (some (c, w))
theorem In2.put {V : Int} {ws : List Ent} {ks : List Nat} {j : Nat} {p : Int × List Int} (h : In2 V ws ks) (hj : j < ws.length) : In2 V (ws.set j (some p)) ks := fun r hr => by
  obtain ⟨h1, c, w, h2⟩ := h r hr
  refine ⟨h1, ?_⟩
  by_cases e : j = r
  · subst e
    exact ⟨p.1, p.2, by rw [List.getElem?_set_self hj]⟩
  · exact ⟨c, w, by rw [List.getElem?_set_ne e]; exact h2⟩
theorem In2.add {V : Int} {ws : List Ent} {ks : List Nat} {j : Nat} {p : Int × List Int} (h : In2 V ws ks) (hj : j < ws.length) (hl : ws.length = V.toNat) : In2 V (ws.set j (some p)) (addK ks j) := fun r hr => by
  rcases mem_addK.mp hr with hr | rfl
  · exact h.put hj r hr
  · exact ⟨by omega, p.1, p.2, by rw [List.getElem?_set_self hj]⟩
theorem In2.len {V : Int} {ws : List Ent} {ks : List Nat} (h : In2 V ws ks) (nd : ks.Nodup) : ks.length ≤ V.toNat := pigeon _ ks (fun r hr => (h r hr).1) nd
/-- what stands through a round -/
structure CwI (S : List K75.Step) (V : Int) (H : Hp) (f d : Addr) (m0 : Nat) (fs os : List Nat) (ws : List Ent) (ks : List Nat) (G : Hp) : Prop where
  same : Same H G
  ways : WaysAt G f ws
  dict : G d = some (.dK (ksD ks))
  wy : Wy S V 120 ws
  cl : Cl S V ws ks os
  ik : In2 V ws ks
  ifs : In2 V ws fs
  nd : ks.Nodup
  le : mu (V.toNat * 120) ws ≤ m0
  lt : ks ≠ [] → mu (V.toNat * 120) ws < m0
/-- all but f and d as it was -/
def Keep2 (f d : Addr) (H H' : Hp) : Prop := ∀ b o, H b = some o → b ≠ f → b ≠ d → H' b = some o
/-- what comes of it -/
def WaysG (S : List K75.Step) (V : Int) (ws : List Ent) : Prop := Wy S V 120 ws ∧ IsG S V (cOf ws)
theorem ixN_nat {n j : Nat} (h : j < n) : ixN n (j : Int) = some j := by
  unfold ixN
  rw [if_pos (by omega), if_pos (by omega)]
  simp
theorem lay_ints : ∀ zs : List Int, PyData.canLayAll0 (zs.map PyData.int) = true ∧ PyData.depthAll (zs.map PyData.int) = 0
  | [] => ⟨by rfl, by rfl⟩
  | z :: zs => by
    obtain ⟨h1, h2⟩ := lay_ints zs
    refine ⟨?_, ?_⟩
    · simp [PyData.canLayAll0, PyData.canLay0, h1]
    · simp [PyData.depthAll, PyData.depth, h2]
theorem neD_ints {K : PySem.W.Frag} {H : Hp} {Q : VK} {a b : Addr} {zs : List Int} (ha : SqL K H a (zs.map V.int)) (hb : SqL K H b []) (q : Q (.bl (!zs.isEmpty)) H) : rNeD K (.ref a) (.ref b) H Q := by
  have all : ∀ zs : List Int, DpAll K H (zs.map V.int) (zs.map PyData.int) := fun zs => by
    induction zs with
    | nil => exact .nil
    | cons z zs ih => exact .cons (.int z) ih
  obtain ⟨h1, h2⟩ := lay_ints zs
  refine ⟨.list (zs.map PyData.int), .list [], .lst ha (all zs), .lst hb .nil, ?_, by rfl, ?_⟩
  · simp [SeqAt.shaped, PyData.canLay0, PyData.depth, h1, h2]
  · cases zs <;> exact q
/-- .. of a list of pairs of ints -/
theorem lay_runs : ∀ zs : List (Int × Int), PyData.canLayAll0 (zs.map fun z => PyData.tuple [.int z.1, .int z.2]) = true ∧ PyData.depthAll (zs.map fun z => PyData.tuple [.int z.1, .int z.2]) ≤ 1
  | [] => ⟨by rfl, by decide⟩
  | z :: zs => by
    obtain ⟨h1, h2⟩ := lay_runs zs
    refine ⟨?_, ?_⟩
    · simp [PyData.canLayAll0, PyData.canLay0, h1]
    · simp [PyData.depthAll, PyData.depth]
      omega
theorem neD_runs {K : PySem.W.Frag} {H : Hp} {Q : VK} {a b : Addr} {zs : List (Int × Int)} (ha : WordAt H a zs) (hb : SqL K H b []) (q : Q (.bl (!zs.isEmpty)) H) : rNeD K (.ref a) (.ref b) H Q := by
  obtain ⟨ps, e1, e2, e3⟩ := ha
  have all : ∀ (zs : List (Int × Int)) (ps : List Addr), ps.length = (zs.map runV).length → (∀ (i : Nat) p t, ps[i]? = some p → (zs.map runV)[i]? = some t → H p = some (.tup t)) → DpAll K H (ps.map V.ref) (zs.map fun z => PyData.tuple [.int z.1, .int z.2]) := fun zs => by
    induction zs with
    | nil =>
      intro ps h1 _
      have : ps = [] := List.eq_nil_of_length_eq_zero (by simpa using h1)
      subst this
      exact .nil
    | cons z zs ih =>
      intro ps h1 h2
      cases ps with
      | nil => simp at h1
      | cons p ps =>
        refine .cons (.tup (sqT (h2 0 p _ rfl rfl)) (.cons (.int _) (.cons (.int _) .nil))) (ih ps (by simpa using h1) fun i p t q1 q2 => h2 (i + 1) p t (by simpa using q1) (by simpa using q2))
  obtain ⟨h1, h2⟩ := lay_runs zs
  refine ⟨.list (zs.map fun z => PyData.tuple [.int z.1, .int z.2]), .list [], .lst (sqL e1) (all zs ps e2 e3), .lst hb .nil, ?_, by rfl, ?_⟩
  · simp [SeqAt.shaped, PyData.canLay0, PyData.depth, h1]
    omega
  · cases zs <;> exact q
def sp_cheapest (K : PySem.W.Frag) : Sp := fun vs H Q _ => ∃ (a : Addr) (xs : List Int) (r : Rl), vs = [.ref a] ∧ SysAt K H a xs r ∧ ∀ H' l ws, Same H H' → H l = none → WaysAt H' l ws → WaysG (stepsOf xs r) (topOf xs) ws → Q (.ref l) H'

theorem sc_cheapest_ways : FnScope ["system", "found", "fresh", "later", "residue", "cost", "way", "signed", "price", "spot"] ["system"] (defScope (top 31)) := ⟨rfl, rfl, rfl, by decide +kernel, rfl, by decide +kernel, by decide +kernel⟩
theorem R_cheapest_ways (T : Txt K mg) : FnR P w K mg base CX0 4 (ga K "cheapest_ways") (sp_cheapest K) := by
  obtain ⟨fd, F⟩ := T.cheapest_ways.F
  have sc := sc_cheapest_ways
  refine Fun.raw F sc (fun vs H Q E h => ?_) (fun _ _ _ _ _ _ us hl => match us, hl with | [_], _ => rfl) (fun cdv A outer s H vs Q E hr h => ?_)
  · obtain ⟨_, _, _, rfl, _⟩ := h
    rfl
  obtain ⟨a, xs, r, rfl, hs, q⟩ := h
  refine ⟨_, (pss_cons
    (ps_set (i := 1) sc.nd rfl (by first | exact Or.inl rfl | exact Or.inr rfl) (pe_op op_rep (pe_lst (pa_cons pe_non pa_nil)) (pe_top T hr (pv 0))))
    (pss_cons
    (ps_asg (pe_tup (pa_cons pe_int (pa_cons (pe_lst pa_nil) pa_nil))) (pg_sub (pv 1) pe_int set_list))
    (pss_cons
    (ps_set (i := 2) sc.nd rfl (by first | exact Or.inl rfl | exact Or.inr rfl) (pe_lst (pa_cons pe_int pa_nil)))
    (pss_cons
    (ps_while PassesOwn.never (pt_cmpR (op_neD hr.units) (pv 2) (pe_lst pa_nil) (nomark _))
      (pss_cons
      (ps_set (i := 3) sc.nd rfl (by first | exact Or.inl rfl | exact Or.inr rfl) pe_dnewK)
      (pss_cons
      (ps_for PassesOwn.never rfl (pi_list (pv 2)) (pg_name (i := 4) sc.nd rfl (by first | exact Or.inl rfl | exact Or.inr rfl))
        (pss_cons
        (ps_asg (pe_ix ix_list (pv 1) (pv 4) (fun _ _ => rfl)) (pg_tup (by rfl) (pgs_cons (pg_name (i := 5) sc.nd rfl (by first | exact Or.inl rfl | exact Or.inr rfl)) (pgs_cons (pg_name (i := 6) sc.nd rfl (by first | exact Or.inl rfl | exact Or.inr rfl)) pgs_nil))))
        (pss_one
        (ps_for PassesOwn.never rfl (pi_list (cR T.steps_of (R_steps_of T) hr pass0 (pa_cons (pv 0) pa_nil))) (pg_tup (by rfl) (pgs_cons (pg_name (i := 7) sc.nd rfl (by first | exact Or.inl rfl | exact Or.inr rfl)) (pgs_cons (pg_name (i := 8) sc.nd rfl (by first | exact Or.inl rfl | exact Or.inr rfl)) pgs_nil)))
          (pss_cons
          (ps_set (i := 9) sc.nd rfl (by first | exact Or.inl rfl | exact Or.inr rfl) (pe_op op_mod (pe_op op_add (pv 4) (pv 7)) (pe_top T hr (pv 0))))
          (pss_one
          (ps_if (PW.pt (pw_or (pt_cmpR op_isN (pe_ix ix_list (pv 1) (pv 9) (fun _ _ => rfl)) pe_non (nomark _)) (pw_or1 (pt_cmpR op_lt (pe_op op_add (pv 5) (pv 8)) (pe_ix ix_tup (pe_ix ix_list (pv 1) (pv 9) (fun _ _ => rfl)) pe_int (fun _ _ => rfl)) (nomark _)))))
            (pss_cons
            (ps_asg (pe_tup (pa_cons (pe_op op_add (pv 5) (pv 8)) (pa_cons (pe_op op_cat (pv 6) (pe_lst (pa_cons (pv 7) pa_nil))) pa_nil))) (pg_sub (pv 1) (pv 9) set_list))
            (pss_one
            (ps_dput (hu_of hr) (pv 3) (pv 9) pe_bl rfl)))
            pss_nil)))))))
      (pss_one
      (ps_set (i := 2) sc.nd rfl (by first | exact Or.inl rfl | exact Or.inr rfl) (pe_callTy (call_list_dK rfl) (by rfl) T.b_list bt_list (pa_cons (pv 3) pa_nil)))))))
    (pss_one
    (ps_ret (pv 1))))))), ?_⟩
  have ok := hs.ok
  have tp := ok.top
  have hV : 0 < topOf xs := by omega
  have sp := steps_pos (r := r) ok
  have hp1 : ∀ s ∈ stepsOf xs r, 1 ≤ s.2 := fun s h => (sp s h).1
  have hpm : ∀ s ∈ stepsOf xs r, s.2 ≤ (120 : Nat) := fun s h => (sp s h).2.1
  refine ⟨by simp [sizeLine_eq], fun l0 hl0 => ?_⟩
  have s0 : Same H (upd H l0 (.lst [V.non])) := same_new hl0
  refine ⟨_, rfl, (hs.same s0).tTop ⟨l0, _, [V.non], rfl, rfl, upd_same, by omega, by omega, by simp [sizeLine_eq]; omega, fun f hf => ?_⟩⟩
  have s1 := s0.trans (same_new (o := .lst (List.replicate (topOf xs).toNat [V.non]).flatten) hf)
  have hf1 : (upd (upd H l0 (.lst [V.non])) f (.lst (List.replicate (topOf xs).toNat [V.non]).flatten)) f = some (.lst (List.replicate (topOf xs).toNat [V.non]).flatten) := upd_same
  have fl : (List.replicate (topOf xs).toNat [V.non]).flatten = List.replicate (topOf xs).toNat V.non := by
    generalize (topOf xs).toNat = n
    induction n with
    | zero => rfl
    | succ n ih => rw [List.replicate_succ, List.flatten_cons, ih, List.replicate_succ] <;> rfl
  rw [fl] at hf1 s1 ⊢
  have hfH : H f = none := s0.free hf
  generalize (upd (upd H l0 (.lst [V.non])) f (.lst (List.replicate (topOf xs).toNat V.non))) = H1 at hf1 s1
  refine ⟨by simp [sizeLine_eq], fun q0 hq0 => ⟨by simp [sizeLine_eq], fun p0 hp0 => ?_⟩⟩
  have s2 := (same_new (o := .lst []) hq0).trans (same_new (o := .tup [V.int 0, V.ref q0]) hp0)
  have w0 : WaysAt H1 f (List.replicate (topOf xs).toNat (none : Ent)) := ⟨_, hf1, by simp, fun i v e e1 e2 => by
    rw [List.getElem?_replicate] at e1 e2
    split at e1
    · rename_i hi
      rw [if_pos hi] at e2
      cases e1
      cases e2
      rfl
    · cases e1⟩
  have hq0f : q0 ≠ f := (ne_of_none hf1 hq0).symm
  have w1 := (w0.same s2).set (j := 0) (s2 _ _ hf1) upd_same (by rw [upd_ne (fun e => by subst e; rw [upd_same] at hp0; cases hp0), upd_same] <;> rfl) hq0f (c := 0) (w := [])
  have n1 : 0 < (topOf xs).toNat := by omega
  refine ⟨_, rfl, f, _, 0, 0, rfl, rfl, s2 _ _ hf1, by simpa using ixN_nat (n := (List.replicate (topOf xs).toNat V.non).length) (j := 0) (by simpa using n1), ?_⟩
  have s3 : Same H (upd (upd (upd H1 q0 (.lst [])) p0 (.tup [V.int 0, V.ref q0])) f (.lst ((List.replicate (topOf xs).toNat V.non).set 0 (V.ref p0)))) := same_put (s1.trans s2) hfH
  generalize (upd (upd (upd H1 q0 (.lst [])) p0 (.tup [V.int 0, V.ref q0])) f (.lst ((List.replicate (topOf xs).toNat V.non).set 0 (V.ref p0)))) = H2 at w1 s3
  refine ⟨by simp [sizeLine_eq], fun lf hlf => ?_⟩
  have w2 := w1.same (same_new (o := .lst [V.int 0]) hlf)
  have s4 := s3.trans (same_new (o := .lst [V.int 0]) hlf)
  have f2 : ∃ o, H2 f = some o := by
    obtain ⟨vals, h1, _⟩ := w1
    exact ⟨_, h1⟩
  have lff : lf ≠ f := by
    obtain ⟨o, ho⟩ := f2
    exact (ne_of_none ho hlf).symm
  -- the rounds
  refine ⟨fun m σ G => ∃ ws fs lf o3 o4 o5 o6 o7 o8 o9, σ = [some (V.ref a), some (V.ref f), some (V.ref lf), o3, o4, o5, o6, o7, o8, o9] ∧ Same H G ∧ WaysAt G f ws ∧ G lf = some (.lst (fs.map fun r : Nat => V.int (r : Int))) ∧ lf ≠ f ∧
    Wy (stepsOf xs r) (topOf xs) 120 ws ∧ Cl (stepsOf xs r) (topOf xs) ws [] fs ∧ In2 (topOf xs) ws fs ∧ m = 2 * mu ((topOf xs).toNat * 120) ws + (if fs = [] then 0 else 1), ⟨_, _, [0], lf, _, _, _, _, _, _, _, rfl, s4, w2, upd_same, lff, Wy.init hV, Cl.init hV, fun r hr => ?_, rfl⟩, ?_⟩
  · rw [List.mem_singleton.mp hr]
    exact ⟨n1, 0, [], by rw [start_get hV, if_pos rfl]⟩
  rintro m σ G ⟨ws, fs, lf, o3, o4, o5, o6, o7, o8, o9, rfl, sG, wG, hlG, lff, wy, cl, ifs, hm⟩
  refine ⟨_, rfl, by simp [sizeLine_eq], fun e he => ?_⟩
  have e0 : (fs.map fun r : Nat => V.int (r : Int)) = (fs.map fun r : Nat => (r : Int)).map V.int := by rw [List.map_map] <;> rfl
  refine neD_ints (zs := fs.map fun r : Nat => (r : Int)) (sqL (by rw [← e0]; exact (same_new he) _ _ hlG)) (sqL upd_same) ⟨_, rfl, ?_⟩
  have sE : Same G (upd G e (.lst [])) := same_new he
  have sG := sG.trans sE
  have wG := wG.same sE
  have hlG := sE _ _ hlG
  generalize upd G e (.lst []) = G at sG wG hlG
  clear sE he e0
  by_cases hfs : fs = []
  · -- done
    subst hfs
    refine iteF ⟨_, rfl, q _ _ _ sG hfH wG ⟨wy, wy.isG hV cl⟩⟩
  have hemp : (!(fs.map fun r : Nat => (r : Int)).isEmpty) = true := by simp [hfs]
  rw [hemp]
  refine iteT ⟨fun σ' G' => ∃ m', m' < m ∧ ∃ ws fs lf o3 o4 o5 o6 o7 o8 o9, σ' = [some (V.ref a), some (V.ref f), some (V.ref lf), o3, o4, o5, o6, o7, o8, o9] ∧ Same H G' ∧ WaysAt G' f ws ∧ G' lf = some (.lst (fs.map fun r : Nat => V.int (r : Int))) ∧ lf ≠ f ∧
    Wy (stepsOf xs r) (topOf xs) 120 ws ∧ Cl (stepsOf xs r) (topOf xs) ws [] fs ∧ In2 (topOf xs) ws fs ∧ m' = 2 * mu ((topOf xs).toNat * 120) ws + (if fs = [] then 0 else 1), fun _ _ z => z, ?_⟩
  intro d hd
  have obv : ∀ {b : Addr} {o : HO}, G b = some o → b ≠ d := fun {b o} z => ne_of_none z hd
  obtain ⟨vf, hvf, _⟩ := wG
  have wG : WaysAt G f ws := ⟨vf, hvf, by assumption⟩
  have fd : f ≠ d := obv hvf
  have sd : Same G (upd G d (.dK [])) := same_new hd
  have I0 : CwI (stepsOf xs r) (topOf xs) H f d (mu ((topOf xs).toNat * 120) ws) fs fs ws [] (upd G d (.dK [])) := ⟨sG.trans sd, wG.same sd, upd_same, wy, cl, fun k hk => (by simp at hk), ifs, List.nodup_nil, Nat.le_refl _, fun z => absurd rfl z⟩
  have hld : lf ≠ d := obv hlG
  have hlG := sd _ _ hlG
  have hdH : H d = none := sG.free hd
  generalize hm0 : mu ((topOf xs).toNat * 120) ws = m0 at I0 hm
  generalize upd G d (.dK []) = Gd at I0 hlG
  clear wG wy cl ifs sG
  refine ⟨_, rfl, lf, rfl, ⟨_, sqL hlG⟩, for_it walk_list (fun i σ G2 => ∃ ws ks o4 o5 o6 o7 o8 o9, σ = [some (V.ref a), some (V.ref f), some (V.ref lf), some (V.ref d), o4, o5, o6, o7, o8, o9] ∧ Keep2 f d Gd G2 ∧ CwI (stepsOf xs r) (topOf xs) H f d m0 fs (fs.drop i) ws ks G2)
    ⟨ws, [], _, _, _, _, _, _, rfl, fun _ _ z _ _ => z, I0⟩ (fun i σ G2 _ ⟨ws, ks, _, _, _, _, _, _, _, kp, _⟩ => sqL (kp _ _ hlG lff hld)) ?_ ?_⟩
  · -- one residue
    rintro i y σ G2 G2' hi ⟨ws, ks, o4, o5, o6, o7, o8, o9, rfl, kp2, I2⟩ ⟨rfl, hy⟩
    obtain ⟨r0, hr0, rfl⟩ := mapI hy
    have hi' : i < fs.length := by simpa using hi
    have dr : fs.drop i = r0 :: fs.drop (i + 1) := by
      rw [List.drop_eq_getElem_cons hi', (List.getElem?_eq_some_iff.mp hr0).2]
    obtain ⟨hr0V, c, w, hw⟩ := I2.ifs r0 (List.mem_of_getElem? hr0)
    obtain ⟨vals, v, hvals, hvl, hv, p, q1, rfl, hp, hq1, hq1f, hpf⟩ := I2.ways.get hw
    have cst := I2.wy.cost hp1 hw
    refine ⟨_, rfl, _, rfl, f, vals, _, _, rfl, rfl, sqL hvals, atI_nat hv, p, _, rfl, sqT hp, rfl, _, _, rfl, _, _, rfl, rfl, ?_⟩
    refine ⟨_, rfl, a, xs, r, rfl, hs.same I2.same, fun Hs ls ss hnls hts => ?_⟩
    obtain ⟨pl, hpl, hpll, hpli⟩ := hts
    have lsf : ls ≠ f := (ne_of_none hvals hnls).symm
    have lsd : ls ≠ d := (ne_of_none I2.dict hnls).symm
    have q1d : q1 ≠ d := fun e => by subst e; rw [I2.dict] at hq1; cases hq1
    have hq1s := ss _ _ hq1
    have Is : CwI (stepsOf xs r) (topOf xs) H f d m0 fs (fs.drop i) ws ks Hs := ⟨I2.same.trans ss, I2.ways.same ss, ss _ _ I2.dict, I2.wy, I2.cl, I2.ik, I2.ifs, I2.nd, I2.le, I2.lt⟩
    have P0 : Part ((stepsOf xs r).take 0) (topOf xs) ws ks r0 c := .inr ⟨cOf_some hw, fun s hs => by simp at hs⟩
    refine ⟨ls, rfl, ⟨_, sqL hpl⟩, for_it walk_list (fun k σ G3 => ∃ ws ks o7 o8 o9, σ = [some (V.ref a), some (V.ref f), some (V.ref lf), some (V.ref d), some (V.int (r0 : Int)), some (V.int c), some (V.ref q1), o7, o8, o9] ∧ Keep2 f d Hs G3 ∧
      CwI (stepsOf xs r) (topOf xs) H f d m0 fs (fs.drop i) ws ks G3 ∧ Part ((stepsOf xs r).take k) (topOf xs) ws ks r0 c ∧ ws[r0]? = some (some (c, w)))
      ⟨ws, ks, _, _, _, rfl, fun _ _ z _ _ => z, Is, P0, hw⟩ (fun k σ G3 _ ⟨ws, ks, _, _, _, _, kp, _⟩ => sqL (kp _ _ hpl lsf lsd)) ?_ ?_⟩
    · -- one step
      rintro k y σ G3 G3' hk ⟨ws, ks, o7, o8, o9, rfl, kp3, I3, pt, hw3⟩ ⟨rfl, hy⟩
      obtain ⟨ps, s, rfl, hsk, hps⟩ := TupsAt.item hpll hpli hy
      have hsm : s ∈ stepsOf xs r := List.mem_of_getElem? hsk
      have tk : (stepsOf xs r).take (k + 1) = (stepsOf xs r).take k ++ [s] := by rw [List.take_add_one, hsk] <;> rfl
      have psf : ps ≠ f := fun e => by
        subst e
        rw [ss _ _ hvals] at hps
        cases hps
      have psd : ps ≠ d := fun e => by
        subst e
        rw [ss _ _ I2.dict] at hps
        cases hps
      have hp3 := kp3 _ _ hps psf psd
      have hq3 := kp3 _ _ hq1s hq1f q1d
      -- the residue it leads to
      generalize hj : spot (topOf xs) r0 s = j
      have hji : ((j : Nat) : Int) = ((r0 : Int) + s.1) % topOf xs := by rw [← hj, spot_int hV]
      have hjV : j < (topOf xs).toNat := by rw [← hj]; exact spot_lt hV r0 s
      have hjw : j < ws.length := by rw [I3.wy.len]; exact hjV
      have jr : j ≠ r0 := by
        rw [← hj]
        obtain ⟨v, hv, e⟩ := mem_stepsF.mp hsm
        have b := ok.below hv
        rcases e with rfl | ⟨_, rfl⟩
        · exact spot_ne hV hr0V (by dsimp; omega) (by dsimp; omega) (by dsimp; omega)
        · exact spot_ne hV hr0V (by dsimp; omega) (by dsimp; omega) (by dsimp; omega)
      obtain ⟨e, he⟩ : ∃ e, ws[j]? = some e := ⟨_, List.getElem?_eq_getElem hjw⟩
      obtain ⟨vals3, v3, hv3, hl3, hvj, hent⟩ := I3.ways.get he
      -- a cheaper way
      have fin : Better ws j (c + s.2) → ∀ D : Ends, D.nx = (fun σ G3 => ∃ ws ks o7 o8 o9, σ = [some (V.ref a), some (V.ref f), some (V.ref lf), some (V.ref d), some (V.int (r0 : Int)), some (V.int c), some (V.ref q1), o7, o8, o9] ∧ Keep2 f d Hs G3 ∧
          CwI (stepsOf xs r) (topOf xs) H f d m0 fs (fs.drop i) ws ks G3 ∧ Part ((stepsOf xs r).take (k + 1)) (topOf xs) ws ks r0 c ∧ ws[r0]? = some (some (c, w))) →
          tSeq (tAsg (tTup (tCons (tOp (rI0 fun i j => V.int (i + j)) (tVar 5) (tVar 8)) (tCons (tOp rCat (tVar 6) (tLst (tCons (tVar 7) tNil))) tNil))) (gSub (tVar 1) (tVar 9) L2.rSetL)) (sDPut (tVar 3) (tVar 9) (tC (V.bl true))) D
            [some (V.ref a), some (V.ref f), some (V.ref lf), some (V.ref d), some (V.int (r0 : Int)), some (V.int c), some (V.ref q1), some (V.int s.1), some (V.int s.2), some (V.int (j : Nat))] G3' := fun hb D hD => by
        have hwl : (w.length : Int) ≤ 60 * 120 := by
          have := cst.2.2
          have h2 := cst.2.1
          have : (((topOf xs).toNat : Nat) : Int) * ((120 : Nat) : Int) ≤ 60 * 120 := by omega
          omega
        refine ⟨_, rfl, _, rfl, _, _, rfl, rfl, _, rfl, _, rfl, by simp [sizeLine_eq], fun b hb' => ⟨q1, b, _, _, rfl, rfl, (same_new hb') _ _ hq3, upd_same, by simp [sizeLine_eq]; omega, fun q hq => ⟨by simp [sizeLine_eq], fun p hp => ?_⟩⟩⟩
        have sN := (same_new (o := .lst [V.int s.1]) hb').trans ((same_new (o := .lst (w.map V.int ++ [V.int s.1])) hq).trans (same_new (o := .tup [V.int (c + s.2), V.ref q]) hp))
        have hqq : (upd (upd (upd G3' b (.lst [V.int s.1])) q (.lst (w.map V.int ++ [V.int s.1]))) p (.tup [V.int (c + s.2), V.ref q])) q = some (.lst ((w ++ [s.1]).map V.int)) := by
          rw [(same_new hp) _ _ upd_same, List.map_append]
          rfl
        have hpp : (upd (upd (upd G3' b (.lst [V.int s.1])) q (.lst (w.map V.int ++ [V.int s.1]))) p (.tup [V.int (c + s.2), V.ref q])) p = some (.tup [V.int (c + s.2), V.ref q]) := upd_same
        have hqf : q ≠ f := (ne_of_none ((same_new (o := .lst [V.int s.1]) hb') _ _ hv3) hq).symm
        show gSub (tVar 1) (tVar 9) L2.rSetL _ _ (upd (upd (upd G3' b (.lst [V.int s.1])) q (.lst (w.map V.int ++ [V.int s.1]))) p (.tup [V.int (c + s.2), V.ref q])) _
        generalize (upd (upd (upd G3' b (.lst [V.int s.1])) q (.lst (w.map V.int ++ [V.int s.1]))) p (.tup [V.int (c + s.2), V.ref q])) = Gc at sN hqq hpp
        have hfc := sN _ _ hv3
        have hdc := sN _ _ I3.dict
        have wset := (I3.ways.same sN).set (j := j) hfc hpp hqq hqf
        have hdd : (upd Gc f (.lst (vals3.set j (.ref p)))) d = some (.dK (ksD ks)) := by rw [upd_ne (fun e => fd e.symm)]; exact hdc
        have kl : (ksD ks).length < sizeLine := by
          rw [ksD_len]
          exact sz_lt (by have := I3.ik.len I3.nd; omega)
        refine ⟨_, rfl, _, rfl, f, _, _, j, rfl, rfl, hfc, ixN_nat (by rw [hl3]; exact hjw), ?_⟩
        refine ⟨_, rfl, _, rfl, d, _, rfl, DPut.k (k := .inl (j : Int)) hdd kl, ?_⟩
        rw [hD, putK_ksD]
        obtain ⟨wy2, mlt⟩ := I3.wy.put (s := s) hV hp1 hpm hsm hw3 (by rw [hj]; exact hb)
        rw [hj] at wy2 mlt
        have le := I3.le
        refine ⟨ws.set j (some (c + s.2, w ++ [s.1])), addK ks j, _, _, _, rfl, fun x o hx hxf hxd => ?_, ⟨same_put (same_put (I3.same.trans sN) hfH) hdH, wset.mono fun x o hx ho => ?_, upd_same, wy2, I3.cl.put hjw hb, I3.ik.add hjw I3.wy.len, I3.ifs.put hjw, nodup_addK I3.nd, by omega, fun _ => by omega⟩, ?_, ?_⟩
        · rw [upd_ne hxd, upd_ne hxf]
          exact sN _ _ (kp3 _ _ hx hxf hxd)
        · rw [upd_ne (fun e => by subst e; rw [hdd] at hx; cases hx; exact ho _ rfl)]
          exact hx
        · rw [tk]
          have := pt.put (s := s) (w := w ++ [s.1]) (by rw [hj]; exact hjw) (by rw [hj]; exact hb)
          rw [hj] at this
          exact this
        · rw [List.getElem?_set_ne jr]
          exact hw3
      refine ⟨ps, _, rfl, sqT hp3, rfl, _, _, rfl, _, _, rfl, rfl, ?_⟩
      refine ⟨_, rfl, _, rfl, _, _, rfl, rfl, _, rfl, (hs.same I3.same).tTop ⟨_, _, rfl, rfl, hV, ?_⟩⟩
      show gName 9 (V.int (((r0 : Int) + s.1) % topOf xs)) _ _ _
      rw [← hji]
      cases e with
      | none =>
        obtain rfl : v3 = .non := hent
        refine ⟨_, rfl, _, rfl, f, _, _, _, rfl, rfl, sqL hv3, atI_nat hvj, rfl, true, rfl, iteT (iteT ?_)⟩
        exact fin (fun y z => by rw [cOf_none he] at z; cases z) _ rfl
      | some e =>
        obtain ⟨p3, q3, rfl, hp3', hq3', _, _⟩ := hent
        refine ⟨_, rfl, _, rfl, f, _, _, _, rfl, rfl, sqL hv3, atI_nat hvj, rfl, false, rfl, iteF ?_⟩
        refine ⟨_, rfl, _, rfl, _, _, rfl, rfl, _, rfl, _, rfl, f, _, _, _, rfl, rfl, sqL hv3, atI_nat hvj, p3, _, 0, _, rfl, rfl, sqT hp3', rfl, _, _, rfl, rfl, _, rfl, ite2 (fun z => ?_) fun z => ?_⟩
        · have z := of_decide_eq_true z
          exact fin (fun y hy => by rw [cOf_some he] at hy; cases hy; exact z) _ rfl
        · have z : ¬ c + s.2 < e.1 := by simpa using z
          refine ⟨ws, ks, _, _, _, rfl, kp3, I3, ?_, hw3⟩
          rw [tk]
          exact pt.keep (by rw [hj]; exact cOf_some he) z
    · -- all steps
      rintro σ G3 ⟨ws, ks, o7, o8, o9, rfl, kp3, I3, pt, hw3⟩
      rw [List.length_map, hpll, List.length_map, List.take_length] at pt
      refine ⟨ws, ks, _, _, _, _, _, _, rfl, fun b o hb hbf hbd => kp3 _ _ (ss _ _ (kp2 _ _ hb hbf hbd)) hbf hbd, ⟨I3.same, I3.ways, I3.dict, I3.wy, ?_, I3.ik, I3.ifs, I3.nd, I3.le, I3.lt⟩⟩
      have := I3.cl
      rw [dr] at this
      exact this.next pt
  · -- the round is done
    rintro σ G2 ⟨ws, ks, o4, o5, o6, o7, o8, o9, rfl, kp2, I2⟩
    rw [List.length_map, List.drop_length] at I2
    refine ⟨_, rfl, d, _, rfl, I2.dict, fun lf2 hlf2 => ?_⟩
    have s5 := same_new (o := .lst ((ksD ks).map fun kv => kV kv.1)) hlf2
    obtain ⟨vv, hvv, _⟩ := I2.ways
    have hlf2f : lf2 ≠ f := (ne_of_none hvv hlf2).symm
    refine ⟨2 * mu ((topOf xs).toNat * 120) ws + (if ks = [] then 0 else 1), ?_, ws, ks, lf2, _, _, _, _, _, _, _, rfl, I2.same.trans s5, I2.ways.same s5, ?_, hlf2f, I2.wy, I2.cl.swap, I2.ik, rfl⟩
    · have h1 := I2.le
      have h2 := I2.lt
      rw [hm, if_neg hfs]
      by_cases z : ks = []
      · rw [if_pos z]
        omega
      · rw [if_neg z]
        have := h2 z
        omega
    · rw [upd_same]
      unfold ksD
      rw [List.map_map]
      rfl
end
end K75R
set_option Elab.async false
set_option linter.all false
set_option maxRecDepth 100000
set_option maxHeartbeats 4000000
namespace K75R
open PySem PySem.Spec PyProof.Rows L2
section
variable {P : Program} {w : World} {K : PySem.W.Frag} {mg : Str → Option Value} {base : Heap}
open K75
/-! the excesses -/
def optV : Option Int → V
  | none => .non
  | some x => .int x
/-- the least costs, as a list -/
def Tbl (xs : List Int) (r : Rl) (es : List (Option Int)) : Prop := es.length = (topOf xs).toNat ∧ IsG (stepsOf xs r) (topOf xs) fun i => (es[i]?).join
theorem tbl_of {xs : List Int} {r : Rl} {ws : List Ent} (h : WaysG (stepsOf xs r) (topOf xs) ws) : Tbl xs r (ws.map fun o => o.map Prod.fst) := by
  refine ⟨by rw [List.length_map]; exact h.1.len, ?_⟩
  have e : (fun i : Nat => ((ws.map fun o : Ent => o.map Prod.fst)[i]?).join) = cOf ws := by
    funext i
    rw [List.getElem?_map]
    unfold cOf
    cases ws[i]? with
    | none => rfl
    | some o => cases o <;> rfl
  rw [e]
  exact h.2
def sp_excesses (K : PySem.W.Frag) : Sp := fun vs H Q _ => ∃ (a : Addr) (xs : List Int) (r : Rl), vs = [.ref a] ∧ SysAt K H a xs r ∧ ∀ H' l es, Same H H' → H l = none → H' l = some (.lst (es.map optV)) → Tbl xs r es → Q (.ref l) H'

theorem sc_excesses : FnScope ["system", "pair"] ["system"] (defScope (top 32)) := ⟨rfl, rfl, rfl, by decide +kernel, rfl, by decide +kernel, by decide +kernel⟩
theorem R_excesses (T : Txt K mg) : FnR P w K mg base CX0 5 (ga K "excesses") (sp_excesses K) := by
  obtain ⟨fd, F⟩ := T.excesses.F
  have sc := sc_excesses
  refine Fun.raw F sc (fun vs H Q E h => ?_) (fun _ _ _ _ _ _ us hl => match us, hl with | [_], _ => rfl) (fun cdv A outer s H vs Q E hr h => ?_)
  · obtain ⟨_, _, _, rfl, _⟩ := h
    rfl
  obtain ⟨a, xs, r, rfl, hs, q⟩ := h
  refine ⟨_, (pss_one
    (ps_ret (pe_lc (own := [("pair", 1)]) (by rfl) sc.nd (pi_list (cR T.cheapest_ways (R_cheapest_ways T) hr pass0 (pa_cons (pv 0) pa_nil))) (blkOk_by (N := ["system", "pair"]) (sc := defScope (top 32)) (own := [("pair", 1)]) (by decide +kernel)) (fun _ _ _ _ _ => (pg_name (i := 1) sc.nd rfl (by first | exact Or.inl rfl | exact Or.inr rfl))) (fun _ _ _ _ _ => pts_nil) (fun _ _ _ _ _ => (show PE _ _ (tIf (tTest (tOp (fun x y H Q => y = .non ∧ Q (.bl (decide (x = .non))) H) _ _)) _ (tOp (rIxT K) _ _)) from (pe_ifExp (pt_cmpR op_isN (pv 1) pe_non (nomark _)) pe_non (pe_ix ix_tup (pv 1) pe_int (fun _ _ => rfl)))))))), ?_⟩
  have t := hs.ok.top
  refine ⟨_, rfl, a, xs, r, rfl, hs, fun H1 l ws s1 hnl hw hg => ?_⟩
  obtain ⟨vals, h1, h2, h3⟩ := hw
  have wl := hg.1.len
  refine ⟨l, rfl, ⟨_, sqL h1⟩, fun D hD => lc_map walk_list ((ws.map fun o : Ent => o.map Prod.fst).map optV) (by simp [h2]) (by omega) hD (fun H h => h.seq (sqL h1)) (fun i y H2 H' Ry hi h4 yy ky => ?_) (fun H2 s2 h4 => q _ _ _ (s1.trans s2) (s1.free hD) h4 (tbl_of hg))⟩
  obtain ⟨rfl, hy⟩ := yy
  have hi' : i < ws.length := by omega
  obtain ⟨e, he⟩ : ∃ e, ws[i]? = some e := ⟨_, List.getElem?_eq_getElem hi'⟩
  have ent := h3 i y e hy he
  cases e with
  | none =>
    obtain rfl : y = .non := ent
    refine ⟨rfl, _, rfl, rfl, true, rfl, iteT (ky _ _ ?_ (Same.refl _))⟩
    simp [he, optV]
  | some e =>
    obtain ⟨p, q1, rfl, hp, _⟩ := ent
    refine ⟨rfl, _, rfl, rfl, false, rfl, iteF ⟨_, rfl, p, _, 0, _, rfl, rfl, sqT (h4 _ _ hp), rfl, ky _ _ ?_ (Same.refl _)⟩⟩
    simp [he, optV]
end
end K75R
set_option Elab.async false
set_option linter.all false
/-! Stretches, and the cheapest of each worth. -/
namespace K75
/-- the kinds of rules with one table -/
inductive Kd where | plain | single | next
  deriving DecidableEq
def stStep (k : Kd) (st : List (List Int) × List (List Int)) (v : Int) : List (List Int) × List (List Int) :=
  (st.1 ++ st.2.map (· ++ [v]), match k with | .next => st.2 ++ st.2.map (· ++ [v]) | .single => st.2 ++ [[v]] | .plain => st.2)
def stretchSt (k : Kd) (xs : List Int) : List (List Int) × List (List Int) := xs.foldl (stStep k) ([], [[]])
def stretchesF (k : Kd) (xs : List Int) : List (List Int) := (stretchSt k xs).1
theorem stretchSt_snoc (k : Kd) (xs : List Int) (v : Int) : stretchSt k (xs ++ [v]) = stStep k (stretchSt k xs) v := by
  unfold stretchSt
  rw [List.foldl_append]
  rfl
/-- what the lists of a stretch are -/
def Below (k : Kd) (xs l : List Int) : Prop := (∀ a ∈ l, a ∈ xs) ∧ (k = .plain → l = []) ∧ l.length ≤ xs.length
theorem stretch_inv (k : Kd) : ∀ xs : List Int,
    (∀ l ∈ (stretchSt k xs).2, Below k xs l) ∧ (∀ z ∈ (stretchSt k xs).1, ∃ l v, z = l ++ [v] ∧ v ∈ xs ∧ Below k xs l ∧ (xs.Pairwise (· < ·) → ∀ a ∈ l, a < v) ∧ l.length + 1 ≤ xs.length) ∧ [] ∈ (stretchSt k xs).2 ∧ (k ≠ .plain → ∀ v ∈ xs, [v] ∈ (stretchSt k xs).2) ∧
    (∀ v ∈ xs, [v] ∈ (stretchSt k xs).1) ∧ (k ≠ .plain → ∀ (i j : Nat) a b, i < j → xs[i]? = some a → xs[j]? = some b → [a, b] ∈ (stretchSt k xs).1) ∧ (stretchSt k xs).2.length ≤ 2 ^ xs.length ∧ (stretchSt k xs).1.length + 1 ≤ 2 ^ xs.length := by
  refine snoc_ind ?_ ?_
  · refine ⟨fun l hl => ?_, fun z hz => ?_, ?_, fun _ v hv => ?_, fun v hv => ?_, fun _ i j a b _ h => ?_, ?_, ?_⟩
    · have : l = [] := by simpa [stretchSt] using hl
      subst this
      exact ⟨by simp, fun _ => rfl, by simp⟩
    · simp [stretchSt] at hz
    · simp [stretchSt]
    · simp at hv
    · simp at hv
    · simp at h
    · simp [stretchSt]
    · simp [stretchSt]
  · intro xs v ⟨i1, i2, i3, i4, i5, i6, i7, i8⟩
    have up : ∀ {l}, Below k xs l → Below k (xs ++ [v]) l := fun {l} h => ⟨fun a ha => List.mem_append_left _ (h.1 a ha), h.2.1, by have := h.2.2; simp; omega⟩
    rw [stretchSt_snoc]
    unfold stStep
    have mb : ∀ l ∈ (stretchSt k xs).2, l ∈ (match k with | .next => (stretchSt k xs).2 ++ (stretchSt k xs).2.map (· ++ [v]) | .single => (stretchSt k xs).2 ++ [[v]] | .plain => (stretchSt k xs).2) := by
      intro l hl
      cases k
      · exact hl
      · exact List.mem_append_left _ hl
      · exact List.mem_append_left _ hl
    refine ⟨fun l hl => ?_, fun z hz => ?_, mb _ i3, fun hk u hu => ?_, fun u hu => ?_, fun hk i j a b hij ha hb => ?_, ?_, ?_⟩
    · cases k with
      | plain => exact up (i1 l hl)
      | single =>
        rcases List.mem_append.mp hl with hl | hl
        · exact up (i1 l hl)
        · rw [List.mem_singleton.mp hl]
          exact ⟨by simp, (fun z => by cases z), by simp⟩
      | next =>
        rcases List.mem_append.mp hl with hl | hl
        · exact up (i1 l hl)
        · obtain ⟨m, hm, rfl⟩ := List.mem_map.mp hl
          have := i1 m hm
          refine ⟨fun a ha => ?_, (fun z => by cases z), by have := this.2.2; simp; omega⟩
          rcases List.mem_append.mp ha with ha | ha
          · exact List.mem_append_left _ (this.1 a ha)
          · exact List.mem_append_right _ ha
    · rcases List.mem_append.mp hz with hz | hz
      · obtain ⟨l, u, e, hu, hl, hlt, hll⟩ := i2 z hz
        exact ⟨l, u, e, List.mem_append_left _ hu, up hl, fun pw => hlt (List.pairwise_append.mp pw).1, by simp; omega⟩
      · obtain ⟨l, hl, rfl⟩ := List.mem_map.mp hz
        exact ⟨l, v, rfl, by simp, up (i1 l hl), fun pw a ha => (List.pairwise_append.mp pw).2.2 a ((i1 l hl).1 a ha) v (by simp), by have := (i1 l hl).2.2; simp; omega⟩
    · rcases List.mem_append.mp hu with hu | hu
      · exact mb _ (i4 hk u hu)
      · rw [List.mem_singleton.mp hu]
        cases k with
        | plain => exact absurd rfl hk
        | single => simp
        | next => exact List.mem_append_right _ (List.mem_map.mpr ⟨[], i3, rfl⟩)
    · rcases List.mem_append.mp hu with hu | hu
      · exact List.mem_append_left _ (i5 u hu)
      · rw [List.mem_singleton.mp hu]
        exact List.mem_append_right _ (List.mem_map.mpr ⟨[], i3, rfl⟩)
    · by_cases hj : j < xs.length
      · rw [List.getElem?_append_left hj] at hb
        rw [List.getElem?_append_left (by omega)] at ha
        exact List.mem_append_left _ (i6 hk i j a b hij ha hb)
      · have : j = xs.length := by
          have := (List.getElem?_eq_some_iff.mp hb).1
          simp at this
          omega
        subst this
        rw [List.getElem?_append_left (by omega)] at ha
        have hb : v = b := by simpa using hb
        subst hb
        exact List.mem_append_right _ (List.mem_map.mpr ⟨[a], i4 hk a (List.mem_of_getElem? ha), rfl⟩)
    · rw [List.length_append, List.length_singleton, Nat.pow_succ]
      have : 0 < 2 ^ xs.length := Nat.pow_pos (by omega)
      cases k with
      | plain => dsimp; omega
      | single => simp; omega
      | next => simp; omega
    · rw [List.length_append, List.length_append, List.length_singleton, List.length_map, Nat.pow_succ]
      omega
theorem stretch_form {k : Kd} {xs : List Int} {z : List Int} (h : z ∈ stretchesF k xs) : ∃ l v, z = l ++ [v] ∧ v ∈ xs ∧ Below k xs l ∧ (xs.Pairwise (· < ·) → ∀ a ∈ l, a < v) ∧ l.length + 1 ≤ xs.length := (stretch_inv k xs).2.1 z h
theorem stretch_one {k : Kd} {xs : List Int} {v : Int} (h : v ∈ xs) : [v] ∈ stretchesF k xs := (stretch_inv k xs).2.2.2.2.1 v h
theorem stretch_two {k : Kd} (hk : k ≠ .plain) {xs : List Int} {i j : Nat} {a b : Int} (hij : i < j) (ha : xs[i]? = some a) (hb : xs[j]? = some b) : [a, b] ∈ stretchesF k xs := (stretch_inv k xs).2.2.2.2.2.1 hk i j a b hij ha hb
theorem stretch_len (k : Kd) (xs : List Int) : (stretchesF k xs).length + 1 ≤ 2 ^ xs.length := (stretch_inv k xs).2.2.2.2.2.2.2
/-! ### worth -/
def worthF (z : List Int) : Int := z.getLastD 0 - z.dropLast.sum
theorem worth_snoc (l : List Int) (v : Int) : worthF (l ++ [v]) = v - l.sum := by
  unfold worthF
  rw [List.dropLast_concat, List.getLastD_eq_getLast?, List.getLast?_append]
  simp
/-! ### tables from ints: value, address, list -/
abbrev Tri := Int × Nat × List Int
/-- by the key -/
def findA (A : List Tri) (v : Int) : Option Tri := A.find? fun e => decide (e.1 = v)
def putA (A : List Tri) (v : Int) (p : Nat) (z : List Int) : List Tri := if (A.any fun e => decide (e.1 = v)) = true then A.map (fun e => if e.1 = v then (e.1, p, z) else e) else A ++ [(v, p, z)]
theorem mem_putA {A : List Tri} {v : Int} {p : Nat} {z : List Int} {e : Tri} (h : e ∈ putA A v p z) : (e ∈ A ∧ e.1 ≠ v) ∨ e = (v, p, z) := by
  unfold putA at h
  split at h
  · obtain ⟨x, hx, rfl⟩ := List.mem_map.mp h
    split
    · rename_i e
      exact .inr (by rw [e])
    · rename_i e
      exact .inl ⟨hx, e⟩
  · rename_i hn
    rcases List.mem_append.mp h with h | h
    · refine .inl ⟨h, fun e2 => hn ?_⟩
      rw [List.any_eq_true]
      exact ⟨e, h, by simpa using e2⟩
    · exact .inr (List.mem_singleton.mp h)
theorem putA_mem {A : List Tri} {v : Int} {p : Nat} {z : List Int} : (v, p, z) ∈ putA A v p z := by
  unfold putA
  split
  · rename_i h
    obtain ⟨x, hx, e⟩ := List.any_eq_true.mp h
    have e : x.1 = v := by simpa using e
    refine List.mem_map.mpr ⟨x, hx, ?_⟩
    rw [if_pos e, e]
  · simp
theorem putA_keep {A : List Tri} {v : Int} {p : Nat} {z : List Int} {e : Tri} (h : e ∈ A) (hv : e.1 ≠ v) : e ∈ putA A v p z := by
  unfold putA
  split
  · exact List.mem_map.mpr ⟨e, h, if_neg hv⟩
  · exact List.mem_append_left _ h
theorem putA_keys {A : List Tri} {v : Int} {p : Nat} {z : List Int} (nd : (A.map (·.1)).Nodup) : ((putA A v p z).map (·.1)).Nodup := by
  unfold putA
  split
  · rw [List.map_map]
    have : (A.map ((·.1) ∘ fun e : Tri => if e.1 = v then (e.1, p, z) else e)) = A.map (·.1) := by
      apply List.map_congr_left
      intro e _
      dsimp
      split <;> rfl
    rw [this]
    exact nd
  · rename_i hn
    rw [List.map_append]
    refine List.nodup_append.mpr ⟨nd, by simp, fun a ha b hb => ?_⟩
    have hb : b = v := by simpa using hb
    subst hb
    obtain ⟨x, hx, rfl⟩ := List.mem_map.mp ha
    intro e
    exact hn (List.any_eq_true.mpr ⟨x, hx, by simpa using e⟩)
theorem putA_len (A : List Tri) (v : Int) (p : Nat) (z : List Int) : (putA A v p z).length ≤ A.length + 1 := by
  unfold putA
  split <;> simp
theorem findA_some {A : List Tri} {v : Int} {e : Tri} (h : findA A v = some e) : e ∈ A ∧ e.1 = v := by
  unfold findA at h
  exact ⟨List.mem_of_find?_eq_some h, by simpa using List.find?_some h⟩
theorem findA_none {A : List Tri} {v : Int} (h : findA A v = none) : ∀ e ∈ A, e.1 ≠ v := by
  unfold findA at h
  intro e he
  simpa using List.find?_eq_none.mp h e he
theorem findA_of {A : List Tri} (nd : (A.map (·.1)).Nodup) {e : Tri} (h : e ∈ A) : findA A e.1 = some e := by
  induction A with
  | nil => cases h
  | cons x A ih =>
    rw [List.map_cons, List.nodup_cons] at nd
    unfold findA
    rw [List.find?_cons]
    rcases List.mem_cons.mp h with rfl | h
    · simp
    · have : x.1 ≠ e.1 := fun z => nd.1 (List.mem_map.mpr ⟨e, h, z.symm⟩)
      simp [this]
      exact ih nd.2 h
/-- what cheapest_by_worth has after the pieces zs -/
structure Cbw (zs : List (List Int)) (A : List Tri) : Prop where
  nd : (A.map (·.1)).Nodup
  src : ∀ e ∈ A, e.2.2 ∈ zs ∧ e.1 = worthF e.2.2
  all : ∀ z ∈ zs, ∃ e ∈ A, e.1 = worthF z ∧ e.2.2.length ≤ z.length
  few : A.length ≤ zs.length
theorem Cbw.nil : Cbw [] [] := ⟨by simp, by simp, by simp, by simp⟩
theorem Cbw.put {zs : List (List Int)} {A : List Tri} {z : List Int} {p : Nat} (h : Cbw zs A) (hb : ∀ e ∈ A, e.1 = worthF z → z.length < e.2.2.length) : Cbw (zs ++ [z]) (putA A (worthF z) p z) := by
  refine ⟨putA_keys h.nd, fun e he => ?_, fun y hy => ?_, by have := h.few; have := putA_len A (worthF z) p z; simp; omega⟩
  · rcases mem_putA he with ⟨h1, _⟩ | rfl
    · exact ⟨List.mem_append_left _ (h.src e h1).1, (h.src e h1).2⟩
    · exact ⟨by simp, rfl⟩
  · by_cases e : worthF y = worthF z
    · refine ⟨_, putA_mem, e.symm, ?_⟩
      rcases List.mem_append.mp hy with hy | hy
      · obtain ⟨x, hx, h1, h2⟩ := h.all y hy
        have := hb x hx (h1.trans e)
        dsimp
        omega
      · rw [List.mem_singleton.mp hy]
        exact Nat.le_refl _
    · rcases List.mem_append.mp hy with hy | hy
      · obtain ⟨x, hx, h1, h2⟩ := h.all y hy
        exact ⟨x, putA_keep hx (fun z => e (h1.symm.trans z)), h1, h2⟩
      · rw [List.mem_singleton.mp hy] at e
        exact absurd rfl e
theorem Cbw.keep {zs : List (List Int)} {A : List Tri} {z : List Int} (h : Cbw zs A) {e : Tri} (he : e ∈ A) (h1 : e.1 = worthF z) (h2 : ¬ z.length < e.2.2.length) : Cbw (zs ++ [z]) A := by
  refine ⟨h.nd, fun e he => ⟨List.mem_append_left _ (h.src e he).1, (h.src e he).2⟩, fun y hy => ?_, by have := h.few; simp; omega⟩
  rcases List.mem_append.mp hy with hy | hy
  · exact h.all y hy
  · rw [List.mem_singleton.mp hy]
    exact ⟨e, he, h1, by omega⟩
end K75
set_option Elab.async false
set_option linter.all false
set_option maxRecDepth 100000
set_option maxHeartbeats 4000000
namespace K75R
open PySem PySem.Spec PyProof.Rows L2
section
variable {P : Program} {w : World} {K : PySem.W.Frag} {mg : Str → Option Value} {base : Heap}
open K75
/-! lists of lists -/
/-- a list at a whose items are lists, none of them f -/
def ListsAt (H : Hp) (f a : Addr) (zss : List (List Int)) : Prop := ∃ ps : List Addr, H a = some (.lst (ps.map V.ref)) ∧ ps.length = zss.length ∧ ∀ (i : Nat) p z, ps[i]? = some p → zss[i]? = some z → H p = some (.lst (z.map V.int)) ∧ p ≠ f
theorem ListsAt.mono {H H' : Hp} {f a : Addr} {zss : List (List Int)} (h : ListsAt H f a zss) (ha : a ≠ f) (k : ∀ b o, H b = some o → b ≠ f → H' b = some o) : ListsAt H' f a zss := by
  obtain ⟨ps, h1, h2, h3⟩ := h
  exact ⟨ps, k _ _ h1 ha, h2, fun i p z e1 e2 => ⟨k _ _ (h3 i p z e1 e2).1 (h3 i p z e1 e2).2, (h3 i p z e1 e2).2⟩⟩
theorem ListsAt.same {H H' : Hp} {f a : Addr} {zss : List (List Int)} (h : ListsAt H f a zss) (k : Same H H') : ListsAt H' f a zss := by
  obtain ⟨ps, h1, h2, h3⟩ := h
  exact ⟨ps, k _ _ h1, h2, fun i p z e1 e2 => ⟨k _ _ (h3 i p z e1 e2).1, (h3 i p z e1 e2).2⟩⟩
/-- two of them behind each other, at a new address or at f itself -/
theorem ListsAt.cat {H : Hp} {f a b l : Addr} {xss yss : List (List Int)} {us vs : List V} (h : ListsAt H f a xss) (h' : ListsAt H f b yss) (e : H a = some (.lst us)) (e' : H b = some (.lst vs)) (hl : H l = none ∨ l = f) : ListsAt (upd H l (.lst (us ++ vs))) f l (xss ++ yss) := by
  obtain ⟨ps, h1, h2, h3⟩ := h
  obtain ⟨qs, k1, k2, k3⟩ := h'
  rw [e] at h1
  rw [e'] at k1
  cases h1
  cases k1
  have ne : ∀ {p : Addr} {z : List Int}, H p = some (.lst (z.map V.int)) → p ≠ f → p ≠ l := fun {p z} hp hf e => by
    subst e
    rcases hl with hl | hl
    · rw [hp] at hl; cases hl
    · exact hf hl
  refine ⟨ps ++ qs, by rw [upd_same, List.map_append], by simp [h2, k2], fun i p z e1 e2 => ?_⟩
  by_cases hi : i < ps.length
  · rw [List.getElem?_append_left hi] at e1
    rw [List.getElem?_append_left (by omega)] at e2
    obtain ⟨m1, m2⟩ := h3 i p z e1 e2
    exact ⟨by rw [upd_ne (ne m1 m2)]; exact m1, m2⟩
  · rw [List.getElem?_append_right (by omega)] at e1 e2
    rw [h2] at e1
    obtain ⟨m1, m2⟩ := k3 _ p z e1 e2
    exact ⟨by rw [upd_ne (ne m1 m2)]; exact m1, m2⟩
theorem ListsAt.item {H : Hp} {f : Addr} {zss : List (List Int)} {ps : List Addr} (h2 : ps.length = zss.length) (h3 : ∀ (i : Nat) p z, ps[i]? = some p → zss[i]? = some z → H p = some (.lst (z.map V.int)) ∧ p ≠ f) {i : Nat} {x : V} (e : (ps.map V.ref)[i]? = some x) :
    ∃ p z, x = .ref p ∧ zss[i]? = some z ∧ H p = some (.lst (z.map V.int)) ∧ p ≠ f := by
  obtain ⟨p, hp, rfl⟩ := mapI e
  obtain ⟨hi, _⟩ := List.getElem?_eq_some_iff.mp hp
  have hi' : i < zss.length := by omega
  exact ⟨p, zss[i], rfl, by simp [hi'], h3 i p _ hp (by simp [hi'])⟩
/-- a comprehension whose items are new lists -/
theorem lc_lists {J : It} {n : Nat} {G : Hp → Prop} {Y : Nat → Hp → V → Hp → Prop} (w : Walk J n G Y) {g : TG} {te : TE} {vs : List Nat} {σ : L2.St} {H1 : Hp} {D f : Addr} {Qd : Hp → Prop} (zss : List (List Int)) (hl : zss.length = n) (hn : n ≤ 1000000) (hD : H1 D = none) (hf : ∃ o, H1 f = some o)
    (hG : ∀ H, Same H1 H → G H)
    (hs : ∀ i x H H' (Ry : VK), i < n → Same H1 H → Y i H x H' → (∀ p z H4, zss[i]? = some z → H p = none → Same H H4 → H4 p = some (.lst (z.map V.int)) → Ry (.ref p) H4) → g x (wipe σ vs) H' fun σ2 H2 => wipe σ2 vs = wipe σ vs ∧ te σ2 H2 Ry)
    (hd : ∀ H, Same H1 H → ListsAt H f D zss → Qd H) :
    ∃ W : Nat → Nat → Hp → Prop, (∃ m, W 0 m (upd H1 D (.lst []))) ∧ ∀ i m H, W i m H →
      (J.stop i H ∧ Qd H) ∨ (J.go i H ∧ ∃ Nx : Hp → Prop, (∀ H', Nx H' → ∃ m', m' < m ∧ W (i + 1) m' H') ∧ ∀ x H', J.yld i H x H' → g x (wipe σ vs) H' fun σ2 H2 => wipe σ2 vs = wipe σ vs ∧ tYes σ2 H2 fun b H3 =>
        if b = true then te σ2 H3 fun y H4 => ∃ acc, H4 D = some (.lst acc) ∧ acc.length < sizeLine ∧ Nx (upd H4 D (.lst (acc ++ [y]))) else Nx H3) := by
  refine lc_it w (Pv := fun i H => Same H1 H ∧ ∃ ps : List Addr, H D = some (.lst (ps.map V.ref)) ∧ ps.length = (zss.take i).length ∧ ∀ (j : Nat) p z, ps[j]? = some p → (zss.take i)[j]? = some z → H p = some (.lst (z.map V.int)) ∧ p ≠ f ∧ p ≠ D) ⟨same_new hD, [], upd_same, rfl, fun j p z q => by simp at q⟩
    (fun i H _ h => hG H h.1) (fun i x H H' hi ⟨h1, ps, e1, e2, e3⟩ y => ?_) fun H ⟨h1, ps, e1, e2, e3⟩ => hd H h1 ⟨ps, e1, by rw [e2, ← hl, List.take_length], fun j p z q1 q2 => ?_⟩
  · refine hs i x H H' (fun y H4 => ∃ acc, H4 D = some (.lst acc) ∧ acc.length < sizeLine ∧ Same H1 (upd H4 D (.lst (acc ++ [y]))) ∧ ∃ ps : List Addr, (upd H4 D (.lst (acc ++ [y]))) D = some (.lst (ps.map V.ref)) ∧ ps.length = (zss.take (i + 1)).length ∧
      ∀ (j : Nat) p z, ps[j]? = some p → (zss.take (i + 1))[j]? = some z → (upd H4 D (.lst (acc ++ [y]))) p = some (.lst (z.map V.int)) ∧ p ≠ f ∧ p ≠ D) hi h1 y (fun p z H4 e np sm hp => ?_)
    have pD : p ≠ D := fun q => by subst q; rw [e1] at np; cases np
    have pf : p ≠ f := fun q => by
      obtain ⟨o, ho⟩ := hf
      subst q
      rw [h1 _ _ ho] at np; cases np
    refine ⟨_, sm _ _ e1, by rw [List.length_map, e2, List.length_take]; exact sz_lt (by omega), ?_, ps ++ [p], by rw [upd_same, List.map_append] <;> rfl, ?_, ?_⟩
    · intro b o hb
      rw [upd_ne (ne_of_none hb hD)]
      exact sm _ _ (h1 _ _ hb)
    · rw [List.take_add_one, e]
      simp [e2]
    · intro j q u q1 q2
      rw [List.take_add_one, e] at q2
      by_cases hj : j < ps.length
      · rw [List.getElem?_append_left hj] at q1
        rw [List.getElem?_append_left (by omega)] at q2
        obtain ⟨m1, m2, m3⟩ := e3 j q u q1 q2
        exact ⟨by rw [upd_ne m3]; exact sm _ _ m1, m2, m3⟩
      · rw [List.getElem?_append_right (by omega)] at q1 q2
        have e0 : j - ps.length = 0 := by
          by_cases z : j - ps.length = 0
          · exact z
          · rw [List.getElem?_eq_none (by simp; omega)] at q1; cases q1
        rw [e0] at q1
        rw [← e2, e0] at q2
        obtain rfl : p = q := by simpa using q1
        obtain rfl : z = u := by simpa using q2
        exact ⟨by rw [upd_ne pD]; exact hp, pf, pD⟩
  · rw [← hl, List.take_length] at e3
    exact ⟨(e3 j p z q1 q2).1, (e3 j p z q1 q2).2.1⟩
/-! stretches -/
def kdOf : Rl → Kd | .plain => .plain | .single => .single | _ => .next
/-- the rules with one table -/
def one (r : Rl) : Prop := r = .plain ∨ r = .single ∨ r = .next
def sp_stretches (K : PySem.W.Frag) : Sp := fun vs H Q _ => ∃ (a : Addr) (xs : List Int) (r : Rl), vs = [.ref a] ∧ SysAt K H a xs r ∧ one r ∧ ∀ H' l, Same H H' → H l = none → ListsAt H' l l (stretchesF (kdOf r) xs) → Q (.ref l) H'

theorem sc_stretches_of : FnScope ["system", "found", "below", "value", "lower"] ["system"] (defScope (top 34)) := ⟨rfl, rfl, rfl, by decide +kernel, rfl, by decide +kernel, by decide +kernel⟩
theorem R_stretches_of (T : Txt K mg) : FnR P w K mg base CX0 3 (ga K "stretches_of") (sp_stretches K) := by
  obtain ⟨fd, F⟩ := T.stretches_of.F
  have sc := sc_stretches_of
  refine Fun.raw F sc (fun vs H Q E h => ?_) (fun _ _ _ _ _ _ us hl => match us, hl with | [_], _ => rfl) (fun cdv A outer s H vs Q E hr h => ?_)
  · obtain ⟨_, _, _, rfl, _⟩ := h
    rfl
  obtain ⟨a, xs, r, rfl, hs, one, q⟩ := h
  refine ⟨_, (pss_cons
    (ps_set (i := 1) sc.nd rfl (by first | exact Or.inl rfl | exact Or.inr rfl) (pe_lst pa_nil))
    (pss_cons
    (ps_set (i := 2) sc.nd rfl (by first | exact Or.inl rfl | exact Or.inr rfl) (pe_lst (pa_cons (pe_lst pa_nil) pa_nil)))
    (pss_cons
    (ps_for PassesOwn.never rfl (pi_list (pe_row T hr (pv 0))) (pg_name (i := 3) sc.nd rfl (by first | exact Or.inl rfl | exact Or.inr rfl))
      (pss_cons
      (ps_expr (pe_bm PySem.F.plainAttrs_list PySem.F.slot_list_extend PySem.F.type_list_extend mt_extend (pv 1) (pa_cons (pe_lc (own := [("lower", 4)]) (by rfl) sc.nd (pi_list (pv 2)) (blkOk_by (N := ["system", "found", "below", "value", "lower"]) (sc := defScope (top 34)) (own := [("lower", 4)]) (by decide +kernel)) (fun _ _ _ _ _ => (pg_name (i := 4) sc.nd rfl (by first | exact Or.inl rfl | exact Or.inr rfl))) (fun _ _ _ _ _ => pts_nil) (fun _ _ _ _ _ => (pe_op op_cat (pv 4) (pe_lst (pa_cons (pv 3) pa_nil))))) pa_nil)))
      (pss_one
      (ps_if (pt_cmpR op_eq (pe_rule T hr (pv 0)) (pe_gstr T.c_NEXT) (nomark _))
        (pss_one
        (ps_set (i := 2) sc.nd rfl (by first | exact Or.inl rfl | exact Or.inr rfl) (pe_op op_cat (pv 2) (pe_lc (own := [("lower", 4)]) (by rfl) sc.nd (pi_list (pv 2)) (blkOk_by (N := ["system", "found", "below", "value", "lower"]) (sc := defScope (top 34)) (own := [("lower", 4)]) (by decide +kernel)) (fun _ _ _ _ _ => (pg_name (i := 4) sc.nd rfl (by first | exact Or.inl rfl | exact Or.inr rfl))) (fun _ _ _ _ _ => pts_nil) (fun _ _ _ _ _ => (pe_op op_cat (pv 4) (pe_lst (pa_cons (pv 3) pa_nil))))))))
        (pss_one
        (ps_if (pt_cmpR op_eq (pe_rule T hr (pv 0)) (pe_gstr T.c_SINGLE) (nomark _))
          (pss_one
          (ps_set (i := 2) sc.nd rfl (by first | exact Or.inl rfl | exact Or.inr rfl) (pe_op op_cat (pv 2) (pe_lst (pa_cons (pe_lst (pa_cons (pv 3) pa_nil)) pa_nil)))))
          pss_nil))))))
    (pss_one
    (ps_ret (pv 1)))))), ?_⟩
  have l6 := hs.ok.len
  refine ⟨by simp [sizeLine_eq], fun f hf => ?_⟩
  have s0 : Same H (upd H f (.lst [])) := same_new hf
  refine ⟨by simp [sizeLine_eq], fun e he => ⟨by simp [sizeLine_eq], fun b0 hb0 => ?_⟩⟩
  have s1 := (same_new (o := .lst []) he).trans (same_new (o := .lst [V.ref e]) hb0)
  have hf1 := s1 _ _ (show (upd H f (.lst [])) f = some (.lst []) from upd_same)
  have ef : e ≠ f := (ne_of_none (show (upd H f (.lst [])) f = some (.lst []) from upd_same) he).symm
  have b0f : b0 ≠ f := (ne_of_none ((same_new (o := .lst []) he) _ _ (show (upd H f (.lst [])) f = some (.lst []) from upd_same)) hb0).symm
  have B0 : ListsAt (upd (upd (upd H f (.lst [])) e (.lst [])) b0 (.lst [V.ref e])) f b0 [[]] := ⟨[e], upd_same, rfl, fun i p z q1 q2 => by
    cases i with
    | zero =>
      obtain rfl : e = p := by simpa using q1
      obtain rfl : [] = z := by simpa using q2
      exact ⟨(same_new hb0) _ _ upd_same, ef⟩
    | succ i => simp at q1⟩
  have s2 := s0.trans s1
  generalize (upd (upd (upd H f (.lst [])) e (.lst [])) b0 (.lst [V.ref e])) = Hb at hf1 B0 s2
  refine ⟨_, rfl, (hs.same s2).tRow fun p hp => ?_⟩
  have pf : p ≠ f := (ne_of_none hf1 hp).symm
  have s3 := same_new (o := .lst (xs.map V.int)) hp
  have F0 : ListsAt (upd Hb p (.lst (xs.map V.int))) f f [] := ⟨[], s3 _ _ hf1, rfl, fun i p z q => by simp at q⟩
  have B1 := B0.same s3
  have hrow : (upd Hb p (.lst (xs.map V.int))) p = some (.lst (xs.map V.int)) := upd_same
  have s4 := s2.trans s3
  generalize (upd Hb p (.lst (xs.map V.int))) = H0 at F0 B1 hrow s4
  refine ⟨p, rfl, ⟨_, sqL hrow⟩, for_it (walk_list (xs := xs.map V.int)) (fun i σ H2 => (∀ c o, H0 c = some o → c ≠ f → H2 c = some o) ∧ Same H H2 ∧ ∃ b o3 o4, σ = [some (V.ref a), some (V.ref f), some (V.ref b), o3, o4] ∧ b ≠ f ∧ ListsAt H2 f f (stretchSt (kdOf r) (xs.take i)).1 ∧ ListsAt H2 f b (stretchSt (kdOf r) (xs.take i)).2)
    ⟨fun _ _ h _ => h, s4, b0, _, _, rfl, b0f, F0, B1⟩ (fun i σ H2 _ h => sqL (h.1 _ _ hrow pf)) ?_ ?_⟩
  · rintro i y σ H2 H' hi ⟨k2, s5, b, o3, o4, rfl, hbf, F2, B2⟩ ⟨rfl, hy⟩
    obtain ⟨v, hv, rfl⟩ := mapI hy
    have hi' : i < xs.length := by simpa using hi
    have tk : stretchSt (kdOf r) (xs.take (i + 1)) = stStep (kdOf r) (stretchSt (kdOf r) (xs.take i)) v := by
      rw [List.take_add_one, hv]
      exact stretchSt_snoc _ _ _
    have bl := (stretch_inv (kdOf r) (xs.take i)).2.2.2.2.2.2
    have tl : (xs.take i).length ≤ 5 := by rw [List.length_take]; omega
    have pw : 2 ^ (xs.take i).length ≤ 2 ^ 5 := Nat.pow_le_pow_right (by decide) tl
    have bw := (stretch_inv (kdOf r) (xs.take i)).1
    generalize stretchSt (kdOf r) (xs.take i) = st at F2 B2 tk bl bw
    obtain ⟨ps, b1, b2, b3⟩ := B2
    obtain ⟨fs, f1, f2, f3⟩ := F2
    have lim : st.2.length ≤ 32 := by omega
    have lim1 : st.1.length ≤ 32 := by omega
    -- the comprehension, wherever it stands
    have comp : ∀ (G : Hp) (o4' : Option V) (Q' : VK), ListsAt G f b st.2 → (∃ o, G f = some o) → (∀ D G2, G D = none → Same G G2 → ListsAt G2 f D (st.2.map (· ++ [v])) → Q' (.ref D) G2) →
        tLc (iList K (tVar 2)) (gName 4) tYes (tOp rCat (tVar 4) (tLst (tCons (tVar 3) tNil))) [4] [some (V.ref a), some (V.ref f), some (V.ref b), some (V.int v), o4'] G Q' := fun G o4' Q' BG fG hQ => by
      obtain ⟨ps, b1, b2, b3⟩ := BG
      refine ⟨_, rfl, b, rfl, ⟨_, sqL b1⟩, fun D hD => ?_⟩
      refine lc_lists walk_list (f := f) (st.2.map (· ++ [v])) (by simp [b2]) (by simp; omega) hD fG (fun G2 h => sqL (h _ _ b1)) (fun j y G2 G2' Ry hj h1 yy ky => ?_) (fun G2 h1 h2 => hQ D G2 hD h1 h2)
      obtain ⟨rfl, hy⟩ := yy
      obtain ⟨p1, z, rfl, hz, hp1, _⟩ := ListsAt.item b2 b3 hy
      have zb : z.length ≤ 5 := by
        have := (bw z (List.mem_of_getElem? hz)).2.2
        omega
      refine ⟨rfl, _, rfl, _, rfl, by simp [sizeLine_eq], fun t ht => ⟨p1, t, _, _, rfl, rfl, (same_new ht) _ _ (h1 _ _ hp1), upd_same, by simp [sizeLine_eq]; omega, fun u hu => ?_⟩⟩
      refine ky u (z ++ [v]) _ (by simp [hz]) ((same_new ht).free hu) ((same_new ht).trans (same_new hu)) ?_
      rw [upd_same, List.map_append]
      rfl
    refine ⟨_, rfl, .inl ⟨rfl, _, sqL f1⟩, comp _ _ _ ⟨ps, b1, b2, b3⟩ ⟨_, f1⟩ fun D G2 hD sG2 hD2 => ?_⟩
    obtain ⟨ds, d1, d2, d3⟩ := id hD2
    refine ⟨f, D, _, _, rfl, rfl, sG2 _ _ f1, d1, by simp [d2, f2, sizeLine_eq]; omega, ?_⟩
    have Df : D ≠ f := (ne_of_none f1 hD).symm
    have F3 := (ListsAt.same ⟨fs, f1, f2, f3⟩ sG2).cat hD2 (sG2 _ _ f1) d1 (.inr rfl)
    have B3 : ListsAt (upd G2 f (.lst (fs.map V.ref ++ ds.map V.ref))) f b st.2 := (ListsAt.same ⟨ps, b1, b2, b3⟩ sG2).mono hbf fun c o hc hcf => by rw [upd_ne hcf]; exact hc
    have k3 : ∀ c o, H0 c = some o → c ≠ f → (upd G2 f (.lst (fs.map V.ref ++ ds.map V.ref))) c = some o := fun c o hc hcf => by rw [upd_ne hcf]; exact sG2 _ _ (k2 _ _ hc hcf)
    have s6 : Same H (upd G2 f (.lst (fs.map V.ref ++ ds.map V.ref))) := same_put (s5.trans sG2) hf
    have hf3 : (upd G2 f (.lst (fs.map V.ref ++ ds.map V.ref))) f = some (.lst (fs.map V.ref ++ ds.map V.ref)) := upd_same
    generalize (upd G2 f (.lst (fs.map V.ref ++ ds.map V.ref))) = G3 at F3 B3 k3 s6 hf3
    refine ⟨_, rfl, (hs.same s6).tRule ⟨rfl, _, rfl, ?_⟩⟩
    rcases one with rfl | rfl | rfl
    · -- plain
      refine iteF ⟨_, rfl, (hs.same s6).tRule ⟨rfl, _, rfl, iteF ⟨k3, s6, b, _, _, rfl, hbf, ?_, ?_⟩⟩⟩
      · rw [tk]; exact F3
      · rw [tk]; exact B3
    · -- single
      refine iteF ⟨_, rfl, (hs.same s6).tRule ⟨rfl, _, rfl, iteT ?_⟩⟩
      obtain ⟨qs, g1, g2, g3⟩ := id B3
      refine ⟨_, rfl, _, rfl, by simp [sizeLine_eq], fun w1 hw1 => ⟨by simp [sizeLine_eq], fun w2 hw2 => ?_⟩⟩
      have s7 := (same_new (o := .lst [V.int v]) hw1).trans (same_new (o := .lst [V.ref w1]) hw2)
      have w1f : w1 ≠ f := (ne_of_none hf3 hw1).symm
      have w2f : w2 ≠ f := (ne_of_none ((same_new (o := .lst [V.int v]) hw1) _ _ hf3) hw2).symm
      have W : ListsAt (upd (upd G3 w1 (.lst [V.int v])) w2 (.lst [V.ref w1])) f w2 [[v]] := ⟨[w1], upd_same, rfl, fun i p z q1 q2 => by
        cases i with
        | zero =>
          obtain rfl : w1 = p := by simpa using q1
          obtain rfl : [v] = z := by simpa using q2
          exact ⟨(same_new hw2) _ _ upd_same, w1f⟩
        | succ i => simp at q1⟩
      have hw22 : (upd (upd G3 w1 (.lst [V.int v])) w2 (.lst [V.ref w1])) w2 = some (.lst [V.ref w1]) := upd_same
      refine ⟨b, w2, _, _, rfl, rfl, s7 _ _ g1, hw22, by simp [g2, sizeLine_eq]; omega, fun l hl => ?_⟩
      have s8 := s7.trans (same_new (o := .lst (qs.map V.ref ++ [V.ref w1])) hl)
      have lf : l ≠ f := (ne_of_none (s7 _ _ hf3) hl).symm
      refine ⟨fun c o hc hcf => s8 _ _ (k3 _ _ hc hcf), s6.trans s8, l, _, _, rfl, lf, ?_, ?_⟩
      · rw [tk]; exact F3.same s8
      · rw [tk]; exact (B3.same s7).cat W (s7 _ _ g1) hw22 (.inl hl)
    · -- next
      obtain ⟨qs, g1, g2, g3⟩ := id B3
      refine iteT ⟨_, rfl, comp _ _ _ B3 ⟨_, hf3⟩ fun D2 G4 hD2 s7 hL => ?_⟩
      obtain ⟨ds2, e1, e2, e3⟩ := id hL
      refine ⟨b, D2, _, _, rfl, rfl, s7 _ _ g1, e1, by simp [g2, e2, sizeLine_eq]; omega, fun l hl => ?_⟩
      have s8 := s7.trans (same_new (o := .lst (qs.map V.ref ++ ds2.map V.ref)) hl)
      have lf : l ≠ f := (ne_of_none (s7 _ _ hf3) hl).symm
      refine ⟨fun c o hc hcf => s8 _ _ (k3 _ _ hc hcf), s6.trans s8, l, _, _, rfl, lf, ?_, ?_⟩
      · rw [tk]; exact F3.same s8
      · rw [tk]; exact (B3.same s7).cat hL (s7 _ _ g1) e1 (.inl hl)
  · rintro σ H2 ⟨k2, s5, b, o3, o4, rfl, hbf, F2, B2⟩
    rw [List.length_map, List.take_length] at F2
    exact ⟨_, rfl, q _ _ s5 hf F2⟩
end
end K75R
set_option Elab.async false
set_option linter.all false
set_option maxRecDepth 100000
set_option maxHeartbeats 4000000
namespace K75R
open PySem PySem.Spec PyProof.Rows L2
section
variable {P : Program} {w : World} {K : PySem.W.Frag} {mg : Str → Option Value} {base : Heap}
open K75
/-! dicts from ints to lists of ints -/
def triD (A : List Tri) : List (Key × V) := A.map fun e : Tri => ((.inl e.1 : Key), V.ref e.2.1)
def DL (H : Hp) (d : Addr) (A : List Tri) : Prop := H d = some (.dK (triD A)) ∧ ∀ e ∈ A, H e.2.1 = some (.lst (e.2.2.map V.int))
theorem DL.same {H H' : Hp} {d : Addr} {A : List Tri} (h : DL H d A) (k : Same H H') : DL H' d A := ⟨k _ _ h.1, fun e he => k _ _ (h.2 e he)⟩
theorem triD_get : ∀ (A : List Tri) (v : Int), valV (triD A) (.inl v) = (findA A v).map fun e => V.ref e.2.1
  | [], v => rfl
  | e :: A, v => by
    have ih := triD_get A v
    unfold findA at ih ⊢
    rw [List.find?_cons]
    by_cases h : e.1 = v
    · rw [decide_eq_true h]
      exact valV_pos (p := ((.inl e.1 : Key), V.ref e.2.1)) (by rw [h])
    · rw [decide_eq_false h]
      show valV (((.inl e.1 : Key), V.ref e.2.1) :: triD A) (.inl v) = _
      rw [valV_neg (fun z => h (Sum.inl.inj z)), ih]
theorem triD_put (A : List Tri) (v : Int) (p : Addr) (z : List Int) : putK (triD A) (.inl v) (V.ref p) = triD (putA A v p z) := by
  unfold putK putA triD
  have e : ((A.map fun e : Tri => ((.inl e.1 : Key), V.ref e.2.1)).any fun kv => decide (kv.1 = .inl v)) = A.any fun e => decide (e.1 = v) := by
    rw [List.any_map]
    congr 1
    funext e
    rw [Bool.eq_iff_iff]
    simp only [Function.comp, decide_eq_true_eq]
    exact ⟨fun z => Sum.inl.inj z, fun z => by rw [z]⟩
  rw [e]
  split
  · rw [List.map_map, List.map_map]
    apply List.map_congr_left
    intro e _
    dsimp
    by_cases h : e.1 = v
    · rw [if_pos (by rw [h]), if_pos h]
    · rw [if_neg (fun z => h (Sum.inl.inj z)), if_neg h]
  · rw [List.map_append]
    rfl
theorem triD_len (A : List Tri) : (triD A).length = A.length := by simp [triD]

def sp_worth : Sp := fun vs H Q _ => ∃ (p : Addr) (z : List Int), vs = [.ref p] ∧ H p = some (.lst (z.map V.int)) ∧ z ≠ [] ∧ ∀ H', Same H H' → Q (.int (worthF z)) H'
theorem sc_worth_of : FnScope ["stretch"] ["stretch"] (defScope (top 35)) := ⟨rfl, rfl, rfl, by decide +kernel, rfl, by decide +kernel, by decide +kernel⟩
theorem R_worth_of (T : Txt K mg) : FnR P w K mg base CX0 1 (ga K "worth_of") sp_worth := by
  obtain ⟨fd, F⟩ := T.worth_of.F
  have sc := sc_worth_of
  refine Fun.raw F sc (fun vs H Q E h => ?_) (fun _ _ _ _ _ _ us hl => match us, hl with | [_], _ => rfl) (fun cdv A outer s H vs Q E hr h => ?_)
  · obtain ⟨_, _, rfl, _⟩ := h
    rfl
  obtain ⟨p, z, rfl, hp, hz, q⟩ := h
  refine ⟨_, (pss_one
    (ps_ret (pe_op op_sub (pe_ix ix_list (pv 0) (pe_un un_neg pe_int) (fun _ _ => rfl)) (pe_callB (cr_sum rfl) (by rfl) T.b_sum bt_sum (pa_cons (pe_slice sl_list (pv 0) po_none (po_some (pe_un un_neg pe_int))) pa_nil))))), ?_⟩
  refine ⟨_, rfl, 1, rfl, p, _, _, _, rfl, rfl, sqL hp, at_top hz, _, rfl, 1, rfl, _, rfl, p, _, rfl, sqL hp, fun p2 hp2 => ⟨p2, z.dropLast, rfl, sqL ?_, _, _, rfl, rfl, q _ (same_new hp2)⟩⟩
  rw [upd_same, cutV_front, List.map_dropLast]

def sp_cbw : Sp := fun vs H Q _ => ∃ (a f : Addr) (zss : List (List Int)), vs = [.ref a] ∧ ListsAt H f a zss ∧ zss.length ≤ 1000 ∧ (∀ z ∈ zss, z ≠ []) ∧ ∀ H' d A, Same H H' → H d = none → DL H' d A → Cbw zss A → Q (.ref d) H'
theorem sc_cheapest_by_worth : FnScope ["pieces", "found", "piece", "value"] ["pieces"] (defScope (top 36)) := ⟨rfl, rfl, rfl, by decide +kernel, rfl, by decide +kernel, by decide +kernel⟩
theorem R_cheapest_by_worth (T : Txt K mg) : FnR P w K mg base CX0 2 (ga K "cheapest_by_worth") sp_cbw := by
  obtain ⟨fd, F⟩ := T.cheapest_by_worth.F
  have sc := sc_cheapest_by_worth
  refine Fun.raw F sc (fun vs H Q E h => ?_) (fun _ _ _ _ _ _ us hl => match us, hl with | [_], _ => rfl) (fun cdv A outer s H vs Q E hr h => ?_)
  · obtain ⟨_, _, _, rfl, _⟩ := h
    rfl
  obtain ⟨a, f, zss, rfl, ⟨ps, h1, h2, h3⟩, hl, hne, q⟩ := h
  refine ⟨_, (pss_cons
    (ps_set (i := 1) sc.nd rfl (by first | exact Or.inl rfl | exact Or.inr rfl) pe_dnewK)
    (pss_cons
    (ps_for PassesOwn.never rfl (pi_list (pv 0)) (pg_name (i := 2) sc.nd rfl (by first | exact Or.inl rfl | exact Or.inr rfl))
      (pss_cons
      (ps_set (i := 3) sc.nd rfl (by first | exact Or.inl rfl | exact Or.inr rfl) (cR T.worth_of (R_worth_of T) hr pass0 (pa_cons (pv 2) pa_nil)))
      (pss_one
      (ps_if (PW.pt (pw_or (pt_cmp (pc_dnotin (hu_of hr) (pv 3) (pv 1))) (pw_or1 (pt_cmpR op_lt (pe_callB call_len_seq (by rfl) T.b_len bt_len (pa_cons (pv 2) pa_nil)) (pe_callB call_len_seq (by rfl) T.b_len bt_len (pa_cons (pe_dget (hu_of hr) (pv 1) (pv 3) (fun _ _ => rfl)) pa_nil)) (nomark _)))))
        (pss_one
        (ps_dput (hu_of hr) (pv 1) (pv 3) (pv 2) rfl))
        pss_nil))))
    (pss_one
    (ps_ret (pv 1))))), ?_⟩
  intro d hd
  have s0 : Same H (upd H d (.dK [])) := same_new hd
  refine ⟨_, rfl, a, rfl, ⟨_, sqL (s0 _ _ h1)⟩, for_it walk_list (fun i σ H2 => Same H H2 ∧ ∃ A o2 o3, σ = [some (V.ref a), some (V.ref d), o2, o3] ∧ DL H2 d A ∧ Cbw (zss.take i) A ∧ A.length ≤ i) ⟨s0, [], _, _, rfl, ⟨upd_same, by simp⟩, Cbw.nil, Nat.le_refl _⟩ (fun i σ H2 _ h => sqL (h.1 _ _ h1)) ?_ ?_⟩
  · rintro i y σ H2 H' hi ⟨s1, A, o2, o3, rfl, hA, cb, lA⟩ ⟨rfl, hy⟩
    obtain ⟨p, z, rfl, hz, hp, _⟩ := ListsAt.item h2 h3 hy
    have hi' : i < zss.length := by rw [← h2]; simpa using hi
    have tk : zss.take (i + 1) = zss.take i ++ [z] := by rw [List.take_add_one, hz] <;> rfl
    refine ⟨_, rfl, p, z, rfl, s1 _ _ hp, hne z (List.mem_of_getElem? hz), fun H3 s2 => ?_⟩
    have hA3 := hA.same s2
    have s3 := s1.trans s2
    have hp3 := s3 _ _ hp
    have fin : (∀ e ∈ A, e.1 = worthF z → z.length < e.2.2.length) → ∀ D : Ends, D.nx = (fun σ H2 => Same H H2 ∧ ∃ A o2 o3, σ = [some (V.ref a), some (V.ref d), o2, o3] ∧ DL H2 d A ∧ Cbw (zss.take (i + 1)) A ∧ A.length ≤ i + 1) →
        sDPut (tVar 1) (tVar 3) (tVar 2) D [some (V.ref a), some (V.ref d), some (V.ref p), some (V.int (worthF z))] H3 := fun hb D hD => by
      refine ⟨_, rfl, _, rfl, _, rfl, d, _, rfl, DPut.k (k := .inl (worthF z)) hA3.1 (by rw [triD_len]; exact sz_lt (by omega)), ?_⟩
      rw [hD, triD_put A (worthF z) p z]
      have hdx : ∀ {b : Addr} {zs : List V}, H3 b = some (.lst zs) → b ≠ d := fun {b zs} h e => by subst e; rw [hA3.1] at h; cases h
      refine ⟨same_put s3 hd, putA A (worthF z) p z, _, _, rfl, ⟨upd_same, fun e he => ?_⟩, ?_, Nat.le_trans (putA_len _ _ _ _) (by omega)⟩
      · rcases mem_putA he with ⟨h, _⟩ | rfl
        · have := hA3.2 e h
          rw [upd_ne (hdx this)]
          exact this
        · rw [upd_ne (hdx hp3)]
          exact hp3
      · rw [tk]
        exact cb.put hb
    refine ⟨_, rfl, _, rfl, d, _, rfl, DGet.k (k := .inl (worthF z)) hA3.1, _, rfl, ?_⟩
    rw [triD_get]
    cases hf : findA A (worthF z) with
    | none =>
      refine iteT (iteT ?_)
      exact fin (fun e he h => absurd h (findA_none hf e he)) _ rfl
    | some e =>
      obtain ⟨he, hv⟩ := findA_some hf
      refine iteF ⟨_, rfl, p, _, rfl, .inl (sqL hp3), _, rfl, _, rfl, d, V.ref e.2.1, rfl, ?_, e.2.1, _, rfl, .inl (sqL (hA3.2 e he)), _, _, rfl, rfl, _, rfl, ite2 (fun c => ?_) fun c => ?_⟩
      · have := DGet.k (k := .inl (worthF z)) hA3.1
        rw [triD_get, hf] at this
        exact this
      · have c := of_decide_eq_true c
        refine fin (fun e' he' h => ?_) _ rfl
        have : findA A e'.1 = some e' := findA_of cb.nd he'
        rw [h, hf] at this
        cases this
        simpa using c
      · have c : ¬ ((z.map V.int).length : Int) < ((e.2.2.map V.int).length : Int) := by simpa using c
        refine ⟨s3, A, _, _, rfl, hA3, ?_, by omega⟩
        rw [tk]
        exact cb.keep he hv (by simpa using c)
  · rintro σ H2 ⟨s1, A, o2, o3, rfl, hA, cb, lA⟩
    rw [List.length_map, h2, List.take_length] at cb
    exact ⟨_, rfl, q _ _ _ s1 hd hA cb⟩
end
end K75R
set_option Elab.async false
set_option linter.all false
/-! Sums by pieces: least sizes, found in the order of the sizes. -/
namespace K75
/-- t is reached with n signs: from b with n0, by pieces, within the bounds -/
inductive Reach (A : List Tri) (lo hi b n0 : Int) : Int → Int → Prop
  | base : Reach A lo hi b n0 b n0
  | step {t n : Int} {e : Tri} (h : Reach A lo hi b n0 t n) (he : e ∈ A) (h1 : lo ≤ t + e.1) (h2 : t + e.1 ≤ hi) : Reach A lo hi b n0 (t + e.1) (n + e.2.2.length)
theorem Reach.ge {A : List Tri} {lo hi b n0 t n : Int} (h : Reach A lo hi b n0 t n) : n0 ≤ n := by
  induction h with
  | base => exact Int.le_refl _
  | step _ _ _ _ ih => omega
/-- S tells the least sizes -/
structure LeastS (A : List Tri) (lo hi b n0 : Int) (S : Int → Option Int) : Prop where
  sound : ∀ t n, S t = some n → Reach A lo hi b n0 t n
  all : ∀ t n, Reach A lo hi b n0 t n → ∃ m, S t = some m ∧ m ≤ n
theorem LeastS.uniq {A : List Tri} {lo hi b n0 : Int} {S S' : Int → Option Int} (h : LeastS A lo hi b n0 S) (h' : LeastS A lo hi b n0 S') (t : Int) : S t = S' t := by
  cases e : S t with
  | none =>
    cases e' : S' t with
    | none => rfl
    | some n =>
      obtain ⟨m, h1, _⟩ := h.all t n (h'.sound t n e')
      rw [e] at h1
      cases h1
  | some n =>
    obtain ⟨m, h1, h2⟩ := h'.all t n (h.sound t n e)
    obtain ⟨k, h3, h4⟩ := h.all t m (h'.sound t m h1)
    rw [e] at h3
    cases h3
    rw [h1, show m = n by omega]
def Closed (A : List Tri) (lo hi : Int) (S : Int → Option Int) (t n : Int) : Prop := ∀ e ∈ A, lo ≤ t + e.1 → t + e.1 ≤ hi → ∃ m, S (t + e.1) = some m ∧ m ≤ n + e.2.2.length
/-- still to be gone on from: in a bucket, or left of the bucket in work -/
def Pend (s : Int) (wt : List Tri) (Lr : List Int) (t n : Int) : Prop := (∃ e ∈ wt, e.1 = n ∧ t ∈ e.2.2) ∨ (n = s ∧ t ∈ Lr)
structure DP (A : List Tri) (lo hi b n0 s : Int) (wt : List Tri) (Lr : List Int) (ex : Option Int) (S : Int → Option Int) (N : Nat) : Prop where
  sound : ∀ t n, S t = some n → Reach A lo hi b n0 t n
  start : ∃ n, S b = some n ∧ n ≤ n0
  clo : ∀ t n, S t = some n → ex = some t ∨ Pend s wt Lr t n ∨ Closed A lo hi S t n
  bd : ∀ t n, S t = some n → n ≤ n0 + 6 * ((N : Int) - 1)
  keys : ∀ e ∈ wt, s < e.1 ∧ e.1 ≤ n0 + 6 * ((N : Int) - 1)
  nd : (wt.map (·.1)).Nodup
  tot : ∀ e ∈ wt, e.2.2.Nodup ∧ ∀ t ∈ e.2.2, ∃ n, S t = some n ∧ n ≤ e.1
  dom : ∀ t n, S t = some n → t = b ∨ (lo ≤ t ∧ t ≤ hi)
def setS (S : Int → Option Int) (t n : Int) : Int → Option Int := fun u => if u = t then some n else S u
/-- t to the bucket k -/
def appW (wt : List Tri) (k t : Int) : List Tri := wt.map fun e => if e.1 = k then (e.1, e.2.1, e.2.2 ++ [t]) else e
/-- a bucket k is there -/
def newW (wt : List Tri) (k : Int) (p : Nat) : List Tri := if (wt.any fun e => decide (e.1 = k)) = true then wt else wt ++ [(k, p, [])]
theorem appW_keys (wt : List Tri) (k t : Int) : (appW wt k t).map (·.1) = wt.map (·.1) := by
  unfold appW
  rw [List.map_map]
  apply List.map_congr_left
  intro e _
  dsimp
  split <;> rfl
theorem mem_appW {wt : List Tri} {k t : Int} {e : Tri} (h : e ∈ appW wt k t) : ∃ e' ∈ wt, e'.1 = e.1 ∧ ((e'.1 = k ∧ e.2.2 = e'.2.2 ++ [t] ∧ e.2.1 = e'.2.1) ∨ (e'.1 ≠ k ∧ e = e')) := by
  obtain ⟨x, hx, rfl⟩ := List.mem_map.mp h
  refine ⟨x, hx, ?_⟩
  by_cases e : x.1 = k
  · rw [if_pos e]
    exact ⟨rfl, .inl ⟨e, rfl, rfl⟩⟩
  · rw [if_neg e]
    exact ⟨rfl, .inr ⟨e, rfl⟩⟩
theorem appW_sub {wt : List Tri} {k t : Int} {e : Tri} (h : e ∈ wt) : ∃ e' ∈ appW wt k t, e'.1 = e.1 ∧ (∀ u ∈ e.2.2, u ∈ e'.2.2) ∧ (e.1 = k → t ∈ e'.2.2) := by
  refine ⟨_, List.mem_map.mpr ⟨e, h, rfl⟩, ?_⟩
  by_cases c : e.1 = k
  · rw [if_pos c]
    exact ⟨rfl, fun u hu => List.mem_append_left _ hu, fun _ => by simp⟩
  · rw [if_neg c]
    exact ⟨rfl, fun u hu => hu, fun z => absurd z c⟩
theorem newW_mem {wt : List Tri} {k : Int} {p : Nat} {e : Tri} (h : e ∈ newW wt k p) : e ∈ wt ∨ (e = (k, p, []) ∧ ∀ x ∈ wt, x.1 ≠ k) := by
  unfold newW at h
  split at h
  · exact .inl h
  · rename_i hn
    rcases List.mem_append.mp h with h | h
    · exact .inl h
    · exact .inr ⟨List.mem_singleton.mp h, fun x hx e => hn (List.any_eq_true.mpr ⟨x, hx, by simpa using e⟩)⟩
theorem newW_sub {wt : List Tri} {k : Int} {p : Nat} {e : Tri} (h : e ∈ wt) : e ∈ newW wt k p := by
  unfold newW
  split
  · exact h
  · exact List.mem_append_left _ h
theorem newW_has (wt : List Tri) (k : Int) (p : Nat) : ∃ e ∈ newW wt k p, e.1 = k := by
  unfold newW
  split
  · rename_i h
    obtain ⟨x, hx, e⟩ := List.any_eq_true.mp h
    exact ⟨x, hx, by simpa using e⟩
  · exact ⟨(k, p, []), by simp, rfl⟩
theorem newW_nd {wt : List Tri} {k : Int} {p : Nat} (h : (wt.map (·.1)).Nodup) : ((newW wt k p).map (·.1)).Nodup := by
  unfold newW
  split
  · exact h
  · rename_i hn
    rw [List.map_append]
    refine List.nodup_append.mpr ⟨h, by simp, fun a ha b hb => ?_⟩
    have hb : b = k := by simpa using hb
    subst hb
    obtain ⟨x, hx, rfl⟩ := List.mem_map.mp ha
    intro e
    exact hn (List.any_eq_true.mpr ⟨x, hx, by simpa using e⟩)
section
variable {A : List Tri} {lo hi b n0 s : Int} {wt : List Tri} {Lr : List Int} {S : Int → Option Int} {N : Nat}
theorem closed_set {t n u m : Int} (h : Closed A lo hi S t n) (hb : ∀ y, S u = some y → m < y) : Closed A lo hi (setS S u m) t n := by
  intro e he h1 h2
  obtain ⟨y, hy, hl⟩ := h e he h1 h2
  unfold setS
  by_cases c : t + e.1 = u
  · rw [if_pos c]
    rw [c] at hy
    have := hb y hy
    exact ⟨m, rfl, by omega⟩
  · rw [if_neg c]
    exact ⟨y, hy, hl⟩
/-- one more sum, or a sum with fewer signs -/
theorem DP.put {tot : Int} {e : Tri} {p N' : Nat} (h : DP A lo hi b n0 s wt Lr (some tot) S N) (ht : S tot = some s) (he : e ∈ A) (hl : 1 ≤ e.2.2.length ∧ e.2.2.length ≤ 6) (h1 : lo ≤ tot + e.1) (h2 : tot + e.1 ≤ hi)
    (hb : ∀ y, S (tot + e.1) = some y → s + e.2.2.length < y) (hN : if (S (tot + e.1)).isSome then N' = N else N' = N + 1) :
    DP A lo hi b n0 s (appW (newW wt (s + e.2.2.length) p) (s + e.2.2.length) (tot + e.1)) Lr (some tot) (setS S (tot + e.1) (s + e.2.2.length)) N' ∧
    (∀ t n, S t = some n → n ≤ s → setS S (tot + e.1) (s + e.2.2.length) t = some n) := by
  have keep : ∀ t n, S t = some n → n ≤ s → setS S (tot + e.1) (s + e.2.2.length) t = some n := fun t n hS hn => by
    unfold setS
    by_cases c : t = tot + e.1
    · have := hb n (by rw [← c]; exact hS)
      omega
    · rw [if_neg c]
      exact hS
  have NN : N ≤ N' := by split at hN <;> omega
  have key : s + e.2.2.length ≤ n0 + 6 * ((N' : Int) - 1) := by
    have b1 := h.bd tot s ht
    cases c : S (tot + e.1) with
    | none =>
      rw [c] at hN
      have : N' = N + 1 := hN
      omega
    | some y =>
      have b2 := h.bd _ y c
      have b3 := hb y c
      omega
  refine ⟨⟨fun t n hS => ?_, ?_, fun t n hS => ?_, fun t n hS => ?_, fun x hx => ?_, ?_, fun x hx => ?_, fun t n hS => ?_⟩, keep⟩
  · unfold setS at hS
    split at hS
    · rename_i c
      cases hS
      rw [c]
      exact (h.sound tot s ht).step he h1 h2
    · exact h.sound t n hS
  · obtain ⟨n, hn, hl'⟩ := h.start
    unfold setS
    by_cases c : b = tot + e.1
    · rw [if_pos c]
      have := hb n (by rw [← c]; exact hn)
      exact ⟨_, rfl, by omega⟩
    · rw [if_neg c]
      exact ⟨n, hn, hl'⟩
  · by_cases c : t = tot + e.1
    · have hS : some (s + (e.2.2.length : Int)) = some n := by
        unfold setS at hS
        rw [if_pos c] at hS
        exact hS
      cases hS
      refine .inr (.inl (.inl ?_))
      obtain ⟨x, hx, hk⟩ := newW_has wt (s + e.2.2.length) p
      obtain ⟨y, hy, g1, g2, g3⟩ := appW_sub (k := s + e.2.2.length) (t := tot + e.1) hx
      exact ⟨y, hy, by rw [g1, hk], by rw [c]; exact g3 hk⟩
    · have hS : S t = some n := by
        unfold setS at hS
        rw [if_neg c] at hS
        exact hS
      rcases h.clo t n hS with h' | h' | h'
      · exact .inl h'
      · refine .inr (.inl ?_)
        rcases h' with ⟨x, hx, hk, hm⟩ | h'
        · obtain ⟨y, hy, g1, g2, g3⟩ := appW_sub (k := s + e.2.2.length) (t := tot + e.1) (newW_sub (p := p) (k := s + e.2.2.length) hx)
          exact .inl ⟨y, hy, by rw [g1, hk], g2 t hm⟩
        · exact .inr h'
      · exact .inr (.inr (closed_set h' hb))
  · unfold setS at hS
    split at hS
    · cases hS
      exact key
    · have := h.bd t n hS
      omega
  · obtain ⟨x', hx', e1, _⟩ := mem_appW hx
    rw [← e1]
    rcases newW_mem hx' with h' | ⟨rfl, _⟩
    · have := h.keys x' h'
      omega
    · exact ⟨by dsimp; omega, key⟩
  · rw [appW_keys]
    exact newW_nd h.nd
  · have mono : ∀ t n, S t = some n → ∃ m, setS S (tot + e.1) (s + e.2.2.length) t = some m ∧ m ≤ n := fun t n hn => by
      unfold setS
      by_cases c : t = tot + e.1
      · rw [if_pos c]
        have := hb n (by rw [← c]; exact hn)
        exact ⟨_, rfl, by omega⟩
      · rw [if_neg c]
        exact ⟨n, hn, Int.le_refl _⟩
    have old : ∀ x' ∈ newW wt (s + e.2.2.length) p, x'.2.2.Nodup ∧ ∀ t ∈ x'.2.2, ∃ n, S t = some n ∧ n ≤ x'.1 := fun x' hx' => by
      rcases newW_mem hx' with h' | ⟨rfl, _⟩
      · exact h.tot x' h'
      · exact ⟨by simp, fun t ht => by simp at ht⟩
    obtain ⟨x', hx', e1, hc⟩ := mem_appW hx
    obtain ⟨o1, o2⟩ := old x' hx'
    rcases hc with ⟨hk, hl2, _⟩ | ⟨_, rfl⟩
    · rw [hl2, ← e1, hk]
      refine ⟨List.nodup_append.mpr ⟨o1, by simp, fun a ha c hc => ?_⟩, fun t ht => ?_⟩
      · rw [List.mem_singleton.mp hc]
        intro z
        rw [z] at ha
        obtain ⟨n, hn, hl3⟩ := o2 _ ha
        have := hb n hn
        omega
      · rcases List.mem_append.mp ht with ht | ht
        · obtain ⟨n, hn, hl3⟩ := o2 t ht
          obtain ⟨m, hm, hl4⟩ := mono t n hn
          exact ⟨m, hm, by omega⟩
        · rw [List.mem_singleton.mp ht]
          unfold setS
          rw [if_pos rfl]
          exact ⟨_, rfl, Int.le_refl _⟩
    · refine ⟨o1, fun t ht => ?_⟩
      obtain ⟨n, hn, hl3⟩ := o2 t ht
      obtain ⟨m, hm, hl4⟩ := mono t n hn
      exact ⟨m, hm, by omega⟩
  · unfold setS at hS
    split at hS
    · rename_i c
      exact .inr (by rw [c]; exact ⟨h1, h2⟩)
    · exact h.dom t n hS
/-- the pieces of T are told -/
def PartC (T : List Tri) (lo hi : Int) (S : Int → Option Int) (tot s : Int) : Prop := Closed T lo hi S tot s
theorem PartC.put {T : List Tri} {tot : Int} {e : Tri} (h : PartC T lo hi S tot s) (hb : ∀ y, S (tot + e.1) = some y → s + e.2.2.length < y) : PartC (T ++ [e]) lo hi (setS S (tot + e.1) (s + e.2.2.length)) tot s := by
  intro x hx h1 h2
  rcases List.mem_append.mp hx with hx | hx
  · exact closed_set h hb x hx h1 h2
  · rw [List.mem_singleton.mp hx]
    unfold setS
    rw [if_pos rfl]
    exact ⟨_, rfl, Int.le_refl _⟩
theorem PartC.keep {T : List Tri} {tot : Int} {e : Tri} (h : PartC T lo hi S tot s) (hk : lo ≤ tot + e.1 → tot + e.1 ≤ hi → ∃ m, S (tot + e.1) = some m ∧ m ≤ s + e.2.2.length) : PartC (T ++ [e]) lo hi S tot s := by
  intro x hx h1 h2
  rcases List.mem_append.mp hx with hx | hx
  · exact h x hx h1 h2
  · rw [List.mem_singleton.mp hx] at h1 h2 ⊢
    exact hk h1 h2
theorem DP.done {tot : Int} (h : DP A lo hi b n0 s wt Lr (some tot) S N) (ht : S tot = some s) (hp : PartC A lo hi S tot s) : DP A lo hi b n0 s wt Lr none S N := by
  refine ⟨h.sound, h.start, fun t n hS => ?_, h.bd, h.keys, h.nd, h.tot, h.dom⟩
  rcases h.clo t n hS with h' | h' | h'
  · cases h'
    rw [ht] at hS
    cases hS
    exact .inr (.inr hp)
  · exact .inr (.inl h')
  · exact .inr (.inr h')
/-- the next of the bucket in work: to be gone on from -/
theorem DP.take {tot : Int} (h : DP A lo hi b n0 s wt (tot :: Lr) none S N) : DP A lo hi b n0 s wt Lr (some tot) S N := by
  refine ⟨h.sound, h.start, fun t n hS => ?_, h.bd, h.keys, h.nd, h.tot, h.dom⟩
  rcases h.clo t n hS with h' | h' | h'
  · cases h'
  · rcases h' with h' | ⟨h1, h2⟩
    · exact .inr (.inl (.inl h'))
    · rcases List.mem_cons.mp h2 with rfl | h2
      · exact .inl rfl
      · exact .inr (.inl (.inr ⟨h1, h2⟩))
  · exact .inr (.inr h')
/-- .. or left, for it has fewer signs already -/
theorem DP.skip {tot n : Int} (h : DP A lo hi b n0 s wt (tot :: Lr) none S N) (ht : S tot = some n) (hn : n ≠ s) : DP A lo hi b n0 s wt Lr none S N := by
  refine ⟨h.sound, h.start, fun t m hS => ?_, h.bd, h.keys, h.nd, h.tot, h.dom⟩
  rcases h.clo t m hS with h' | h' | h'
  · cases h'
  · rcases h' with h' | ⟨h1, h2⟩
    · exact .inr (.inl (.inl h'))
    · rcases List.mem_cons.mp h2 with rfl | h2
      · rw [ht] at hS
        cases hS
        exact absurd h1 hn
      · exact .inr (.inl (.inr ⟨h1, h2⟩))
  · exact .inr (.inr h')
/-- the bucket s taken out -/
def dropW (wt : List Tri) (s : Int) : List Tri := wt.filter fun e => decide (e.1 ≠ s)
theorem mem_dropW {wt : List Tri} {s : Int} {e : Tri} : e ∈ dropW wt s ↔ e ∈ wt ∧ e.1 ≠ s := by
  unfold dropW
  rw [List.mem_filter, decide_eq_true_eq]
theorem DP.pop {L : List Int} (h : DP A lo hi b n0 (s - 1) wt [] none S N) (hL : ∀ e ∈ wt, e.1 = s → e.2.2 = L) : DP A lo hi b n0 s (dropW wt s) L none S N := by
  refine ⟨h.sound, h.start, fun t n hS => ?_, h.bd, fun e he => ?_, ?_, fun e he => h.tot e (mem_dropW.mp he).1, h.dom⟩
  · rcases h.clo t n hS with h' | h' | h'
    · cases h'
    · rcases h' with ⟨e, he, h1, h2⟩ | ⟨_, h2⟩
      · by_cases c : e.1 = s
        · exact .inr (.inl (.inr ⟨by rw [← h1, c], by rw [← hL e he c]; exact h2⟩))
        · exact .inr (.inl (.inl ⟨e, mem_dropW.mpr ⟨he, c⟩, h1, h2⟩))
      · cases h2
    · exact .inr (.inr h')
  · obtain ⟨h1, h2⟩ := mem_dropW.mp he
    have := h.keys e h1
    omega
  · exact List.Nodup.sublist (List.Sublist.map _ List.filter_sublist) h.nd
theorem DP.up (h : DP A lo hi b n0 s wt [] none S N) : DP A lo hi b n0 (s + 1 - 1) wt [] none S N := by
  rw [Int.add_sub_cancel]
  exact h
/-- nothing waits: the sizes are the least -/
theorem DP.least (h : DP A lo hi b n0 s [] [] none S N) : LeastS A lo hi b n0 S := by
  refine ⟨h.sound, fun t n r => ?_⟩
  induction r with
  | base => exact h.start
  | step r he h1 h2 ih =>
    obtain ⟨m, hm, hl⟩ := ih
    rcases h.clo _ m hm with h' | h' | h'
    · cases h'
    · rcases h' with ⟨e, he, _⟩ | ⟨_, h2⟩
      · cases he
      · cases h2
    · obtain ⟨k, hk, hl2⟩ := h' _ he h1 h2
      exact ⟨k, hk, by omega⟩
theorem DP.init {p : Nat} : DP A lo hi b n0 (n0 - 1) [(n0, p, [b])] [] none (setS (fun _ => none) b n0) 1 := by
  have one : ∀ t n, setS (fun _ => none) b n0 t = some n → t = b ∧ n = n0 := fun t n h => by
    unfold setS at h
    split at h
    · cases h; exact ⟨by assumption, rfl⟩
    · cases h
  refine ⟨fun t n h => ?_, ⟨n0, by unfold setS; rw [if_pos rfl], Int.le_refl _⟩, fun t n h => ?_, fun t n h => ?_, fun e he => ?_, by simp, fun e he => ?_, fun t n h => .inl (one t n h).1⟩
  · obtain ⟨rfl, rfl⟩ := one t n h
    exact .base
  · obtain ⟨rfl, rfl⟩ := one t n h
    exact .inr (.inl (.inl ⟨_, List.mem_singleton.mpr rfl, rfl, by simp⟩))
  · obtain ⟨rfl, rfl⟩ := one t n h
    simp
  · rw [List.mem_singleton.mp he]
    constructor <;> dsimp <;> omega
  · rw [List.mem_singleton.mp he]
    refine ⟨by simp, fun t ht => ?_⟩
    have : t = b := by simpa using ht
    subst this
    exact ⟨n0, by unfold setS; rw [if_pos rfl], Int.le_refl _⟩
end
end K75
set_option Elab.async false
set_option linter.all false
set_option maxRecDepth 100000
set_option maxHeartbeats 4000000
namespace K75R
open PySem PySem.Spec PyProof.Rows L2
section
variable {P : Program} {w : World} {K : PySem.W.Frag} {mg : Str → Option Value} {base : Heap}
open K75
/-! the tables of sums in the heap -/
theorem putK_keys {kvs : List (Key × V)} {k : Key} {v : V} : (putK kvs k v).map (·.1) = if (valV kvs k).isSome = true then kvs.map (·.1) else kvs.map (·.1) ++ [k] := by
  unfold putK
  rw [valV_any]
  split
  · rw [List.map_map]
    apply List.map_congr_left
    intro e _
    dsimp
    split <;> rfl
  · rw [List.map_append]
    rfl
theorem valV_mem {kvs : List (Key × V)} {k : Key} (h : ¬ (valV kvs k).isSome = true) : ¬ k ∈ kvs.map (·.1) := valV_not (by
  cases e : valV kvs k with
  | none => rfl
  | some v => rw [e] at h; exact absurd rfl h)
/-- a dict from ints to ints: what it tells, how many keys -/
def SzAt (H : Hp) (d : Addr) (S : Int → Option Int) (N : Nat) : Prop := ∃ kvs : List (Key × V), H d = some (.dK kvs) ∧ (∀ t, valV kvs (.inl t) = (S t).map V.int) ∧ (kvs.map (·.1)).Nodup ∧ (∀ k ∈ kvs.map (·.1), ∃ t, k = .inl t ∧ (S t).isSome = true) ∧ kvs.length = N
theorem SzAt.put {H : Hp} {d : Addr} {S : Int → Option Int} {N : Nat} (h : SzAt H d S N) (t n : Int) : ∃ kvs, H d = some (.dK kvs) ∧ kvs.length = N ∧ SzAt (upd H d (.dK (putK kvs (.inl t) (.int n)))) d (setS S t n) (if (S t).isSome then N else N + 1) := by
  obtain ⟨kvs, h1, h2, h3, h4, h5⟩ := h
  have hin : (valV kvs (.inl t)).isSome = (S t).isSome := by rw [h2, Option.isSome_map]
  refine ⟨kvs, h1, h5, _, upd_same, fun u => ?_, ?_, fun k hk => ?_, ?_⟩
  · rw [valV_put, h2]
    unfold setS
    by_cases c : u = t
    · subst c; rw [if_pos rfl, if_pos rfl] <;> rfl
    · rw [if_neg (fun z => c (Sum.inl.inj z)), if_neg c]
  · rw [putK_keys]
    split
    · exact h3
    · rename_i hn
      exact List.nodup_append.mpr ⟨h3, by simp, fun a ha b hb => by
        rw [List.mem_singleton.mp hb]
        exact fun e => valV_mem hn (e ▸ ha)⟩
  · rw [putK_keys] at hk
    have old : ∀ k ∈ kvs.map (·.1), ∃ u, k = .inl u ∧ (setS S t n u).isSome = true := fun k hk => by
      obtain ⟨u, e1, e2⟩ := h4 k hk
      refine ⟨u, e1, ?_⟩
      unfold setS
      split
      · rfl
      · exact e2
    split at hk
    · exact old k hk
    · rcases List.mem_append.mp hk with hk | hk
      · exact old k hk
      · refine ⟨t, List.mem_singleton.mp hk, ?_⟩
        unfold setS
        rw [if_pos rfl] <;> rfl
  · have := congrArg List.length (putK_keys (kvs := kvs) (k := .inl t) (v := .int n))
    rw [List.length_map] at this
    rw [this]
    rw [hin]
    by_cases c : (S t).isSome = true
    · rw [if_pos c, if_pos c, List.length_map, h5]
    · rw [if_neg c, if_neg c, List.length_append, List.length_map, h5] <;> rfl
theorem SzAt.mono {H H' : Hp} {d : Addr} {S : Int → Option Int} {N : Nat} (h : SzAt H d S N) (k : ∀ o, H d = some o → H' d = some o) : SzAt H' d S N := by
  obtain ⟨kvs, h1, h2⟩ := h
  exact ⟨kvs, k _ h1, h2⟩
theorem SzAt.get {H : Hp} {d : Addr} {S : Int → Option Int} {N : Nat} (h : SzAt H d S N) (t : Int) : DGet H d (.int t) ((S t).map V.int) := by
  obtain ⟨kvs, h1, h2, _⟩ := h
  have := DGet.k (k := .inl t) h1
  rw [h2] at this
  exact this
theorem SzAt.dict {H : Hp} {d : Addr} {S : Int → Option Int} {N : Nat} (h : SzAt H d S N) : ∃ kvs, H d = some (.dK kvs) := let ⟨kvs, h1, _⟩ := h; ⟨kvs, h1⟩
/-- how many keys there can be -/
theorem SzAt.few {H : Hp} {d : Addr} {S : Int → Option Int} {N : Nat} {lo hi b : Int} (h : SzAt H d S N) (hd : ∀ t n, S t = some n → t = b ∨ (lo ≤ t ∧ t ≤ hi)) (hlh : lo ≤ hi + 1) : (N : Int) ≤ hi - lo + 2 := by
  obtain ⟨kvs, h1, h2, h3, h4, h5⟩ := h
  have inj : ((kvs.map (·.1)).map fun k : Key => match k with | .inl t => t | .inr _ => 0).Nodup := by
    refine List.pairwise_map.mpr (List.Pairwise.imp_of_mem ?_ h3)
    intro x y hx hy ne e
    refine ne ?_
    obtain ⟨t, rfl, _⟩ := h4 x hx
    obtain ⟨u, rfl, _⟩ := h4 y hy
    exact congrArg Sum.inl e
  have hmem : ∀ x ∈ ((kvs.map (·.1)).map fun k : Key => match k with | .inl t => t | .inr _ => 0), x = b ∨ (lo ≤ x ∧ x ≤ hi) := fun x hx => by
    obtain ⟨k, hk, rfl⟩ := List.mem_map.mp hx
    obtain ⟨t, rfl, hs⟩ := h4 k hk
    obtain ⟨n, hn⟩ := Option.isSome_iff_exists.mp hs
    exact hd t n hn
  have hlen : ((kvs.map (·.1)).map fun k : Key => match k with | .inl t => t | .inr _ => 0).length = N := by simp [h5]
  generalize ((kvs.map (·.1)).map fun k : Key => match k with | .inl t => t | .inr _ => 0) = ts at inj hmem hlen
  have p := pigeonZ lo hi (ts.erase b) (fun x hx => ?_) (inj.erase b) hlh
  · have := List.length_erase (a := b) (l := ts)
    split at this <;> omega
  · rcases hmem x (List.mem_of_mem_erase hx) with e | h
    · exact absurd e ((List.Nodup.mem_erase_iff inj).mp hx).1
    · exact h

/-! the buckets that wait -/
structure HW (H0 : Hp) (wd lb : Addr) (wt : List Tri) (H : Hp) : Prop where
  dl : DL H wd wt
  nd : (wt.map fun e => e.2.1).Nodup
  fr : ∀ e ∈ wt, H0 e.2.1 = none
  nl : ∀ e ∈ wt, e.2.1 ≠ lb
theorem HW.keep {H0 H H' : Hp} {wd lb : Addr} {wt : List Tri} (h : HW H0 wd lb wt H) (k1 : ∀ o, H wd = some o → H' wd = some o) (k2 : ∀ b xs, H b = some (.lst xs) → H' b = some (.lst xs)) : HW H0 wd lb wt H' :=
  ⟨⟨k1 _ h.dl.1, fun e he => k2 _ _ (h.dl.2 e he)⟩, h.nd, h.fr, h.nl⟩
theorem HW.same {H0 H H' : Hp} {wd lb : Addr} {wt : List Tri} (h : HW H0 wd lb wt H) (k : Same H H') : HW H0 wd lb wt H' := h.keep (fun o => k _ o) fun b xs => k b _
theorem HW.new {H0 H : Hp} {wd lb p : Addr} {wt : List Tri} {k : Int} (h : HW H0 wd lb wt H) (hp : H p = none) (h0 : H0 p = none) (hlb : ∃ o, H lb = some o) (hk : ∀ e ∈ wt, e.1 ≠ k) :
    HW H0 wd lb (newW wt k p) (upd (upd H p (.lst [])) wd (.dK (putK (triD wt) (.inl k) (.ref p)))) := by
  have e1 : newW wt k p = wt ++ [(k, p, [])] := by
    unfold newW
    rw [if_neg]
    intro z
    obtain ⟨x, hx, e⟩ := List.any_eq_true.mp z
    exact hk x hx (by simpa using e)
  have e2 : putK (triD wt) (.inl k) (.ref p) = triD (wt ++ [(k, p, [])]) := by
    rw [triD_put wt k p []]
    unfold putA
    rw [if_neg]
    intro z
    obtain ⟨x, hx, e⟩ := List.any_eq_true.mp z
    exact hk x hx (by simpa using e)
  rw [e1, e2]
  have wdp : wd ≠ p := ne_of_none h.dl.1 hp
  have pne : ∀ e ∈ wt, e.2.1 ≠ p := fun e he => ne_of_none (h.dl.2 e he) hp
  have wne : ∀ e ∈ wt, e.2.1 ≠ wd := fun e he z => by
    have := h.dl.2 e he
    rw [z, h.dl.1] at this
    cases this
  refine ⟨⟨upd_same, fun e he => ?_⟩, ?_, fun e he => ?_, fun e he => ?_⟩
  · rcases List.mem_append.mp he with he | he
    · rw [upd_ne (wne e he), upd_ne (pne e he)]
      exact h.dl.2 e he
    · rw [List.mem_singleton.mp he, upd_ne (fun z => wdp z.symm), upd_same]
      rfl
  · rw [List.map_append]
    refine List.nodup_append.mpr ⟨h.nd, by simp, fun a ha b hb => ?_⟩
    have hb : b = p := by simpa using hb
    subst hb
    obtain ⟨x, hx, rfl⟩ := List.mem_map.mp ha
    exact pne x hx
  · rcases List.mem_append.mp he with he | he
    · exact h.fr e he
    · rw [List.mem_singleton.mp he]
      exact h0
  · rcases List.mem_append.mp he with he | he
    · exact h.nl e he
    · rw [List.mem_singleton.mp he]
      obtain ⟨o, ho⟩ := hlb
      exact (ne_of_none ho hp).symm
theorem triD_app (wt : List Tri) (k t : Int) : triD (appW wt k t) = triD wt := by
  unfold triD appW
  rw [List.map_map]
  apply List.map_congr_left
  intro e _
  dsimp
  split <;> rfl
theorem nodup_inj {α β : Type} {f : α → β} : ∀ {l : List α} {x y : α}, (l.map f).Nodup → x ∈ l → y ∈ l → f x = f y → x = y
  | [], _, _, _, hx, _, _ => by cases hx
  | a :: l, x, y, nd, hx, hy, e => by
    rw [List.map_cons, List.nodup_cons] at nd
    rcases List.mem_cons.mp hx with h1 | h1 <;> rcases List.mem_cons.mp hy with h2 | h2
    · rw [h1, h2]
    · exact absurd (List.mem_map.mpr ⟨y, h2, by rw [← e, h1]⟩ : f a ∈ l.map f) nd.1
    · exact absurd (List.mem_map.mpr ⟨x, h1, by rw [e, h2]⟩ : f a ∈ l.map f) nd.1
    · exact nodup_inj nd.2 h1 h2 e
theorem HW.app {H0 H : Hp} {wd lb : Addr} {wt : List Tri} {t : Int} {e : Tri} (h : HW H0 wd lb wt H) (he : e ∈ wt) (nk : (wt.map (·.1)).Nodup) : HW H0 wd lb (appW wt e.1 t) (upd H e.2.1 (.lst (e.2.2.map V.int ++ [V.int t]))) := by
  have wne : ∀ e ∈ wt, e.2.1 ≠ wd := fun e he z => by
    have := h.dl.2 e he
    rw [z, h.dl.1] at this
    cases this
  have one : ∀ x ∈ wt, x.1 = e.1 → x = e := fun x hx z => by
    have h1 := findA_of nk hx
    have h2 := findA_of nk he
    rw [z, h2] at h1
    cases h1
    rfl
  have two : ∀ x ∈ wt, x.2.1 = e.2.1 → x = e := fun x hx z => by
    exact nodup_inj h.nd hx he z
  refine ⟨⟨?_, fun x hx => ?_⟩, ?_, fun x hx => ?_, fun x hx => ?_⟩
  · rw [upd_ne (fun z => wne e he z.symm), triD_app]
    exact h.dl.1
  · obtain ⟨x', hx', e1, hc⟩ := mem_appW hx
    rcases hc with ⟨hk, hl, ha⟩ | ⟨hk, rfl⟩
    · obtain rfl := one x' hx' hk
      rw [ha, hl, upd_same, List.map_append]
      rfl
    · rw [upd_ne (fun z => hk (by rw [two x hx' z]))]
      exact h.dl.2 x hx'
  · have : (appW wt e.1 t).map (fun e => e.2.1) = wt.map fun e => e.2.1 := by
      unfold appW
      rw [List.map_map]
      apply List.map_congr_left
      intro e _
      dsimp
      split <;> rfl
    rw [this]
    exact h.nd
  · obtain ⟨x', hx', _, hc⟩ := mem_appW hx
    rcases hc with ⟨_, _, ha⟩ | ⟨_, rfl⟩
    · rw [ha]; exact h.fr x' hx'
    · exact h.fr x hx'
  · obtain ⟨x', hx', _, hc⟩ := mem_appW hx
    rcases hc with ⟨_, _, ha⟩ | ⟨_, rfl⟩
    · rw [ha]; exact h.nl x' hx'
    · exact h.nl x hx'
/-! all that stands while the sums grow -/
structure Cfg where
  x : Addr
  dx : Addr
  dp : Addr
  ds : Addr
  dl : Addr
  wd : Addr
  lb : Addr
  A : List Tri
  lo : Int
  hi : Int
  b : Int
  n0 : Int
  H0 : Hp
  L : List Int
def sumF (dp : Addr) (lo hi : Int) (ds dl : Addr) : List (Str × V) := [("pieces", .ref dp), ("lowest", .int lo), ("highest", .int hi), ("sizes", .ref ds), ("last_values", .ref dl)]
structure DI (K : PySem.W.Frag) (C : Cfg) (s : Int) (Lr : List Int) (ex : Option Int) (S : Int → Option Int) (N : Nat) (wt : List Tri) (H : Hp) : Prop where
  obj : H C.x = some (.ins (ga K "Sums") C.dx (sumF C.dp C.lo C.hi C.ds C.dl))
  sz : SzAt H C.ds S N
  lv : ∃ S', (∃ N', SzAt H C.dl S' N') ∧ ∀ t n, S' t = some n → t = C.b ∨ (C.lo ≤ t ∧ t ≤ C.hi)
  hw : HW C.H0 C.wd C.lb wt H
  frame : ∀ b o, C.H0 b = some o → b ≠ C.ds → b ≠ C.dl → b ≠ C.dp → H b = some o
  lb : H C.lb = some (.lst (C.L.map V.int))
  dp : DP C.A C.lo C.hi C.b C.n0 s wt Lr ex S N
/-- what does not change -/
structure COk (C : Cfg) : Prop where
  h0s : ∃ k, C.H0 C.ds = some (.dK k)
  h0l : ∃ k, C.H0 C.dl = some (.dK k)
  h0p : ∃ k, C.H0 C.dp = some (.dK k)
  h0x : ∃ o, C.H0 C.x = some o
  wd : C.H0 C.wd = none
  sl : C.ds ≠ C.dl
  sw : C.ds ≠ C.wd
  lw : C.dl ≠ C.wd
  sp : C.ds ≠ C.dp
  lp : C.dl ≠ C.dp
  wp : C.wd ≠ C.dp
  pcs : ∀ e ∈ C.A, C.H0 e.2.1 = some (.lst (e.2.2.map V.int)) ∧ 1 ≤ e.2.2.length ∧ e.2.2.length ≤ 6
  few : C.A.length ≤ 1000
  wide : C.hi - C.lo ≤ 100000
  lh : C.lo ≤ C.hi + 1
theorem DI.few {K : PySem.W.Frag} {C : Cfg} {s : Int} {Lr : List Int} {ex : Option Int} {S : Int → Option Int} {N : Nat} {wt : List Tri} {H : Hp} (h : DI K C s Lr ex S N wt H) (c : COk C) : (N : Int) ≤ C.hi - C.lo + 2 := h.sz.few h.dp.dom c.lh
theorem DI.same {K : PySem.W.Frag} {C : Cfg} {s : Int} {Lr : List Int} {ex : Option Int} {S : Int → Option Int} {N : Nat} {wt : List Tri} {H H' : Hp} (h : DI K C s Lr ex S N wt H) (k : Same H H') : DI K C s Lr ex S N wt H' :=
  ⟨k _ _ h.obj, h.sz.mono fun o => k _ o, let ⟨S', ⟨N', e⟩, d⟩ := h.lv; ⟨S', ⟨N', e.mono fun o => k _ o⟩, d⟩, h.hw.same k, fun b o q n1 n2 n3 => k _ _ (h.frame b o q n1 n2 n3), k _ _ h.lb, h.dp⟩
/-- the pieces' dict locked or not -/
theorem DI.pcs {K : PySem.W.Frag} {C : Cfg} {s : Int} {Lr : List Int} {ex : Option Int} {S : Int → Option Int} {N : Nat} {wt : List Tri} {H : Hp} {u o : HO} (h : DI K C s Lr ex S N wt H) (c : COk C) (hu : H C.dp = some u) (u1 : ∀ xs, u ≠ .lst xs) (u2 : ∀ a b c, u ≠ .ins a b c) : DI K C s Lr ex S N wt (upd H C.dp o) := by
  have nl : ∀ {b : Addr} {xs : List V}, H b = some (.lst xs) → b ≠ C.dp := fun {b xs} e z => by
    subst z
    rw [hu] at e
    exact u1 _ (Option.some.inj e)
  refine ⟨?_, h.sz.mono fun o q => by rw [upd_ne c.sp]; exact q, ?_, h.hw.keep (fun o q => by rw [upd_ne c.wp]; exact q) (fun b xs q => by rw [upd_ne (nl q)]; exact q), fun b o q n1 n2 n3 => by rw [upd_ne n3]; exact h.frame b o q n1 n2 n3, by rw [upd_ne (nl h.lb)]; exact h.lb, h.dp⟩
  · rw [upd_ne (fun z => by
      have := h.obj
      rw [z, hu] at this
      exact u2 _ _ _ (Option.some.inj this))]
    exact h.obj
  · obtain ⟨S', ⟨N', e⟩, d⟩ := h.lv
    exact ⟨S', ⟨N', e.mono fun o q => by rw [upd_ne c.lp]; exact q⟩, d⟩
theorem DI.bucket {K : PySem.W.Frag} {C : Cfg} {s : Int} {Lr : List Int} {ex : Option Int} {S : Int → Option Int} {N : Nat} {wt : List Tri} {H : Hp} (h : DI K C s Lr ex S N wt H) (c : COk C) {e : Tri} (he : e ∈ wt) : e.2.2.length ≤ 200000 := by
  obtain ⟨nd, h2⟩ := h.dp.tot e he
  have p := pigeonZ C.lo C.hi (e.2.2.erase C.b) (fun x hx => ?_) (nd.erase C.b) c.lh
  · have := List.length_erase (a := C.b) (l := e.2.2)
    have w := c.wide
    split at this <;> omega
  · obtain ⟨n, hn, _⟩ := h2 x (List.mem_of_mem_erase hx)
    rcases h.dp.dom x n hn with e2 | h3
    · exact absurd e2 ((List.Nodup.mem_erase_iff nd).mp hx).1
    · exact h3
/-- .. but for what waits, the pieces locked -/
structure RI (K : PySem.W.Frag) (C : Cfg) (od : Obj) (S : Int → Option Int) (N : Nat) (H : Hp) : Prop where
  obj : H C.x = some (.ins (ga K "Sums") C.dx (sumF C.dp C.lo C.hi C.ds C.dl))
  sz : SzAt H C.ds S N
  lv : ∃ S', (∃ N', SzAt H C.dl S' N') ∧ ∀ t n, S' t = some n → t = C.b ∨ (C.lo ≤ t ∧ t ≤ C.hi)
  frame : ∀ b o, C.H0 b = some o → b ≠ C.ds → b ≠ C.dl → b ≠ C.dp → H b = some o
  lb : H C.lb = some (.lst (C.L.map V.int))
  fz : H C.dp = some (.frz od (.dK (triD C.A)))
theorem RI.upd {K : PySem.W.Frag} {C : Cfg} {od : Obj} {S : Int → Option Int} {N : Nat} {H : Hp} {b : Addr} {o : HO} (h : RI K C od S N H) (c : COk C) (h0 : C.H0 b = none) (hl : b ≠ C.lb) : RI K C od S N (L2.upd H b o) := by
  have ne : ∀ {a : Addr}, (∃ o, C.H0 a = some o) → a ≠ b := fun {a} ⟨o, ho⟩ z => by subst z; rw [h0] at ho; cases ho
  have nx := ne c.h0x
  have ns := ne (let ⟨k, e⟩ := c.h0s; ⟨_, e⟩)
  have nd := ne (let ⟨k, e⟩ := c.h0l; ⟨_, e⟩)
  have np := ne (let ⟨k, e⟩ := c.h0p; ⟨_, e⟩)
  refine ⟨by rw [upd_ne nx]; exact h.obj, h.sz.mono fun o q => by rw [upd_ne ns]; exact q, ?_, fun a o q n1 n2 n3 => by rw [upd_ne (ne ⟨_, q⟩)]; exact h.frame a o q n1 n2 n3, by rw [upd_ne (fun z => hl z.symm)]; exact h.lb, by rw [upd_ne np]; exact h.fz⟩
  obtain ⟨S', ⟨N', e⟩, d⟩ := h.lv
  exact ⟨S', ⟨N', e.mono fun o q => by rw [upd_ne nd]; exact q⟩, d⟩
theorem RI.none0 {K : PySem.W.Frag} {C : Cfg} {od : Obj} {S : Int → Option Int} {N : Nat} {H : Hp} {p : Addr} (h : RI K C od S N H) (hp : H p = none) : C.H0 p = none := by
  cases e : C.H0 p with
  | none => rfl
  | some o =>
    have n1 : p ≠ C.ds := fun z => by obtain ⟨k, hk⟩ := h.sz.dict; rw [z, hk] at hp; cases hp
    have n2 : p ≠ C.dl := fun z => by
      obtain ⟨S', ⟨N', e⟩, _⟩ := h.lv
      obtain ⟨k, hk⟩ := e.dict
      rw [z, hk] at hp; cases hp
    have n3 : p ≠ C.dp := fun z => by rw [z, h.fz] at hp; cases hp
    have := h.frame p o e n1 n2 n3
    rw [hp] at this
    cases this
def sp_go (K : PySem.W.Frag) : Sp := fun vs H Q _ => ∃ (C : Cfg) (s tot : Int) (Lr : List Int) (S : Int → Option Int) (N : Nat) (wt : List Tri), vs = [.ref C.x, .int tot, .ref C.wd] ∧ COk C ∧ H C.dp = some (.dK (triD C.A)) ∧ DI K C s Lr (some tot) S N wt H ∧ S tot = some s ∧
  ∀ H' S' N' wt', H' C.dp = some (.dK (triD C.A)) → DI K C s Lr none S' N' wt' H' → (∀ t n, S t = some n → n ≤ s → S' t = some n) → Q .non H'

theorem sc_go_on_from : FnScope ["self", "total", "waiting", "value", "piece", "later", "size"] ["self", "total", "waiting"] (defScope (atC 37 2)) := ⟨rfl, rfl, rfl, by decide +kernel, rfl, by decide +kernel, by decide +kernel⟩
theorem R_go_on_from (T : Txt K mg) : FnR P w K mg base CX0 2 (ma K (ga K "Sums") "go_on_from") (sp_go K) := by
  obtain ⟨fd, F⟩ := T.go_on_from.F
  have sc := sc_go_on_from
  refine Fun.raw F sc (fun vs H Q E h => ?_) (fun _ _ _ _ _ _ us hl => match us, hl with | [_, _, _], _ => rfl) (fun cdv A outer s H vs Q E hr h => ?_)
  · obtain ⟨_, _, _, _, _, _, _, rfl, _⟩ := h
    rfl
  obtain ⟨C, s0, tot, Lr, S, N, wt, rfl, c, hdp, I, hS, q⟩ := h
  refine ⟨_, (pss_one <| ps_lock
    (ps_for PassesOwn.never rfl (pi_items (pe_fld (pv 0) rfl)) (pg_tup (by rfl) (pgs_cons (pg_name (i := 3) sc.nd rfl (by first | exact Or.inl rfl | exact Or.inr rfl)) (pgs_cons (pg_name (i := 4) sc.nd rfl (by first | exact Or.inl rfl | exact Or.inr rfl)) pgs_nil)))
      (pss_cons
      (ps_set (i := 5) sc.nd rfl (by first | exact Or.inl rfl | exact Or.inr rfl) (pe_op op_add (pv 1) (pv 3)))
      (pss_cons
      (ps_set (i := 6) sc.nd rfl (by first | exact Or.inl rfl | exact Or.inr rfl) (pe_op op_add (pe_dget (hu_of hr) (pe_fld (pv 0) rfl) (pv 1) (fun _ _ => rfl)) (pe_callB call_len_seq (by rfl) T.b_len bt_len (pa_cons (pv 4) pa_nil))))
      (pss_one
      (ps_if (PW.pt (pw_and (pt_chain op_le op_le (pe_fld (pv 0) rfl) (pv 5) (pe_fld (pv 0) rfl)) (pw_and1 (pt_cmpR op_lt (pv 6) (pe_dget2 (hu_of hr) (pe_fld (pv 0) rfl) (pv 5) (pe_op op_add (pv 6) pe_int) ⟨by rfl, by rfl, by rfl, by rfl⟩) (nomark _)))))
        (pss_cons
        (ps_dput (hu_of hr) (pe_fld (pv 0) rfl) (pv 5) (pv 6) rfl)
        (pss_cons
        (ps_dput (hu_of hr) (pe_fld (pv 0) rfl) (pv 5) (pv 3) rfl)
        (pss_cons
        (ps_if (pt_cmp (pc_dnotin (hu_of hr) (pv 6) (pv 2)))
          (pss_one
          (ps_dput (hu_of hr) (pv 2) (pv 6) (pe_lst pa_nil) rfl))
          pss_nil)
        (pss_one
        (ps_expr (pe_bm PySem.F.plainAttrs_list PySem.F.slot_list_append PySem.F.type_list_append mt_append (pe_dget (hu_of hr) (pv 2) (pv 6) (fun _ _ => rfl)) (pa_cons (pv 5) pa_nil)))))))
        pss_nil)))))), ?_⟩
  refine ⟨C.dp, _, hdp, trivial, fun od => ?_⟩
  have I0 := I.pcs (o := .frz od (.dK (triD C.A))) c hdp (fun _ z => by cases z) (fun _ _ _ z => by cases z)
  have hfz : (upd H C.dp (.frz od (.dK (triD C.A)))) C.dp = some (.frz od (.dK (triD C.A))) := upd_same
  generalize (upd H C.dp (.frz od (.dK (triD C.A)))) = Hl at I0 hfz
  clear I hdp
  refine ⟨_, rfl, C.x, _, C.dx, _, _, rfl, I0.obj, T.Sums.c, T.n_pieces, by rfl, C.dp, od, _, rfl, hfz, for_it walk_items (fun i σ G => ∃ S2 N2 wt2 o3 o4 o5 o6, σ = [some (V.ref C.x), some (V.int tot), some (V.ref C.wd), o3, o4, o5, o6] ∧ G C.dp = some (.frz od (.dK (triD C.A))) ∧
      DI K C s0 Lr (some tot) S2 N2 wt2 G ∧ S2 tot = some s0 ∧ PartC (C.A.take i) C.lo C.hi S2 tot s0 ∧ (∀ t n, S t = some n → n ≤ s0 → S2 t = some n))
    ⟨S, N, wt, _, _, _, _, rfl, hfz, I0, hS, fun e he => by simp at he, fun _ _ h _ => h⟩ (fun i σ G _ ⟨_, _, _, _, _, _, _, _, h, _⟩ => h) ?_ ?_⟩
  · rintro i y σ G0 G hi ⟨S2, N2, wt2, o3, o4, o5, o6, rfl, hfz, I2, hS2, pt, kS⟩ yy
    obtain ⟨T', y1, y2, rfl, hT, rfl, e1, e2⟩ := yy
    have hi' : i < C.A.length := by simpa [triD_len] using hi
    obtain ⟨e, he⟩ : ∃ e, C.A[i]? = some e := ⟨_, List.getElem?_eq_getElem hi'⟩
    have tk : C.A.take (i + 1) = C.A.take i ++ [e] := by rw [List.take_add_one, he] <;> rfl
    have heA := List.mem_of_getElem? he
    obtain ⟨hpl, len1, len6⟩ := c.pcs e heA
    have e1 : (triD C.A)[i]?.map (fun kv => kV kv.1) = some y1 := e1
    have e2 : (triD C.A)[i]?.map Prod.snd = some y2 := e2
    have te : (triD C.A)[i]? = some ((.inl e.1 : Key), V.ref e.2.1) := by unfold triD; rw [List.getElem?_map, he] <;> rfl
    rw [te] at e1 e2
    cases e1
    cases e2
    have sT : Same G0 (upd G0 T' (.tup [kV (.inl e.1), V.ref e.2.1])) := same_new hT
    have I3 := I2.same sT
    have hfz3 := sT _ _ hfz
    have hT3 : (upd G0 T' (.tup [kV (.inl e.1), V.ref e.2.1])) T' = some (.tup [kV (.inl e.1), V.ref e.2.1]) := upd_same
    generalize (upd G0 T' (.tup [kV (.inl e.1), V.ref e.2.1])) = G at I3 hfz3 hT3
    -- the piece is not one of the dicts
    obtain ⟨kz, hkz⟩ := I3.sz.dict
    obtain ⟨S', ⟨N', hlv⟩, hdl⟩ := id I3.lv
    obtain ⟨kl, hkl⟩ := hlv.dict
    have pe1 : C.H0 e.2.1 = some (.lst (e.2.2.map V.int)) := hpl
    have nd0 : ∀ {b : Addr}, (∃ k, C.H0 b = some (.dK k)) → e.2.1 ≠ b := fun {b} ⟨k, hk⟩ z => by
      rw [z, hk] at pe1
      cases pe1
    have hpce : G e.2.1 = some (.lst (e.2.2.map V.int)) := I3.frame _ _ pe1 (nd0 c.h0s) (nd0 c.h0l) (nd0 c.h0p)
    refine ⟨T', _, rfl, sqT hT3, rfl, _, _, rfl, _, _, rfl, rfl, ?_⟩
    refine ⟨_, rfl, _, rfl, _, _, rfl, rfl, ?_⟩
    refine ⟨_, rfl, C.x, _, C.dx, _, _, rfl, I3.obj, T.Sums.c, T.n_sizes, by rfl, _, rfl, C.ds, V.int s0, rfl, by have := I3.sz.get tot; rw [hS2] at this; exact this, _, rfl, e.2.1, _, rfl, .inl (sqL hpce), _, _, rfl, rfl, ?_⟩
    rw [List.length_map]
    -- a new sum, or one with fewer signs
    have fin : C.lo ≤ tot + e.1 → tot + e.1 ≤ C.hi → (∀ y, S2 (tot + e.1) = some y → s0 + e.2.2.length < y) → ∀ D : Ends, D.nx = (fun σ G => ∃ S2 N2 wt2 o3 o4 o5 o6, σ = [some (V.ref C.x), some (V.int tot), some (V.ref C.wd), o3, o4, o5, o6] ∧ G C.dp = some (.frz od (.dK (triD C.A))) ∧
          DI K C s0 Lr (some tot) S2 N2 wt2 G ∧ S2 tot = some s0 ∧ PartC (C.A.take (i + 1)) C.lo C.hi S2 tot s0 ∧ (∀ t n, S t = some n → n ≤ s0 → S2 t = some n)) →
        tSeq (sDPut (tFld K (tVar 0) "sizes") (tVar 5) (tVar 6)) (tSeq (sDPut (tFld K (tVar 0) "last_values") (tVar 5) (tVar 3)) (tSeq (tIfS (tB (tDNotIn (tVar 6) (tVar 2))) (sDPut (tVar 2) (tVar 6) (tLst tNil)) tNext)
          (tDrop (tBM K "list" rAppend (tDGet (tVar 2) (tVar 6)) (tCons (tVar 5) tNil))))) D
          [some (V.ref C.x), some (V.int tot), some (V.ref C.wd), some (V.int e.1), some (V.ref e.2.1), some (V.int (tot + e.1)), some (V.int (s0 + e.2.2.length))] G := fun h1 h2 hb D hD => by
      have few := I3.few c
      have wide := c.wide
      obtain ⟨kvs, hkv, hkn, hput⟩ := I3.sz.put (tot + e.1) (s0 + e.2.2.length)
      obtain ⟨kvl, hkvl, hknl, hputl⟩ := hlv.put (tot + e.1) e.1
      have fewl := hlv.few hdl c.lh
      have xds : C.x ≠ C.ds := fun z => by have := I3.obj; rw [z, hkv] at this; cases this
      have xdl : C.x ≠ C.dl := fun z => by have := I3.obj; rw [z, hkvl] at this; cases this
      have xwd : C.x ≠ C.wd := fun z => by have := I3.obj; rw [z, I3.hw.dl.1] at this; cases this
      have lne : ∀ {b : Addr} {xs : List V} {d : Addr} {k : List (Key × V)}, G b = some (.lst xs) → G d = some (.dK k) → b ≠ d := fun {b xs d k} q1 q2 z => by subst z; rw [q1] at q2; cases q2
      refine ⟨_, rfl, _, rfl, C.x, _, C.dx, _, _, rfl, I3.obj, T.Sums.c, T.n_sizes, by rfl, _, rfl, C.ds, _, rfl, DPut.k (k := .inl (tot + e.1)) hkv (by rw [hkn]; exact sz_lt (by omega)), ?_⟩
      refine ⟨_, rfl, _, rfl, C.x, _, C.dx, _, _, rfl, by rw [upd_ne xds]; exact I3.obj, T.Sums.c, T.n_last_values, by rfl, _, rfl, C.dl, _, rfl, DPut.k (k := .inl (tot + e.1)) (by rw [upd_ne c.sl.symm]; exact hkvl) (by rw [hknl]; exact sz_lt (by omega)), ?_⟩
      -- the heap behind the two stores
      have R : RI K C od (setS S2 (tot + e.1) (s0 + e.2.2.length)) (if (S2 (tot + e.1)).isSome then N2 else N2 + 1) (upd (upd G C.ds (.dK (putK kvs (.inl (tot + e.1)) (.int (s0 + e.2.2.length))))) C.dl (.dK (putK kvl (.inl (tot + e.1)) (.int e.1)))) := by
        refine ⟨by rw [upd_ne xdl, upd_ne xds]; exact I3.obj, hput.mono fun o q => by rw [upd_ne c.sl]; exact q, ⟨setS S' (tot + e.1) e.1, ⟨_, hputl.mono fun o q => ?_⟩, fun t n q => ?_⟩, fun b o q n1 n2 n3 => by rw [upd_ne n2, upd_ne n1]; exact I3.frame b o q n1 n2 n3, by rw [upd_ne (lne I3.lb hkvl), upd_ne (lne I3.lb hkv)]; exact I3.lb, by rw [upd_ne c.lp.symm, upd_ne c.sp.symm]; exact hfz3⟩
        · rw [upd_same] at q ⊢
          exact q
        · unfold setS at q
          split at q
          · rename_i z
            exact .inr (by rw [z]; exact ⟨h1, h2⟩)
          · exact hdl t n q
      have W : HW C.H0 C.wd C.lb wt2 (upd (upd G C.ds (.dK (putK kvs (.inl (tot + e.1)) (.int (s0 + e.2.2.length))))) C.dl (.dK (putK kvl (.inl (tot + e.1)) (.int e.1)))) :=
        I3.hw.keep (fun o q => by rw [upd_ne c.lw.symm, upd_ne c.sw.symm]; exact q) fun b xs q => by rw [upd_ne (lne q hkvl), upd_ne (lne q hkv)]; exact q
      generalize (upd (upd G C.ds (.dK (putK kvs (.inl (tot + e.1)) (.int (s0 + e.2.2.length))))) C.dl (.dK (putK kvl (.inl (tot + e.1)) (.int e.1)))) = G2 at R W
      clear hput hputl
      -- the store into its bucket
      have last : ∀ (p : Nat) (G3 : Hp), RI K C od (setS S2 (tot + e.1) (s0 + e.2.2.length)) (if (S2 (tot + e.1)).isSome then N2 else N2 + 1) G3 → HW C.H0 C.wd C.lb (newW wt2 (s0 + e.2.2.length) p) G3 →
          tDrop (tBM K "list" rAppend (tDGet (tVar 2) (tVar 6)) (tCons (tVar 5) tNil)) D [some (V.ref C.x), some (V.int tot), some (V.ref C.wd), some (V.int e.1), some (V.ref e.2.1), some (V.int (tot + e.1)), some (V.int (s0 + e.2.2.length))] G3 := fun p G3 R W => by
        obtain ⟨dp2, keep⟩ := I3.dp.put (p := p) (N' := if (S2 (tot + e.1)).isSome then N2 else N2 + 1) hS2 heA ⟨len1, len6⟩ h1 h2 hb (by split <;> rfl)
        obtain ⟨w0, hw0, hk0⟩ := newW_has wt2 (s0 + e.2.2.length) p
        have ndw := newW_nd (p := p) (k := s0 + e.2.2.length) I3.dp.nd
        have hf := findA_of ndw hw0
        rw [hk0] at hf
        have hget : DGet G3 C.wd (.int (s0 + e.2.2.length)) (some (.ref w0.2.1)) := by
          have := DGet.k (k := .inl (s0 + (e.2.2.length : Int))) W.dl.1
          rw [triD_get, hf] at this
          exact this
        have hl0 := W.dl.2 w0 hw0
        have lim : w0.2.2.length ≤ 200000 := by
          rcases newW_mem hw0 with h | ⟨h, _⟩
          · exact I3.bucket c h
          · rw [h]; simp
        refine ⟨_, rfl, _, rfl, C.wd, _, rfl, hget, .inl ⟨rfl, _, sqL hl0⟩, _, rfl, w0.2.1, _, _, rfl, rfl, hl0, by rw [List.length_map]; exact sz_lt (by omega), ?_⟩
        rw [hD]
        have R5 := R.upd (b := w0.2.1) (o := .lst (w0.2.2.map V.int ++ [V.int (tot + e.1)])) c (W.fr w0 hw0) (W.nl w0 hw0)
        have W5 := W.app (t := tot + e.1) hw0 ndw
        rw [hk0] at W5
        refine ⟨_, _, _, _, _, _, _, rfl, R5.fz, ⟨R5.obj, R5.sz, R5.lv, W5, R5.frame, R5.lb, dp2⟩, keep _ _ hS2 (Int.le_refl _), ?_, fun t n q hn => keep t n (kS t n q hn) hn⟩
        rw [tk]
        exact pt.put hb
      refine ⟨_, rfl, _, rfl, C.wd, _, rfl, DGet.k (k := .inl (s0 + (e.2.2.length : Int))) W.dl.1, _, rfl, ?_⟩
      rw [triD_get]
      cases hf : findA wt2 (s0 + e.2.2.length) with
      | none =>
        have lenw : wt2.length ≤ 700000 := by
          have ge := (I3.dp.sound tot s0 hS2).ge
          have few2 := I3.few c
          have p := pigeonZ s0 (C.n0 + 6 * ((N2 : Int) - 1)) (wt2.map (·.1)) (fun k hk => by
            obtain ⟨x, hx, rfl⟩ := List.mem_map.mp hk
            have := I3.dp.keys x hx
            omega) I3.dp.nd (by have := I3.dp.bd tot s0 hS2; omega)
          rw [List.length_map] at p
          omega
        refine iteT ⟨by simp [sizeLine_eq], fun p hp => ⟨_, rfl, _, rfl, C.wd, _, rfl, DPut.k (k := .inl (s0 + (e.2.2.length : Int))) (by rw [upd_ne (ne_of_none W.dl.1 hp)]; exact W.dl.1) (by rw [triD_len]; exact sz_lt (by omega)), ?_⟩⟩
        refine last p _ ?_ (W.new hp (R.none0 hp) ⟨_, R.lb⟩ (findA_none hf))
        exact (R.upd c (R.none0 hp) (ne_of_none R.lb hp).symm).upd c c.wd (fun z => by
          have := R.lb
          rw [← z, W.dl.1] at this
          cases this)
      | some w1 =>
        refine iteF ?_
        have e1 : newW wt2 (s0 + e.2.2.length) 0 = wt2 := by
          obtain ⟨m1, m2⟩ := findA_some hf
          unfold newW
          rw [if_pos (List.any_eq_true.mpr ⟨w1, m1, by simpa using m2⟩)]
        exact last 0 G2 R (by rw [e1]; exact W)
    have stay : (C.lo ≤ tot + e.1 → tot + e.1 ≤ C.hi → ∃ m, S2 (tot + e.1) = some m ∧ m ≤ s0 + e.2.2.length) → (∃ S2 N2 wt2 o3 o4 o5 o6, [some (V.ref C.x), some (V.int tot), some (V.ref C.wd), some (V.int e.1), some (V.ref e.2.1), some (V.int (tot + e.1)), some (V.int (s0 + e.2.2.length))] = [some (V.ref C.x), some (V.int tot), some (V.ref C.wd), o3, o4, o5, o6] ∧ G C.dp = some (.frz od (.dK (triD C.A))) ∧
          DI K C s0 Lr (some tot) S2 N2 wt2 G ∧ S2 tot = some s0 ∧ PartC (C.A.take (i + 1)) C.lo C.hi S2 tot s0 ∧ (∀ t n, S t = some n → n ≤ s0 → S2 t = some n)) := fun hk => ⟨S2, N2, wt2, _, _, _, _, rfl, hfz3, I3, hS2, by rw [tk]; exact pt.keep hk, kS⟩
    refine ⟨_, rfl, C.x, _, C.dx, _, _, rfl, I3.obj, T.Sums.c, T.n_lowest, by rfl, _, rfl, _, _, rfl, rfl, _, rfl, ite2 (fun z => ?_) fun z => ?_⟩
    rotate_left
    · refine ⟨_, rfl, iteF (stay fun g _ => absurd (by simpa using g) z)⟩
    have z1 := of_decide_eq_true z
    refine ⟨_, rfl, C.x, _, C.dx, _, _, rfl, I3.obj, T.Sums.c, T.n_highest, by rfl, _, _, rfl, rfl, _, rfl, ite2 (fun z => ?_) fun z => ?_⟩
    rotate_left
    · exact iteF (stay fun _ g => absurd (by simpa using g) z)
    have z2 := of_decide_eq_true z
    cases hl : S2 (tot + e.1) with
    | none =>
      refine ⟨_, rfl, _, rfl, C.x, _, C.dx, _, _, rfl, I3.obj, T.Sums.c, T.n_sizes, by rfl, C.ds, rfl, .inl ⟨_, .inl hkz⟩, _, rfl, _, rfl, _, _, rfl, rfl, none, by have := I3.sz.get (tot + e.1); rw [hl] at this; exact this, _, _, rfl, rfl, true, ?_, iteT (fin z1 z2 (fun y q => by rw [hl] at q; cases q) _ rfl)⟩
      show V.bl (decide (s0 + (e.2.2.length : Int) < s0 + (e.2.2.length : Int) + 1)) = _
      rw [decide_eq_true (by omega)]
    | some y =>
      refine ⟨_, rfl, _, rfl, C.x, _, C.dx, _, _, rfl, I3.obj, T.Sums.c, T.n_sizes, by rfl, C.ds, rfl, .inl ⟨_, .inl hkz⟩, _, rfl, _, rfl, _, _, rfl, rfl, some (.int y), by have := I3.sz.get (tot + e.1); rw [hl] at this; exact this, _, _, rfl, rfl, _, rfl, ite2 (fun z => ?_) fun z => ?_⟩
      · have z3 := of_decide_eq_true z
        exact fin z1 z2 (fun y' q => by rw [hl] at q; cases q; exact z3) _ rfl
      · have z3 : ¬ s0 + (e.2.2.length : Int) < y := by simpa using z
        exact stay fun _ _ => ⟨y, hl, by omega⟩
  · rintro σ G ⟨S2, N2, wt2, o3, o4, o5, o6, rfl, hfz, I2, hS2, pt, kS⟩
    rw [triD_len, List.take_length] at pt
    refine ⟨hfz, q _ S2 N2 wt2 upd_same ?_ kS⟩
    have I4 := I2.pcs (o := .dK (triD C.A)) c hfz (fun _ z => by cases z) (fun _ _ _ z => by cases z)
    exact ⟨I4.obj, I4.sz, I4.lv, I4.hw, I4.frame, I4.lb, I4.dp.done hS2 pt⟩
end
end K75R
set_option Elab.async false
set_option linter.all false
set_option maxRecDepth 100000
set_option maxHeartbeats 4000000
namespace K75R
open PySem PySem.Spec PyProof.Rows L2
section
variable {P : Program} {w : World} {K : PySem.W.Frag} {mg : Str → Option Value} {base : Heap}
open K75
/-! the sums grow -/
structure POk (A : List Tri) (lo hi : Int) (H : Hp) : Prop where
  pcs : ∀ e ∈ A, H e.2.1 = some (.lst (e.2.2.map V.int)) ∧ 1 ≤ e.2.2.length ∧ e.2.2.length ≤ 6
  few : A.length ≤ 1000
  wide : hi - lo ≤ 100000
  lh : lo ≤ hi + 1
def sp_grow (K : PySem.W.Frag) : Sp := fun vs H Q _ => ∃ (x dx dp ds dl bg : Addr) (A : List Tri) (lo hi b n0 : Int), vs = [.ref x, .ref bg] ∧ H x = some (.ins (ga K "Sums") dx (sumF dp lo hi ds dl)) ∧ H bg = some (.tup [.int b, .int n0]) ∧ H dp = some (.dK (triD A)) ∧ POk A lo hi H ∧
  SzAt H ds (setS (fun _ => none) b n0) 1 ∧ H dl = some (.dK []) ∧ ds ≠ dl ∧ ds ≠ dp ∧ dl ≠ dp ∧
  ∀ H' S N, (∀ b o, H b = some o → b ≠ ds → b ≠ dl → H' b = some o) → SzAt H' ds S N → LeastS A lo hi b n0 S → Q .non H'
/-- what stands between the rounds -/
structure HI (H : Hp) (wd x ds dl : Addr) (A : List Tri) (lo hi b n0 s : Int) (S : Int → Option Int) (N : Nat) (wt : List Tri) (G : Hp) : Prop where
  sz : SzAt G ds S N
  lv : ∃ S', (∃ N', SzAt G dl S' N') ∧ ∀ t n, S' t = some n → t = b ∨ (lo ≤ t ∧ t ≤ hi)
  hw : HW H wd x wt G
  frame : ∀ b o, H b = some o → b ≠ ds → b ≠ dl → G b = some o
  dp : DP A lo hi b n0 (s - 1) wt [] none S N
theorem HI.same {H G G' : Hp} {wd x ds dl : Addr} {A : List Tri} {lo hi b n0 s : Int} {S : Int → Option Int} {N : Nat} {wt : List Tri} (h : HI H wd x ds dl A lo hi b n0 s S N wt G) (k : Same G G') : HI H wd x ds dl A lo hi b n0 s S N wt G' :=
  ⟨h.sz.mono fun o => k _ o, let ⟨S', ⟨N', e⟩, d⟩ := h.lv; ⟨S', ⟨N', e.mono fun o => k _ o⟩, d⟩, h.hw.same k, fun b o q n1 n2 => k _ _ (h.frame b o q n1 n2), h.dp⟩
theorem dropW_sub {wt : List Tri} {s : Int} : (dropW wt s).Sublist wt := List.filter_sublist
theorem dropK_triD (wt : List Tri) (s : Int) : dropK (triD wt) (.inl s) = triD (dropW wt s) := by
  unfold dropK triD dropW
  rw [List.filter_map]
  congr 1
  apply List.filter_congr
  intro e _
  rw [Bool.eq_iff_iff]
  simp only [Function.comp, decide_eq_true_eq]
  exact ⟨fun h z => h (by rw [z]), fun h z => h (Sum.inl.inj z)⟩

theorem sc_grow : FnScope ["self", "begin", "waiting", "size", "total"] ["self", "begin"] (defScope (atC 37 1)) := ⟨rfl, rfl, rfl, by decide +kernel, rfl, by decide +kernel, by decide +kernel⟩
theorem R_grow (T : Txt K mg) : FnR P w K mg base CX0 3 (ma K (ga K "Sums") "grow") (sp_grow K) := by
  obtain ⟨fd, F⟩ := T.grow.F
  have sc := sc_grow
  refine Fun.raw F sc (fun vs H Q E h => ?_) (fun _ _ _ _ _ _ us hl => match us, hl with | [_, _], _ => rfl) (fun cdv A outer s H vs Q E hr h => ?_)
  · obtain ⟨_, _, _, _, _, _, _, _, _, _, _, rfl, _⟩ := h
    rfl
  obtain ⟨x, dx, dp, ds, dl, bg, A, lo, hi, b, n0, rfl, hx, hbg, hdp, pok, hsz, hdl, nsl, nsp, nlp, q⟩ := h
  refine ⟨_, (pss_cons
    (ps_set (i := 2) sc.nd rfl (by first | exact Or.inl rfl | exact Or.inr rfl) (pe_disp (pps_cons (pe_ix ix_tup (pv 1) pe_int (fun _ _ => rfl)) (pe_lst (pa_cons (pe_ix ix_tup (pv 1) pe_int (fun _ _ => rfl)) pa_nil)) pps_nil) (by rfl) (by rfl) (fun z => by cases z) (by decide)))
    (pss_cons
    (ps_set (i := 3) sc.nd rfl (by first | exact Or.inl rfl | exact Or.inr rfl) (pe_ix ix_tup (pv 1) pe_int (fun _ _ => rfl)))
    (pss_one
    (ps_while PassesOwn.never (pt_cmpR (op_neDL hr.units0) (pv 2) pe_dnewK (nomark _))
      (pss_cons
      (ps_for PassesOwn.never rfl (pi_list (pe_dpop2 (pv 2) (pv 3) (pe_lst pa_nil) ⟨by rfl, by rfl, by rfl, by rfl⟩)) (pg_name (i := 4) sc.nd rfl (by first | exact Or.inl rfl | exact Or.inr rfl))
        (pss_one
        (ps_if (pt_cmpR op_eq (pe_dget (hu_of hr) (pe_fld (pv 0) rfl) (pv 4) (fun _ _ => rfl)) (pv 3) (nomark _))
          (pss_one
          (ps_expr (pe_methI (ι := Unit) (pv 0) (fun _ => T.Sums.c) (fun _ => T.go_on_from.at_) (fun _ => R_go_on_from T) hr (E := E0) pass0 (pa_cons (pv 4) (pa_cons (pv 2) pa_nil)))))
          pss_nil)))
      (pss_one
      (ps_aug (i := 3) sc.nd rfl (Or.inl rfl) pe_int ip_add))))))), ?_⟩
  intro wd hwd
  have s0 : Same H (upd H wd (.dK [])) := same_new hwd
  refine ⟨_, rfl, bg, _, 1, _, rfl, rfl, sqT (s0 _ _ hbg), rfl, _, rfl, bg, _, 0, _, rfl, rfl, sqT (s0 _ _ hbg), rfl, by simp [sizeLine_eq], fun p hp => ?_⟩
  have wdp : wd ≠ p := fun z => by subst z; rw [upd_same] at hp; cases hp
  refine ⟨by rw [upd_ne wdp, upd_same], [((.inl n0 : Key), V.ref p)], rfl, by simp, ?_⟩
  have mk : mergeK ([] : List (Key × V)) [((.inl n0 : Key), V.ref p)] = triD [(n0, p, [b])] := by rfl
  rw [mk]
  have hpH := (none_of_upd hp).1
  have s1 : Same H (upd (upd (upd H wd (.dK [])) p (.lst [V.int b])) wd (.dK (triD [(n0, p, [b])]))) := same_put (s0.trans (same_new hp)) hwd
  have hw1 : HW H wd x [(n0, p, [b])] (upd (upd (upd H wd (.dK [])) p (.lst [V.int b])) wd (.dK (triD [(n0, p, [b])]))) := by
    refine ⟨⟨upd_same, fun e he => ?_⟩, by simp, fun e he => ?_, fun e he => ?_⟩
    · rw [List.mem_singleton.mp he, upd_ne wdp.symm, upd_same] <;> rfl
    · rw [List.mem_singleton.mp he]; exact hpH
    · rw [List.mem_singleton.mp he]; exact (ne_of_none hx hpH).symm
  have I0 : HI H wd x ds dl A lo hi b n0 n0 (setS (fun _ => none) b n0) 1 [(n0, p, [b])] (upd (upd (upd H wd (.dK [])) p (.lst [V.int b])) wd (.dK (triD [(n0, p, [b])]))) :=
    ⟨hsz.mono fun o => s1 _ o, ⟨fun _ => none, ⟨0, [], s1 _ _ hdl, fun _ => rfl, by simp, fun k hk => by simp at hk, rfl⟩, fun t n h => by cases h⟩, hw1, fun b o q _ _ => s1 _ _ q, DP.init⟩
  generalize (upd (upd (upd H wd (.dK [])) p (.lst [V.int b])) wd (.dK (triD [(n0, p, [b])]))) = G0 at I0 s1
  have w0 := pok.wide
  have lh0 := pok.lh
  refine ⟨_, rfl, bg, _, 1, _, rfl, rfl, sqT (s1 _ _ hbg), rfl, ?_⟩
  refine ⟨fun m σ G => ∃ S N wt s o4, σ = [some (V.ref x), some (V.ref bg), some (V.ref wd), some (V.int s), o4] ∧ HI H wd x ds dl A lo hi b n0 s S N wt G ∧ n0 ≤ s ∧ m = (n0 + 6 * (hi - lo + 2) + 1 - s).toNat, ⟨_, _, _, _, _, _, rfl, I0, Int.le_refl _, rfl⟩, ?_⟩
  clear I0 hw1 mk s1 hpH wdp s0
  rintro m σ G ⟨S, N, wt, s, o4, rfl, I, hns, rfl⟩
  refine ⟨_, rfl, fun e he => ⟨wd, e, _, rfl, rfl, (same_new he) _ _ I.hw.dl.1, upd_same, _, rfl, ?_⟩⟩
  have I := I.same (same_new (o := .dK []) he)
  generalize upd G e (.dK []) = G at I
  clear he e
  by_cases hwt : wt = []
  · subst hwt
    exact iteF (q _ S N I.frame I.sz I.dp.least)
  have ne : (!(triD wt).isEmpty) = true := by
    cases wt with
    | nil => exact absurd rfl hwt
    | cons a b => rfl
  rw [ne]
  refine iteT ⟨fun σ' G' => ∃ m', m' < (n0 + 6 * (hi - lo + 2) + 1 - s).toNat ∧ ∃ S N wt s o4, σ' = [some (V.ref x), some (V.ref bg), some (V.ref wd), some (V.int s), o4] ∧ HI H wd x ds dl A lo hi b n0 s S N wt G' ∧ n0 ≤ s ∧ m' = (n0 + 6 * (hi - lo + 2) + 1 - s).toNat, fun _ _ z => z, ?_⟩
  -- the round's number is within
  have fewN := I.sz.few I.dp.dom lh0
  have sB : s ≤ n0 + 6 * (hi - lo + 2) := by
    cases wt with
    | nil => exact absurd rfl hwt
    | cons e wt =>
      have := I.dp.keys e (by simp)
      omega
  -- the loop over a bucket that is taken out
  have loop : ∀ (lb : Addr) (L : List Int) (G1 : Hp) (o4' : Option V), G1 lb = some (.lst (L.map V.int)) → (∀ t ∈ L, ∃ n, S t = some n ∧ n ≤ s) → HI H wd x ds dl A lo hi b n0 s S N wt G → (∀ b o, H b = some o → b ≠ ds → b ≠ dl → G1 b = some o) → SzAt G1 ds S N → (∃ S', (∃ N', SzAt G1 dl S' N') ∧ ∀ t n, S' t = some n → t = b ∨ (lo ≤ t ∧ t ≤ hi)) → HW H wd lb (dropW wt s) G1 →
      DP A lo hi b n0 s (dropW wt s) L none S N → ∀ D : Ends, D.nx = tAug 3 (tC (V.int 1)) (ipI fun i j => i + j) { nx := fun σ' G' => ∃ m', m' < (n0 + 6 * (hi - lo + 2) + 1 - s).toNat ∧ ∃ S N wt s o4, σ' = [some (V.ref x), some (V.ref bg), some (V.ref wd), some (V.int s), o4] ∧ HI H wd x ds dl A lo hi b n0 s S N wt G' ∧ n0 ≤ s ∧ m' = (n0 + 6 * (hi - lo + 2) + 1 - s).toNat, rt := Q } →
      ∃ W : Nat → Nat → L2.St → Hp → Prop, (∃ m, W 0 m [some (V.ref x), some (V.ref bg), some (V.ref wd), some (V.int s), o4'] G1) ∧ ∀ i m σ H', W i m σ H' → ((Itl K lb).stop i H' ∧ D.nx σ H') ∨ ((Itl K lb).go i H' ∧ ∃ Nx : L2.St → Hp → Prop, (∀ σ' H'', Nx σ' H'' → ∃ m', m' < m ∧ W (i + 1) m' σ' H'') ∧ ∀ y H'', (Itl K lb).yld i H' y H'' →
        gName 4 y σ H'' fun σ2 H2 => tIfS (tTest (tOp rEq (tDGet (tFld K (tVar 0) "sizes") (tVar 4)) (tVar 3))) (tDrop (tMethI (fun _ : Unit => ga K "Sums") "go_on_from" (fun _ => sp_go K) E0 (tVar 0) (tCons (tVar 4) (tCons (tVar 2) tNil)))) tNext { D with nx := Nx, ct := Nx, bk := D.nx } σ2 H2) := by
    intro lb L G1 o4' hlb hL I frame1 sz1 lv1 hw1 dp1 D hD
    have cok : COk (⟨x, dx, dp, ds, dl, wd, lb, A, lo, hi, b, n0, H, L⟩ : Cfg) := by
      obtain ⟨k, hk, _⟩ := id hsz
      exact ⟨⟨k, hk⟩, ⟨_, hdl⟩, ⟨_, hdp⟩, ⟨_, hx⟩, hwd, nsl, ne_of_none hk hwd, ne_of_none hdl hwd, nsp, nlp, (ne_of_none hdp hwd).symm, pok.pcs, pok.few, w0, lh0⟩
    have xds : x ≠ ds := fun z => by obtain ⟨k, hk, _⟩ := id hsz; rw [z, hk] at hx; cases hx
    have xdl : x ≠ dl := fun z => by rw [z, hdl] at hx; cases hx
    have J0 : DI K (⟨x, dx, dp, ds, dl, wd, lb, A, lo, hi, b, n0, H, L⟩ : Cfg) s L none S N (dropW wt s) G1 := ⟨frame1 _ _ hx xds xdl, sz1, lv1, hw1, fun c o q n1 n2 _ => frame1 c o q n1 n2, hlb, dp1⟩
    refine for_it (walk_list (xs := L.map V.int)) (fun i σ G2 => ∃ S2 N2 wt2 o4, σ = [some (V.ref x), some (V.ref bg), some (V.ref wd), some (V.int s), o4] ∧ G2 dp = some (.dK (triD A)) ∧ DI K (⟨x, dx, dp, ds, dl, wd, lb, A, lo, hi, b, n0, H, L⟩ : Cfg) s (L.drop i) none S2 N2 wt2 G2 ∧ (∀ t ∈ L, ∃ n, S2 t = some n ∧ n ≤ s))
      ⟨S, N, _, _, rfl, frame1 _ _ hdp nsp.symm nlp.symm, J0, hL⟩ (fun i σ G2 _ ⟨_, _, _, _, _, _, h, _⟩ => sqL h.lb) ?_ ?_
    · rintro i y σ G2 G2' hi ⟨S2, N2, wt2, o4, rfl, hdp2, J, hL2⟩ ⟨rfl, hy⟩
      obtain ⟨t, ht, rfl⟩ := mapI hy
      have hi' : i < L.length := by simpa using hi
      have dr : L.drop i = t :: L.drop (i + 1) := by rw [List.drop_eq_getElem_cons hi', (List.getElem?_eq_some_iff.mp ht).2]
      obtain ⟨n, hn, hns⟩ := hL2 t (List.mem_of_getElem? ht)
      rw [dr] at J
      refine ⟨_, rfl, x, _, dx, _, _, rfl, J.obj, T.Sums.c, T.n_sizes, by rfl, _, rfl, ds, V.int n, rfl, by have := J.sz.get t; rw [hn] at this; exact this, _, rfl, rfl, _, rfl, ite2 (fun z => ?_) fun z => ?_⟩
      · have z : n = s := by simpa using z
        subst z
        refine ⟨_, rfl, (), x, dx, _, rfl, J.obj, by rfl, _, rfl, _, rfl, _, n, t, L.drop (i + 1), S2, N2, wt2, rfl, cok, hdp2, ⟨J.obj, J.sz, J.lv, J.hw, J.frame, J.lb, J.dp.take⟩, hn, fun H' S' N' wt' hdp' J' keep => ?_⟩
        refine ⟨S', N', wt', _, rfl, hdp', J', fun u hu => ?_⟩
        obtain ⟨m, hm, hms⟩ := hL2 u hu
        exact ⟨m, keep u m hm hms, hms⟩
      · have z : n ≠ s := by simpa using z
        exact ⟨S2, N2, wt2, _, rfl, hdp2, ⟨J.obj, J.sz, J.lv, J.hw, J.frame, J.lb, J.dp.skip hn z⟩, hL2⟩
    · rintro σ G2 ⟨S2, N2, wt2, o4, rfl, hdp2, J, hL2⟩
      rw [List.length_map, List.drop_length] at J
      rw [hD]
      refine ⟨_, rfl, s, 1, rfl, rfl, (n0 + 6 * (hi - lo + 2) + 1 - (s + 1)).toNat, by omega, S2, N2, wt2, s + 1, _, rfl, ⟨J.sz, J.lv, ⟨J.hw.dl, J.hw.nd, J.hw.fr, fun e he z => ?_⟩, fun c o q n1 n2 => ?_, J.dp.up⟩, by omega, rfl⟩
      · have h1 := J.hw.dl.2 e he
        have h2 := J.obj
        rw [← z, h1] at h2
        cases h2
      · by_cases c1 : c = dp
        · subst c1
          rw [hdp] at q
          cases q
          exact hdp2
        · exact J.frame c o q n1 n2 c1
  have ds2 : ds ≠ wd := by
    obtain ⟨k, hk, _⟩ := id hsz
    exact ne_of_none hk hwd
  have dl2 : dl ≠ wd := ne_of_none hdl hwd
  refine ⟨_, rfl, wd, rfl, .inl ⟨_, .inl I.hw.dl.1⟩, _, rfl, by simp [sizeLine_eq], fun z hz => ⟨_, .inl s, (same_new hz) _ _ I.hw.dl.1, rfl, fun v hv => ?_, fun hv => ?_⟩⟩
  · -- the bucket is there
    rw [triD_get] at hv
    cases hf : findA wt s with
    | none => rw [hf] at hv; cases hv
    | some e =>
      rw [hf] at hv
      cases hv
      obtain ⟨he, hes⟩ := findA_some hf
      have I := I.same (same_new (o := .lst []) hz)
      generalize upd G z (.lst []) = G at I
      rw [dropK_triD]
      have lne : ∀ {c : Addr} {xs : List V}, G c = some (.lst xs) → c ≠ wd := fun {c xs} q z => by subst z; rw [I.hw.dl.1] at q; cases q
      have hl0 := I.hw.dl.2 e he
      refine ⟨e.2.1, rfl, ⟨_, sqL (by rw [upd_ne (lne hl0)]; exact hl0)⟩, loop e.2.1 e.2.2 _ _ (by rw [upd_ne (lne hl0)]; exact hl0) (fun t ht => ?_) (by assumption) (fun c o q n1 n2 => ?_) (I.sz.mono fun o q => by rw [upd_ne ds2]; exact q) ?_ ⟨⟨upd_same, fun x hx => ?_⟩, ?_, fun x hx => I.hw.fr x (mem_dropW.mp hx).1, fun x hx z => ?_⟩ ?_ _ rfl⟩
      · obtain ⟨n, hn, hl⟩ := (I.dp.tot e he).2 t ht
        exact ⟨n, hn, by omega⟩
      · rw [upd_ne (ne_of_none q hwd)]
        exact I.frame c o q n1 n2
      · obtain ⟨S', ⟨N', e'⟩, d⟩ := I.lv
        exact ⟨S', ⟨N', e'.mono fun o q => by rw [upd_ne dl2]; exact q⟩, d⟩
      · have := I.hw.dl.2 x (mem_dropW.mp hx).1
        rw [upd_ne (lne this)]
        exact this
      · exact List.Nodup.sublist (List.Sublist.map _ dropW_sub) I.hw.nd
      · obtain ⟨m1, m2⟩ := mem_dropW.mp hx
        have := nodup_inj (f := fun e : Tri => e.2.1) I.hw.nd m1 he z
        rw [this] at m2
        exact m2 hes
      · exact I.dp.pop fun x hx hxs => by
          have := nodup_inj (f := fun e : Tri => e.1) I.dp.nd hx he (hxs.trans hes.symm)
          rw [this]
  · -- no bucket of this size
    rw [triD_get] at hv
    have hf : findA wt s = none := by
      cases hf : findA wt s with
      | none => rfl
      | some e => rw [hf] at hv; cases hv
    have hz1 : (upd G z (.lst [])) z = some (.lst []) := upd_same
    have hzG := I.hw
    have nz : ∀ e ∈ wt, e.2.1 ≠ z := fun e he => ne_of_none (I.hw.dl.2 e he) hz
    have hzH : H z = none := by
      cases e : H z with
      | none => rfl
      | some o =>
        have n1 : z ≠ ds := fun q => by obtain ⟨k, hk⟩ := I.sz.dict; rw [q, hk] at hz; cases hz
        have n2 : z ≠ dl := fun q => by
          obtain ⟨S', ⟨N', e'⟩, d⟩ := I.lv
          obtain ⟨k, hk⟩ := e'.dict
          rw [q, hk] at hz; cases hz
        have := I.frame z o e n1 n2
        rw [hz] at this
        cases this
    have I := I.same (same_new (o := .lst []) hz)
    generalize upd G z (.lst []) = G at I hz1
    have dw : dropW wt s = wt := by
      unfold dropW
      rw [List.filter_eq_self]
      intro e he
      simpa using findA_none hf e he
    refine ⟨z, rfl, ⟨_, sqL hz1⟩, loop z [] _ _ hz1 (fun t ht => by simp at ht) (by assumption) I.frame I.sz I.lv ⟨by rw [dw]; exact I.hw.dl, by rw [dw]; exact I.hw.nd, fun x hx => I.hw.fr x (mem_dropW.mp hx).1, fun x hx => nz x (mem_dropW.mp hx).1⟩ (I.dp.pop fun x hx hxs => absurd hxs (findA_none hf x hx)) _ rfl⟩
end
end K75R
set_option Elab.async false
set_option linter.all false
set_option maxRecDepth 100000
set_option maxHeartbeats 4000000
namespace K75R
open PySem PySem.Spec PyProof.Rows L2
section
variable {P : Program} {w : World} {K : PySem.W.Frag} {mg : Str → Option Value} {base : Heap}
open K75
/-! tables of sums, made -/
structure IsReach (A : List Tri) (R : Int) : Prop where
  some_ : ∃ e ∈ A, (if e.1 < 0 then -e.1 else e.1) = R
  all : ∀ e ∈ A, (if e.1 < 0 then -e.1 else e.1) ≤ R
/-- a table at x: what it tells -/
def TabAt (K : PySem.W.Frag) (H : Hp) (x : Addr) (A : List Tri) (lim b n0 : Int) (R : Int) (S : Int → Option Int) : Prop := ∃ dx dp ds dl N, H x = some (.ins (ga K "Sums") dx (sumF dp (1 - R) (lim + R) ds dl)) ∧ SzAt H ds S N ∧ LeastS A (1 - R) (lim + R) b n0 S
theorem TabAt.same {K : PySem.W.Frag} {H H' : Hp} {x : Addr} {A : List Tri} {lim b n0 R : Int} {S : Int → Option Int} (h : TabAt K H x A lim b n0 R S) (k : Same H H') : TabAt K H' x A lim b n0 R S := by
  obtain ⟨dx, dp, ds, dl, N, h1, h2, h3⟩ := h
  exact ⟨dx, dp, ds, dl, N, k _ _ h1, h2.mono fun o => k _ o, h3⟩
def sp_sinit (K : PySem.W.Frag) : Sp := fun vs H Q _ => ∃ (x dx dp bg : Addr) (A : List Tri) (lim b n0 R : Int), vs = [.ref x, .ref dp, .ref bg, .int lim] ∧ H x = some (.ins (ga K "Sums") dx []) ∧ H dp = some (.dK (triD A)) ∧ H bg = some (.tup [.int b, .int n0]) ∧ IsReach A R ∧ 0 ≤ lim ∧ POk A (1 - R) (lim + R) H ∧
  ∀ H' S, (∀ b o, H b = some o → b ≠ x → H' b = some o) → TabAt K H' x A lim b n0 R S → Q .non H'

theorem sc_sinit : FnScope ["self", "pieces", "begin", "limit", "reach", "value"] ["self", "pieces", "begin", "limit"] (defScope (atC 37 0)) := ⟨rfl, rfl, rfl, by decide +kernel, rfl, by decide +kernel, by decide +kernel⟩
theorem R_sinit (T : Txt K mg) : FnR P w K mg base CX0 4 (ma K (ga K "Sums") "__init__") (sp_sinit K) := by
  obtain ⟨fd, F⟩ := T.sums_init
  have sc := sc_sinit
  refine Fun.raw F sc (fun vs H Q E h => ?_) (fun _ _ _ _ _ _ us hl => match us, hl with | [_, _, _, _], _ => rfl) (fun cdv A outer s H vs Q E hr h => ?_)
  · obtain ⟨_, _, _, _, _, _, _, _, _, rfl, _⟩ := h
    rfl
  obtain ⟨x, dx, dp, bg, A, lim, b, n0, R, rfl, hx, hdp, hbg, hR, hlim, pok, q⟩ := h
  refine ⟨_, (pss_cons
    (ps_fld (pv 0) (pv 1) rfl)
    (pss_cons
    (ps_set (i := 4) sc.nd rfl (by first | exact Or.inl rfl | exact Or.inr rfl) (pe_callB (cr_max rfl) (by rfl) T.b_max bt_max (pa_cons (pe_lock <| pe_lc (own := [("value", 5)]) (by rfl) sc.nd (pi_keys (pv 1)) (blkOk_by (N := ["self", "pieces", "begin", "limit", "reach", "value"]) (sc := defScope (atC 37 0)) (own := [("value", 5)]) (by decide +kernel)) (fun _ _ _ _ _ => (pg_name (i := 5) sc.nd rfl (by first | exact Or.inl rfl | exact Or.inr rfl))) (fun _ _ _ _ _ => pts_nil) (fun _ _ _ _ _ => (pe_callB call_abs (by rfl) T.b_abs bt_abs (pa_cons (pv 5) pa_nil)))) pa_nil)))
    (pss_cons
    (ps_fld (pv 0) (pe_op op_sub pe_int (pv 4)) rfl)
    (pss_cons
    (ps_fld (pv 0) (pe_op op_add (pv 3) (pv 4)) rfl)
    (pss_cons
    (ps_fld (pv 0) (pe_disp (pps_cons (pe_ix ix_tup (pv 2) pe_int (fun _ _ => rfl)) (pe_ix ix_tup (pv 2) pe_int (fun _ _ => rfl)) pps_nil) (by rfl) (by rfl) (fun z => by cases z) (by decide)) rfl)
    (pss_cons
    (ps_fld (pv 0) pe_dnewK rfl)
    (pss_one
    (ps_expr (pe_methI (ι := Unit) (pv 0) (fun _ => T.Sums.c) (fun _ => T.grow.at_) (fun _ => R_grow T) hr (E := E0) pass0 (pa_cons (pv 2) pa_nil)))))))))), ?_⟩
  refine ⟨_, rfl, _, rfl, x, _, dx, _, rfl, hx, T.Sums.c, T.n_pieces, by simp, ?_⟩
  have ndp : dp ≠ x := fun z => by rw [z, hx] at hdp; cases hdp
  have nbg : bg ≠ x := fun z => by rw [z, hx] at hbg; cases hbg
  -- after each store: all but x as it was, x's fields
  have F1 : ∀ c o, H c = some o → c ≠ x → (upd H x (.ins (ga K "Sums") dx (putF ("pieces" : Str) (V.ref dp) []))) c = some o := fun c o hc n => by rw [upd_ne n]; exact hc
  have hx1 : (upd H x (.ins (ga K "Sums") dx (putF ("pieces" : Str) (V.ref dp) []))) x = some (.ins (ga K "Sums") dx [("pieces", .ref dp)]) := upd_same
  have N1 : ∀ {c}, (upd H x (.ins (ga K "Sums") dx (putF ("pieces" : Str) (V.ref dp) []))) c = none → H c = none := fun {c} h => (none_of_upd h).1
  show tSeq _ _ _ _ (upd H x (.ins (ga K "Sums") dx (putF ("pieces" : Str) (V.ref dp) [])))
  generalize (upd H x (.ins (ga K "Sums") dx (putF ("pieces" : Str) (V.ref dp) []))) = G1 at F1 hx1 N1
  refine ⟨dp, _, F1 _ _ hdp ndp, trivial, fun od => ?_⟩
  have hfz : (upd G1 dp (.frz od (.dK (triD A)))) dp = some (.frz od (.dK (triD A))) := upd_same
  refine ⟨_, rfl, dp, od, rfl, .inl ⟨_, hfz, fun D hD => lc_map walk_keys (A.map fun e => V.int (if e.1 < 0 then -e.1 else e.1)) (by simp [triD_len]) (by rw [triD_len]; exact Nat.le_trans pok.few (by decide)) hD (fun G h => h _ _ hfz) (fun i y G2 G2' Ry hi h1 yy ky => ?_) (fun G2 s2 h2 => ?_)⟩⟩
  · obtain ⟨rfl, k, v, hkv, rfl⟩ := yy
    have hi' : i < A.length := by simpa [triD_len] using hi
    obtain ⟨e, he⟩ : ∃ e, A[i]? = some e := ⟨_, List.getElem?_eq_getElem hi'⟩
    have te : (triD A)[i]? = some ((.inl e.1 : Key), V.ref e.2.1) := by unfold triD; rw [List.getElem?_map, he] <;> rfl
    rw [te] at hkv
    cases hkv
    exact ⟨rfl, _, rfl, e.1, rfl, ky _ _ (by simp [he]) (Same.refl _)⟩
  have hD1 : G1 D = none := (none_of_upd hD).1
  have Dd : D ≠ dp := (none_of_upd hD).2
  have F2 : ∀ c o, H c = some o → c ≠ x → (upd G2 dp (.dK (triD A))) c = some o := fun c o hc n => by
    by_cases cd : c = dp
    · subst cd
      rw [hdp] at hc
      rw [upd_same, ← hc]
    · rw [upd_ne cd]
      exact s2 _ _ (by rw [upd_ne cd]; exact F1 c o hc n)
  have hx2 : (upd G2 dp (.dK (triD A))) x = some (.ins (ga K "Sums") dx [("pieces", .ref dp)]) := by
    rw [upd_ne ndp.symm]
    exact s2 _ _ (by rw [upd_ne ndp.symm]; exact hx1)
  have hD2 : (upd G2 dp (.dK (triD A))) D = some (.lst ((A.map fun e => (if e.1 < 0 then -e.1 else e.1)).map V.int)) := by
    rw [upd_ne Dd, h2, List.map_map]
    rfl
  refine ⟨s2 _ _ hfz, D, A.map fun e => (if e.1 < 0 then -e.1 else e.1), rfl, sqL hD2, ?_, fun m hm hall => ?_⟩
  · obtain ⟨e, he, _⟩ := hR.some_
    rw [List.length_map]
    exact List.length_pos_of_mem he
  have hmR : m = R := by
    obtain ⟨e, he, hr1⟩ := hR.some_
    obtain ⟨e', he', hr2⟩ := List.mem_map.mp hm
    have g1 := hall R (List.mem_map.mpr ⟨e, he, hr1⟩)
    have g2 := hR.all e' he'
    omega
  subst hmR
  show tSeq _ _ _ _ (upd G2 dp (.dK (triD A)))
  generalize (upd G2 dp (.dK (triD A))) = G3 at F2 hx2
  clear hD2 s2 h2 hfz F1 hx1 hD hD1 N1
  refine ⟨_, rfl, _, _, rfl, rfl, _, rfl, x, _, dx, _, rfl, hx2, T.Sums.c, T.n_lowest, Nat.le_of_ble_eq_true rfl, ?_⟩
  refine ⟨_, rfl, _, rfl, _, _, rfl, rfl, _, rfl, x, _, dx, _, rfl, upd_same, T.Sums.c, T.n_highest, Nat.le_of_ble_eq_true rfl, ?_⟩
  have F4 : ∀ {u v : HO} c o, H c = some o → c ≠ x → (upd (upd G3 x u) x v) c = some o := fun {u v} c o hc n => by rw [upd_ne n, upd_ne n]; exact F2 c o hc n
  intro ds hds
  have hdsx : ds ≠ x := fun z => by rw [z, upd_same] at hds; cases hds
  have bg4 := F4 (u := .ins (ga K "Sums") dx (putF ("lowest" : Str) (V.int (1 - m)) [("pieces", .ref dp)])) (v := .ins (ga K "Sums") dx (putF ("highest" : Str) (V.int (lim + m)) (putF ("lowest" : Str) (V.int (1 - m)) [("pieces", .ref dp)]))) bg _ hbg nbg
  refine ⟨_, rfl, bg, _, 0, _, rfl, rfl, sqT ((same_new hds) _ _ bg4), rfl, _, rfl, bg, _, 1, _, rfl, rfl, sqT ((same_new hds) _ _ bg4), rfl, upd_same, [((.inl b : Key), V.int n0)], rfl, by simp, ?_⟩
  have hdsH : H ds = none := by
    cases e : H ds with
    | none => rfl
    | some o => rw [F4 _ _ e hdsx] at hds; cases hds
  have F6 : ∀ c o, H c = some o → c ≠ x → (upd (upd (upd (upd G3 x (.ins (ga K "Sums") dx (putF ("lowest" : Str) (V.int (1 - m)) [("pieces", .ref dp)]))) x (.ins (ga K "Sums") dx (putF ("highest" : Str) (V.int (lim + m)) (putF ("lowest" : Str) (V.int (1 - m)) [("pieces", .ref dp)])))) ds (.dK [])) ds (.dK (mergeK [] [((.inl b : Key), V.int n0)]))) c = some o := fun c o hc n => by
    rw [upd_ne (ne_of_none hc hdsH), upd_ne (ne_of_none hc hdsH)]
    exact F4 c o hc n
  have hx6 : (upd (upd (upd (upd G3 x (.ins (ga K "Sums") dx (putF ("lowest" : Str) (V.int (1 - m)) [("pieces", .ref dp)]))) x (.ins (ga K "Sums") dx (putF ("highest" : Str) (V.int (lim + m)) (putF ("lowest" : Str) (V.int (1 - m)) [("pieces", .ref dp)])))) ds (.dK [])) ds (.dK (mergeK [] [((.inl b : Key), V.int n0)]))) x = some (.ins (ga K "Sums") dx [("pieces", .ref dp), ("lowest", .int (1 - m)), ("highest", .int (lim + m))]) := by
    rw [upd_ne hdsx.symm, upd_ne hdsx.symm, upd_same]
    rfl
  have hz6 : SzAt (upd (upd (upd (upd G3 x (.ins (ga K "Sums") dx (putF ("lowest" : Str) (V.int (1 - m)) [("pieces", .ref dp)]))) x (.ins (ga K "Sums") dx (putF ("highest" : Str) (V.int (lim + m)) (putF ("lowest" : Str) (V.int (1 - m)) [("pieces", .ref dp)])))) ds (.dK [])) ds (.dK (mergeK [] [((.inl b : Key), V.int n0)]))) ds (setS (fun _ => none) b n0) 1 := by
    refine ⟨_, upd_same, fun t => ?_, by simp [mergeK, putK], fun k hk => ?_, by rfl⟩
    · show valV [((.inl b : Key), V.int n0)] (.inl t) = _
      unfold setS
      by_cases c : t = b
      · subst c
        rw [valV_pos rfl, if_pos rfl] <;> rfl
      · rw [valV_neg (fun z => c (Sum.inl.inj z).symm), valV_nil, if_neg c] <;> rfl
    · have : k = .inl b := by
        have hk : k ∈ ([((.inl b : Key), V.int n0)] : List (Key × V)).map (·.1) := hk
        simpa using hk
      refine ⟨b, this, ?_⟩
      unfold setS
      rw [if_pos rfl]
      rfl
  generalize (upd (upd (upd (upd G3 x (.ins (ga K "Sums") dx (putF ("lowest" : Str) (V.int (1 - m)) [("pieces", .ref dp)]))) x (.ins (ga K "Sums") dx (putF ("highest" : Str) (V.int (lim + m)) (putF ("lowest" : Str) (V.int (1 - m)) [("pieces", .ref dp)])))) ds (.dK [])) ds (.dK (mergeK [] [((.inl b : Key), V.int n0)]))) = G6 at F6 hx6 hz6
  clear bg4 hds F4 F2 hx2
  refine ⟨_, rfl, x, _, dx, _, rfl, hx6, T.Sums.c, T.n_sizes, Nat.le_of_ble_eq_true rfl, ?_⟩
  intro dl hdl
  have hdlx : dl ≠ x := fun z => by rw [z, upd_same] at hdl; cases hdl
  have hdl6 : G6 dl = none := (none_of_upd hdl).1
  have hdlH : H dl = none := by
    cases e : H dl with
    | none => rfl
    | some o => rw [F6 _ _ e hdlx] at hdl6; cases hdl6
  obtain ⟨k6, hk6, _⟩ := id hz6
  have hsl : ds ≠ dl := ne_of_none hk6 hdl6
  refine ⟨_, rfl, x, _, dx, _, rfl, by rw [upd_ne hdlx.symm, upd_same], T.Sums.c, T.n_last_values, Nat.le_of_ble_eq_true rfl, ?_⟩
  have F9 : ∀ {u v w : HO} c o, H c = some o → c ≠ x → (upd (upd (upd G6 x u) dl v) x w) c = some o := fun {u v w} c o hc n => by
    rw [upd_ne n, upd_ne (ne_of_none hc hdlH), upd_ne n]
    exact F6 c o hc n
  refine ⟨_, rfl, (), x, dx, _, rfl, upd_same, by rfl, _, rfl, x, dx, dp, ds, dl, bg, A, 1 - m, lim + m, b, n0, rfl, upd_same, F9 _ _ hbg nbg, F9 _ _ hdp ndp, ⟨fun e he => ⟨F9 _ _ (pok.pcs e he).1 (fun z => ?_), (pok.pcs e he).2⟩, pok.few, pok.wide, pok.lh⟩, hz6.mono fun o q => by rw [upd_ne hdsx, upd_ne hsl, upd_ne hdsx]; exact q, by rw [upd_ne hdlx, upd_same], hsl, (ne_of_none hdp hdsH).symm, (ne_of_none hdp hdlH).symm, fun H' S N fr sz ls => ?_⟩
  · have := (pok.pcs e he).1
    rw [z, hx] at this
    cases this
  · refine q H' S (fun c o hc n => fr c o (F9 c o hc n) (ne_of_none hc hdsH) (ne_of_none hc hdlH)) ⟨dx, dp, ds, dl, N, fr _ _ upd_same hdsx.symm hdlx.symm, sz, ls⟩
end
end K75R
set_option Elab.async false
set_option linter.all false
set_option maxRecDepth 100000
set_option maxHeartbeats 4000000
/-! y = {k: v for ..}. -/
namespace K75R
open PySem PySem.Spec PyProof.Rows L2
section
variable {X : Cx}
theorem swD_true {kx vx : Expr} {gs : List Comprehension} {scope : Scope} {pos py : Pos} {y : Str} {l : Nat} {env : Env} (hk : env.scope.kind = .function) (hy : env.scope.names.lookup y = some .local) (hl : (py.line == pos.line) = true)
    (ha : (scope.names.any fun (n, k) => n == y && (k == .local || k == .cell)) = false) : swapsWith (.DictComp kx vx gs scope pos) (some (.Name y py)) l env = pure true := by
  have e1 : env.kindOf y = some .local := hy
  have e2 : env.blockKind = .function := by unfold Env.blockKind; rw [hk] <;> rfl
  unfold swapsWith
  simp only [e2, e1, ha, Expr.pos, hl]
  rfl
theorem ps_setDc {i : Nat} {y : Str} {py : Pos} {kx vx tg iter : Expr} {ifs : List Expr} {scope : Scope} {own : List (Str × Nat)} {pos spos : Pos} {wi : TI} {g : TG} {tt : TT} {tk tv : TE} (hc : X.calm = true) (hN : X.N.Nodup) (hy : X.N[i]? = some y) (hyl : X.env.scope.names.lookup y = some .local)
    (hsw : swapsWith (.DictComp kx vx [⟨tg, iter, ifs, 0⟩] scope pos) (some (.Name y py)) spos.line X.env = pure true) (hi : PI X tg iter wi) (ok : BlkOk X.N X.env.scope scope own)
    (hg : ∀ (s : Shared) (H : Hp) (C : Addr) (cl : List (Str × Addr)) (fp : List Addr), PG (X.blk s H scope (compEnvC scope cl C X.env) fp) tg g) (ht : ∀ (s : Shared) (H : Hp) (C : Addr) (cl : List (Str × Addr)) (fp : List Addr), PTs (X.blk s H scope (compEnvC scope cl C X.env) fp) ifs tt)
    (hk : ∀ (s : Shared) (H : Hp) (C : Addr) (cl : List (Str × Addr)) (fp : List Addr), PE (X.blk s H scope (compEnvC scope cl C X.env) fp) kx tk)
    (he : ∀ (s : Shared) (H : Hp) (C : Addr) (cl : List (Str × Addr)) (fp : List Addr), PE (X.blk s H scope (compEnvC scope cl C X.env) fp) vx tv) (hs : ∀ x, foldedSetIterable iter X.env x = pure x := by intro _; rfl) :
    PS X (.Assign [.Name y py] (.DictComp kx vx [⟨tg, iter, ifs, 0⟩] scope pos) spos) (tAsg (tDc wi g tt tk tv (own.map (·.2))) (gName i)) := by
  refine ⟨fun pins s σ H D I h => ?_⟩
  rw [exec_Assign_Name_used _ _ _ _ hsw]
  refine wpAny_bind (wpAny_standAt (wpAny_bind ?_))
  have h' : tDc wi g tt tk tv (own.map (·.2)) σ H (fun x H1 => gName i x σ H1 D.nx) := h
  refine wpAny_bind (thn (dc_core (use := some (assign (.Name y py) X.env)) (Qf := fun _ s' => SP X pins D .next s') hc hN I hi ok hg ht hk he hs h' fun L C s' m H' I' q hn f => ?_) fun _ s' hq => wpAny_pure (wpAny_pure hq))
  show wpAny _ _ (assign (.Name y py) X.env (.ref L)) _ _ _
  obtain ⟨f0, f1, f2, f3, f4, f5⟩ := f
  refine wpAny_assign_Name (store_ok2 (v := V.ref L) I' hN hy (.inl hyl) rfl (fun s2 I2 hsb => ?_) (.inr hyl))
  obtain ⟨a, sb, ha⟩ := hsb
  have away : C ≠ a := by
    rcases ha with z | z
    · rw [z]; exact f1
    · exact fun e => f4 y a z e.symm
  exact ⟨m, hn.sameBut sb away, fun h3 sb3 => ⟨_, H', I2.turned (t' := s2.toks) (fun b o hb e => (sb3.2 b hb).trans e) f0 f1 f3 f4 f5, q⟩⟩
end
end K75R
set_option Elab.async false
set_option linter.all false
set_option maxRecDepth 100000
set_option maxHeartbeats 4000000
namespace K75R
open PySem PySem.Spec PyProof.Rows L2
section
variable {P : Program} {w : World} {K : PySem.W.Frag} {mg : Str → Option Value} {base : Heap}
open K75
/-! the tables of a system -/
def pairA (A : List Tri) : List (Int × List Int) := A.map fun e => (e.1, e.2.2)
theorem pairA_keys (A : List Tri) : A.map (·.1) = (pairA A).map (·.1) := by unfold pairA; rw [List.map_map]; rfl
theorem putA_new {A : List Tri} {v : Int} {p : Nat} {z : List Int} (h : ∀ e ∈ A, e.1 ≠ v) : putA A v p z = A ++ [(v, p, z)] := by
  unfold putA
  rw [if_neg]
  intro q
  obtain ⟨x, hx, e⟩ := List.any_eq_true.mp q
  exact h x hx (by simpa using e)
/-- {k: [l] for l in xs if ..}: the keys are new each time -/
theorem dc_tri {K : PySem.W.Frag} {a : Addr} {xs : List Int} {g : TG} {tt : TT} {tk tv : TE} {vs : List Nat} {σ : L2.St} {H1 : Hp} {D : Addr} {Qd : Hp → Prop} (t : Int → Bool) (key : Int → Int) (hx : H1 a = some (.lst (xs.map V.int))) (hD : H1 D = none) (hn : xs.length ≤ 1000)
    (inj : ∀ (i j : Nat) u v, i < j → xs[i]? = some u → xs[j]? = some v → key u ≠ key v)
    (hs : ∀ (i : Nat) (l : Int) (H : Hp) (Ry : V → V → Hp → Prop) (Rn : Hp → Prop), xs[i]? = some l → Same H1 H → (∀ p H4, t l = true → H p = none → H4 p = some (.lst [V.int l]) → Same H H4 → Ry (.int (key l)) (.ref p) H4) → (t l = false → Rn H) →
      g (.int l) (wipe σ vs) H fun σ2 H2 => wipe σ2 vs = wipe σ vs ∧ tt σ2 H2 fun b H3 => if b = true then tk σ2 H3 fun y H4 => tv σ2 H4 fun z H5 => Ry y z H5 else Rn H3)
    (hd : ∀ H A, Same H1 H → DL H D A → pairA A = (xs.filter t).map (fun l => (key l, [l])) → Qd H) :
    ∃ W : Nat → Nat → Hp → Prop, (∃ m, W 0 m (upd H1 D (.dK []))) ∧ ∀ i m H, W i m H →
      ((Itl K a).stop i H ∧ Qd H) ∨ ((Itl K a).go i H ∧ ∃ Nx : Hp → Prop, (∀ H', Nx H' → ∃ m', m' < m ∧ W (i + 1) m' H') ∧ ∀ x H', (Itl K a).yld i H x H' → g x (wipe σ vs) H' fun σ2 H2 => wipe σ2 vs = wipe σ vs ∧ tt σ2 H2 fun b H3 =>
        if b = true then tk σ2 H3 fun y H4 => tv σ2 H4 fun z H5 => ∃ kvs k, y = kV k ∧ H5 D = some (.dK kvs) ∧ kvs.length < sizeLine ∧ Nx (upd H5 D (.dK (putK kvs k z))) else Nx H3) := by
  have w : Walk (Itl K a) (xs.map V.int).length (fun H => SqL K H a (xs.map V.int)) (YAt (xs.map V.int)) := walk_list
  refine ⟨fun i m H => m = (xs.map V.int).length - i ∧ i ≤ (xs.map V.int).length ∧ Same H1 H ∧ ∃ A, DL H D A ∧ pairA A = ((xs.take i).filter t).map (fun l => (key l, [l])), ⟨(xs.map V.int).length, by simp, Nat.zero_le _, same_new hD, [], ⟨upd_same, by simp⟩, rfl⟩, ?_⟩
  rintro i m H ⟨rfl, hi, s1, A, hA, hp⟩
  by_cases hlt : i < (xs.map V.int).length
  · refine .inr ⟨w.goes i H hlt (sqL (s1 _ _ hx)), fun H' => Same H1 H' ∧ ∃ A, DL H' D A ∧ pairA A = ((xs.take (i + 1)).filter t).map (fun l => (key l, [l])), fun H' ⟨s', A', a', p'⟩ => ⟨(xs.map V.int).length - (i + 1), by omega, rfl, hlt, s', A', a', p'⟩, fun x H' y => ?_⟩
    obtain ⟨rfl, hy⟩ := w.yields i H x H' hlt (sqL (s1 _ _ hx)) y
    obtain ⟨l, hl, rfl⟩ := mapI hy
    have tk : xs.take (i + 1) = xs.take i ++ [l] := by rw [List.take_add_one, hl] <;> rfl
    refine hs i l _ (fun y z H5 => ∃ kvs k, y = kV k ∧ H5 D = some (.dK kvs) ∧ kvs.length < sizeLine ∧ (Same H1 (upd H5 D (.dK (putK kvs k z))) ∧ ∃ A, DL (upd H5 D (.dK (putK kvs k z))) D A ∧ pairA A = ((xs.take (i + 1)).filter t).map (fun l => (key l, [l]))))
      (fun H3 => Same H1 H3 ∧ ∃ A, DL H3 D A ∧ pairA A = ((xs.take (i + 1)).filter t).map (fun l => (key l, [l]))) hl s1 (fun p H4 ht np hp4 sm => ?_) (fun hf => ⟨s1, A, hA, by rw [tk, List.filter_append, hp]; simp [hf]⟩)
    have fresh : ∀ e ∈ A, e.1 ≠ key l := fun e he z => by
      have : (e.1, e.2.2) ∈ pairA A := List.mem_map.mpr ⟨e, he, rfl⟩
      rw [hp] at this
      obtain ⟨u, hu, eu⟩ := List.mem_map.mp this
      have hu := (List.mem_filter.mp hu).1
      obtain ⟨j, hj, ej⟩ := List.mem_iff_getElem.mp hu
      have hj' : j < i := by simp at hj; omega
      have : xs[j]? = some u := by
        rw [List.getElem_take] at ej
        rw [← ej]
        simp
      exact inj j i u l hj' this hl (by rw [← z]; exact (Prod.mk.inj eu).1)
    have lA : A.length ≤ 1000 := by
      have := congrArg List.length hp
      unfold pairA at this
      rw [List.length_map, List.length_map] at this
      have h2 := List.length_filter_le t (xs.take i)
      rw [List.length_take] at h2
      omega
    have hA4 := hA.same sm
    have lne : ∀ {b : Addr} {ys : List V}, H4 b = some (.lst ys) → b ≠ D := fun {b ys} q z => by subst z; rw [hA4.1] at q; cases q
    refine ⟨_, .inl (key l), rfl, hA4.1, by rw [triD_len]; exact sz_lt (by omega), ?_, A ++ [(key l, p, [l])], ⟨?_, fun e he => ?_⟩, ?_⟩
    · intro b o hb
      rw [upd_ne (ne_of_none hb hD)]
      exact sm _ _ (s1 _ _ hb)
    · rw [upd_same, triD_put A (key l) p [l], putA_new fresh]
    · rcases List.mem_append.mp he with he | he
      · have := hA4.2 e he
        rw [upd_ne (lne this)]
        exact this
      · rw [List.mem_singleton.mp he, upd_ne (lne hp4)]
        exact hp4
    · rw [tk, List.filter_append, List.map_append, ← hp]
      unfold pairA
      rw [List.map_append]
      simp [ht]
  · have e : i = (xs.map V.int).length := by omega
    subst e
    refine .inl ⟨w.stops H (sqL (s1 _ _ hx)), hd H A s1 hA ?_⟩
    rw [hp, List.length_map, List.take_length]

/-- an instance that holds a dict of sizes -/
def HasSz (K : PySem.W.Frag) (H : Hp) (x : Addr) (S : Int → Option Int) : Prop := ∃ dx dp lo hi ds dl N, H x = some (.ins (ga K "Sums") dx (sumF dp lo hi ds dl)) ∧ SzAt H ds S N
theorem HasSz.same {K : PySem.W.Frag} {H H' : Hp} {x : Addr} {S : Int → Option Int} (h : HasSz K H x S) (k : Same H H') : HasSz K H' x S := by
  obtain ⟨dx, dp, lo, hi, ds, dl, N, h1, h2⟩ := h
  exact ⟨dx, dp, lo, hi, ds, dl, N, k _ _ h1, h2.mono fun o => k _ o⟩
/-- a list of pairs: a value, a table -/
def TabsAt (K : PySem.W.Frag) (H : Hp) (l : Addr) (Ts : List (Int × (Int → Option Int))) : Prop := ∃ ps : List Addr, H l = some (.lst (ps.map V.ref)) ∧ ps.length = Ts.length ∧ ∀ (i : Nat) p T, ps[i]? = some p → Ts[i]? = some T → ∃ x, H p = some (.tup [.int T.1, .ref x]) ∧ HasSz K H x T.2
theorem TabsAt.same {K : PySem.W.Frag} {H H' : Hp} {l : Addr} {Ts : List (Int × (Int → Option Int))} (h : TabsAt K H l Ts) (k : Same H H') : TabsAt K H' l Ts := by
  obtain ⟨ps, h1, h2, h3⟩ := h
  refine ⟨ps, k _ _ h1, h2, fun i p T e1 e2 => ?_⟩
  obtain ⟨x, g1, g2⟩ := h3 i p T e1 e2
  exact ⟨x, k _ _ g1, g2.same k⟩
/-- the pieces under block and later, g the greatest added value -/
def Sgn (xs : List Int) (g : Int) (P : List (Int × List Int)) : Prop := P = (xs.filter (fun l => decide (l ≤ g))).map (fun l => (l, [l])) ++ (xs.filter (fun l => decide (l < g))).map (fun l => (0 - l, [l]))
theorem HasSz.mono {K : PySem.W.Frag} {H H' : Hp} {x : Addr} {S : Int → Option Int} (h : HasSz K H x S) (k : ∀ b o, H b = some o → (∀ xs, o ≠ .lst xs) → H' b = some o) : HasSz K H' x S := by
  obtain ⟨dx, dp, lo, hi, ds, dl, N, h1, kvs, h2, h3⟩ := h
  exact ⟨dx, dp, lo, hi, ds, dl, N, k _ _ h1 (fun xs z => by cases z), kvs, k _ _ h2 (fun xs z => by cases z), h3⟩
theorem TabsAt.push {K : PySem.W.Frag} {H : Hp} {f p x : Addr} {g : Int} {S : Int → Option Int} {Ts : List (Int × (Int → Option Int))} {us : List V} (h : TabsAt K H f Ts) (e : H f = some (.lst us)) (hp : H p = none) (hx : HasSz K H x S) :
    TabsAt K (upd (upd H p (.tup [V.int g, V.ref x])) f (.lst (us ++ [V.ref p]))) f (Ts ++ [(g, S)]) := by
  obtain ⟨ps, h1, h2, h3⟩ := h
  rw [e] at h1
  cases h1
  have pf : p ≠ f := fun z => by subst z; rw [e] at hp; cases hp
  have kk : ∀ b o, H b = some o → (∀ xs, o ≠ .lst xs) → (upd (upd H p (.tup [V.int g, V.ref x])) f (.lst (ps.map V.ref ++ [V.ref p]))) b = some o := fun b o hb ho => by
    rw [upd_ne (fun z => by subst z; rw [e] at hb; cases hb; exact ho _ rfl), upd_ne (ne_of_none hb hp)]
    exact hb
  refine ⟨ps ++ [p], by rw [upd_same, List.map_append] <;> rfl, by simp [h2], fun i q T q1 q2 => ?_⟩
  by_cases hi : i < ps.length
  · rw [List.getElem?_append_left hi] at q1
    rw [List.getElem?_append_left (by omega)] at q2
    obtain ⟨y, g1, g2⟩ := h3 i q T q1 q2
    exact ⟨y, kk _ _ g1 (fun xs z => by cases z), g2.mono kk⟩
  · rw [List.getElem?_append_right (by omega)] at q1 q2
    have e0 : i - ps.length = 0 := by
      by_cases z : i - ps.length = 0
      · exact z
      · rw [List.getElem?_eq_none (by simp; omega)] at q1; cases q1
    rw [e0] at q1
    rw [← h2, e0] at q2
    obtain rfl : p = q := by simpa using q1
    obtain rfl : (g, S) = T := by simpa using q2
    exact ⟨x, by rw [upd_ne pf, upd_same], hx.mono kk⟩
def TabsOk (xs : List Int) (r : Rl) (lim : Int) (Ts : List (Int × (Int → Option Int))) : Prop :=
  (one r ∧ ∃ A R S, Cbw (stretchesF (kdOf r) xs) A ∧ IsReach A R ∧ LeastS A (1 - R) (lim + R) 0 0 S ∧ Ts = [(0, S)]) ∨
  (¬ one r ∧ Ts.map (·.1) = xs ∧ ∀ T ∈ Ts, ∃ A, Sgn xs T.1 (pairA A) ∧ LeastS A (1 - T.1) (lim + T.1) T.1 1 T.2)
theorem TabAt.has {K : PySem.W.Frag} {H : Hp} {x : Addr} {A : List Tri} {lim b n0 R : Int} {S : Int → Option Int} (h : TabAt K H x A lim b n0 R S) : HasSz K H x S ∧ LeastS A (1 - R) (lim + R) b n0 S := by
  obtain ⟨dx, dp, ds, dl, N, h1, h2, h3⟩ := h
  exact ⟨⟨dx, dp, _, _, ds, dl, N, h1, h2⟩, h3⟩
theorem reach_ex : ∀ {A : List Tri}, A ≠ [] → ∃ R, IsReach A R
  | [], h => absurd rfl h
  | [e], _ => ⟨_, ⟨e, by simp, rfl⟩, fun x hx => by rw [List.mem_singleton.mp hx]; exact Int.le_refl _⟩
  | e :: e' :: A, _ => by
    obtain ⟨R, h1, h2⟩ := reach_ex (A := e' :: A) (by simp)
    obtain ⟨x, hx, hr⟩ := h1
    by_cases c : (if e.1 < 0 then -e.1 else e.1) ≤ R
    · exact ⟨R, ⟨x, List.mem_cons_of_mem _ hx, hr⟩, fun y hy => by
        rcases List.mem_cons.mp hy with rfl | hy
        · exact c
        · exact h2 y hy⟩
    · exact ⟨_, ⟨e, by simp, rfl⟩, fun y hy => by
        rcases List.mem_cons.mp hy with rfl | hy
        · exact Int.le_refl _
        · have := h2 y hy
          omega⟩
theorem sum_bd {l : List Int} {n : Nat} (h : ∀ a ∈ l, 1 ≤ a ∧ a ≤ 60) (hl : l.length ≤ n) : 0 ≤ l.sum ∧ l.sum ≤ 60 * n := by
  have : 0 ≤ l.sum ∧ l.sum ≤ 60 * l.length := by
    clear hl
    induction l with
    | nil => simp
    | cons a l ih =>
      have := ih fun x hx => h x (List.mem_cons_of_mem _ hx)
      have b := h a (by simp)
      rw [List.sum_cons, List.length_cons]
      omega
  omega
theorem merge_triD (B : List Tri) : ∀ A : List Tri, (∀ e ∈ A, ∀ f ∈ B, e.1 ≠ f.1) → (B.map (·.1)).Nodup → mergeK (triD A) (triD B) = triD (A ++ B) := by
  induction B with
  | nil => intro A _ _; simp [mergeK, triD]
  | cons f B ih =>
    intro A h nd
    rw [List.map_cons, List.nodup_cons] at nd
    have e : mergeK (triD A) (triD (f :: B)) = mergeK (putK (triD A) (.inl f.1) (.ref f.2.1)) (triD B) := rfl
    rw [e, triD_put A f.1 f.2.1 f.2.2, putA_new (fun e he => h e he f (by simp)), ih _ ?_ nd.2]
    · rw [List.append_assoc]; rfl
    · intro e he f' hf'
      rcases List.mem_append.mp he with he | he
      · exact h e he f' (List.mem_cons_of_mem _ hf')
      · rw [List.mem_singleton.mp he]
        exact fun z => nd.1 (List.mem_map.mpr ⟨f', hf', z.symm⟩)
theorem asc_inj {xs : List Int} (up : xs.Pairwise (· < ·)) {i j : Nat} {u v : Int} (h : i < j) (e1 : xs[i]? = some u) (e2 : xs[j]? = some v) : u < v := by
  obtain ⟨q1, q2⟩ := List.getElem?_eq_some_iff.mp e1
  obtain ⟨q3, q4⟩ := List.getElem?_eq_some_iff.mp e2
  have := List.pairwise_iff_getElem.mp up i j q1 q3 h
  rwa [q2, q4] at this
theorem sgn_nodup {xs : List Int} {t : Int → Bool} (up : xs.Pairwise (· < ·)) : ((xs.filter t).map (fun l => (0 - l, [l]))).map (·.1) |>.Nodup := by
  rw [List.map_map]
  refine List.pairwise_map.mpr (List.Pairwise.imp ?_ (up.filter t))
  intro a b h z
  have z : (0 : Int) - a = 0 - b := z
  omega
theorem sgn_pok {H : Hp} {xs : List Int} {A : List Tri} {d : Addr} {g lim : Int} (ok : OkV xs) (hA : DL H d A) (hg : g ∈ xs) (c : Sgn xs g (pairA A)) (h0 : 0 ≤ lim) (hl : lim ≤ 4000) : IsReach A g ∧ POk A (1 - g) (lim + g) H := by
  have gb := ok.bd g hg
  have form : ∀ e ∈ A, (if e.1 < 0 then -e.1 else e.1) ≤ g ∧ e.2.2.length = 1 := fun e he => by
    have : (e.1, e.2.2) ∈ pairA A := List.mem_map.mpr ⟨e, he, rfl⟩
    rw [c] at this
    rcases List.mem_append.mp this with h | h
    · obtain ⟨u, hu, eu⟩ := List.mem_map.mp h
      obtain ⟨hu1, hu2⟩ := List.mem_filter.mp hu
      have ub := ok.bd u hu1
      have hu2 := of_decide_eq_true hu2
      obtain ⟨e1, e2⟩ := Prod.mk.inj eu
      rw [← e1, ← e2]
      refine ⟨by split <;> omega, rfl⟩
    · obtain ⟨u, hu, eu⟩ := List.mem_map.mp h
      obtain ⟨hu1, hu2⟩ := List.mem_filter.mp hu
      have ub := ok.bd u hu1
      have hu2 := of_decide_eq_true hu2
      obtain ⟨e1, e2⟩ := Prod.mk.inj eu
      rw [← e1, ← e2]
      refine ⟨by split <;> omega, rfl⟩
  have few : A.length ≤ 12 := by
    have h1 : A.length = (pairA A).length := by simp [pairA]
    rw [h1, c, List.length_append, List.length_map, List.length_map]
    have h2 := List.length_filter_le (fun l => decide (l ≤ g)) xs
    have h3 := List.length_filter_le (fun l => decide (l < g)) xs
    have := ok.len
    omega
  refine ⟨⟨?_, fun e he => (form e he).1⟩, fun e he => ⟨hA.2 e he, by rw [(form e he).2]; exact ⟨by omega, by omega⟩⟩, by omega, by omega, by omega⟩
  have : (g, [g]) ∈ pairA A := by
    rw [c]
    exact List.mem_append_left _ (List.mem_map.mpr ⟨g, List.mem_filter.mpr ⟨hg, by simp⟩, rfl⟩)
  obtain ⟨e, he, ee⟩ := List.mem_map.mp this
  refine ⟨e, he, ?_⟩
  rw [(Prod.mk.inj ee).1]
  split <;> omega
/-- the pieces of one table: good for the maker -/
theorem cbw_pok {H : Hp} {xs : List Int} {k : Kd} {A : List Tri} {d : Addr} {R lim : Int} (ok : OkV xs) (hA : DL H d A) (c : Cbw (stretchesF k xs) A) (hR : IsReach A R) (h0 : 0 ≤ lim) (hl : lim ≤ 4000) : POk A (1 - R) (lim + R) H := by
  have l6 := ok.len
  have sl := stretch_len k xs
  have pw : 2 ^ xs.length ≤ 2 ^ 6 := Nat.pow_le_pow_right (by decide) l6
  have form : ∀ e ∈ A, 1 ≤ e.2.2.length ∧ e.2.2.length ≤ 6 ∧ -400 ≤ e.1 ∧ e.1 ≤ 400 := fun e he => by
    obtain ⟨h1, h2⟩ := c.src e he
    obtain ⟨l, v, e1, hv, hb, lt, ll⟩ := stretch_form h1
    rw [e1] at h2 ⊢
    rw [worth_snoc] at h2
    have vb := ok.bd v hv
    have lb := sum_bd (l := l) (n := xs.length) (fun a ha => ok.bd a (hb.1 a ha)) hb.2.2
    refine ⟨by simp, by simp; omega, ?_, ?_⟩ <;> rw [h2] <;> omega
  refine ⟨fun e he => ⟨hA.2 e he, (form e he).1, (form e he).2.1⟩, by have := c.few; omega, ?_, ?_⟩
  · obtain ⟨e, he, hr⟩ := hR.some_
    have := form e he
    split at hr <;> omega
  · obtain ⟨e, he, hr⟩ := hR.some_
    split at hr <;> omega

def sp_tables (K : PySem.W.Frag) : Sp := fun vs H Q _ => ∃ (a : Addr) (xs : List Int) (r : Rl) (lim : Int), vs = [.ref a, .int lim] ∧ SysAt K H a xs r ∧ 0 ≤ lim ∧ lim ≤ 4000 ∧ ∀ H' l Ts, Same H H' → H l = none → TabsAt K H' l Ts → TabsOk xs r lim Ts → Q (.ref l) H'
theorem sc_tables_to : FnScope ["system", "limit", "found", "value", "pieces", "lower"] ["system", "limit"] (defScope (top 38)) := ⟨rfl, rfl, rfl, by decide +kernel, rfl, by decide +kernel, by decide +kernel⟩
theorem R_tables_to (T : Txt K mg) : FnR P w K mg base CX0 6 (ga K "tables_to") (sp_tables K) := by
  obtain ⟨fd, F⟩ := T.tables_to.F
  have sc := sc_tables_to
  refine Fun.raw F sc (fun vs H Q E h => ?_) (fun _ _ _ _ _ _ us hl => match us, hl with | [_, _], _ => rfl) (fun cdv A outer s H vs Q E hr h => ?_)
  · obtain ⟨_, _, _, _, rfl, _⟩ := h
    rfl
  obtain ⟨a, xs, r, lim, rfl, hs, l0, l1, q⟩ := h
  refine ⟨_, (pss_cons
    (ps_if (pt_cmpR op_in_seq (pe_rule T hr (pv 0)) (pe_tup (pa_cons (pe_gstr T.c_PLAIN) (pa_cons (pe_gstr T.c_SINGLE) (pa_cons (pe_gstr T.c_NEXT) pa_nil)))) (by rfl))
      (pss_one
      (ps_ret (pe_lst (pa_cons (pe_tup (pa_cons pe_int (pa_cons (StX.pe_makeR T.sums_mk (R_sinit T) hr (by rfl) T.Sums.g (E := E0) pass0 (pa_cons (cR T.cheapest_by_worth (R_cheapest_by_worth T) hr pass0 (pa_cons (cR T.stretches_of (R_stretches_of T) hr pass0 (pa_cons (pv 0) pa_nil)) pa_nil)) (pa_cons (pe_tup (pa_cons pe_int (pa_cons pe_int pa_nil))) (pa_cons (pv 1) pa_nil)))) pa_nil))) pa_nil))))
      pss_nil)
    (pss_cons
    (ps_set (i := 2) sc.nd rfl (by first | exact Or.inl rfl | exact Or.inr rfl) (pe_lst pa_nil))
    (pss_cons
    (ps_for PassesOwn.never rfl (pi_list (pe_row T hr (pv 0))) (pg_name (i := 3) sc.nd rfl (by first | exact Or.inl rfl | exact Or.inr rfl))
      (pss_cons
      (ps_setDc (i := 4) (own := [("lower", 5)]) (by rfl) sc.nd rfl rfl (swD_true rfl rfl rfl (by decide +kernel)) (pi_list (pe_row T hr (pv 0))) (blkOk_by (N := ["system", "limit", "found", "value", "pieces", "lower"]) (sc := defScope (top 38)) (own := [("lower", 5)]) (by decide +kernel)) (fun _ _ _ _ _ => (pg_name (i := 5) sc.nd rfl (by first | exact Or.inl rfl | exact Or.inr rfl))) (fun _ _ _ _ _ => (pts_one (pt_cmpR op_le (pv 5) (pv 3) (nomark _)))) (fun _ _ _ _ _ => (pv 5)) (fun _ _ _ _ _ => (pe_lst (pa_cons (pv 5) pa_nil))))
      (pss_cons
      (ps_expr (pe_bm PySem.F.plainAttrs_dict PySem.F.slot_dict_update PySem.F.type_dict_update mt_update (pv 4) (pa_cons (pe_dc (own := [("lower", 5)]) (by rfl) sc.nd (pi_list (pe_row T hr (pv 0))) (blkOk_by (N := ["system", "limit", "found", "value", "pieces", "lower"]) (sc := defScope (top 38)) (own := [("lower", 5)]) (by decide +kernel)) (fun _ _ _ _ _ => (pg_name (i := 5) sc.nd rfl (by first | exact Or.inl rfl | exact Or.inr rfl))) (fun _ _ _ _ _ => (pts_one (pt_cmpR op_lt (pv 5) (pv 3) (nomark _)))) (fun _ _ _ _ _ => (pe_op op_sub pe_int (pv 5))) (fun _ _ _ _ _ => (pe_lst (pa_cons (pv 5) pa_nil)))) pa_nil)))
      (pss_one
      (ps_expr (pe_bm PySem.F.plainAttrs_list PySem.F.slot_list_append PySem.F.type_list_append mt_append (pv 2) (pa_cons (pe_tup (pa_cons (pv 3) (pa_cons (StX.pe_makeR T.sums_mk (R_sinit T) hr (by rfl) T.Sums.g (E := E0) pass0 (pa_cons (pv 4) (pa_cons (pe_tup (pa_cons (pv 3) (pa_cons pe_int pa_nil))) (pa_cons (pv 1) pa_nil)))) pa_nil))) pa_nil)))))))
    (pss_one
    (ps_ret (pv 2)))))), ?_⟩
  have ok := hs.ok
  refine ⟨_, rfl, hs.tRule ?_⟩
  refine ⟨by simp [sizeLine_eq], fun tp htp => ⟨tp, _, rfl, .inr (sqT upd_same), rfl, rfl, _, rfl, ?_⟩⟩
  have s0 : Same H (upd H tp (.tup [V.str "plain", V.str "single", V.str "next"])) := same_new htp
  generalize (upd H tp (.tup [V.str "plain", V.str "single", V.str "next"])) = H0 at s0
  have hs0 := hs.same s0
  by_cases h1 : one r
  · have e : (if false = true then !inV (V.str r.nm) [V.str "plain", V.str "single", V.str "next"] else inV (V.str r.nm) [V.str "plain", V.str "single", V.str "next"]) = true := by rcases h1 with rfl | rfl | rfl <;> rfl
    rw [e]
    refine iteT ⟨_, rfl, a, xs, r, rfl, hs0, h1, fun H1 l s1 hl hL => ?_⟩
    have sl := stretch_len (kdOf r) xs
    have pw : 2 ^ xs.length ≤ 2 ^ 6 := Nat.pow_le_pow_right (by decide) ok.len
    refine ⟨l, l, _, rfl, hL, by omega, fun z hz => ?_, fun H2 d A s2 hd hA hc => ?_⟩
    · obtain ⟨l', v, e, _⟩ := stretch_form hz
      rw [e]; simp
    have ne : A ≠ [] := by
      obtain ⟨e, he, _⟩ := hc.all [topOf xs] (stretch_one (topOf_mem ok.ne))
      exact List.ne_nil_of_mem he
    obtain ⟨R, hR⟩ := reach_ex ne
    refine ⟨by simp [sizeLine_eq], fun bg hbg => ⟨_, rfl, fun x dx hx hdx ndx => ?_⟩⟩
    have s3 := same_new (o := .tup [V.int 0, V.int 0]) hbg
    have s4 : Same (upd H2 bg (.tup [V.int 0, V.int 0])) (upd (upd (upd H2 bg (.tup [V.int 0, V.int 0])) dx (.own x)) x (.ins (ga K "Sums") dx [])) := fun b o hb => by rw [upd_ne (ne_of_none hb hx), upd_ne (ne_of_none hb hdx)]; exact hb
    refine ⟨x, dx, d, bg, A, lim, 0, 0, R, rfl, upd_same, s4 _ _ (s3 _ _ hA.1), s4 _ _ upd_same, hR, l0, cbw_pok ok ((hA.same s3).same s4) hc hR l0 l1, fun H' S fr tab => ⟨rfl, ?_⟩⟩
    have s5 : Same (upd H2 bg (.tup [V.int 0, V.int 0])) H' := fun b o hb => fr b o (s4 b o hb) (ne_of_none hb hx)
    have s6 : Same H H' := s0.trans (s1.trans (s2.trans (s3.trans s5)))
    obtain ⟨hz, ls⟩ := tab.has
    refine ⟨by simp [sizeLine_eq], fun p hp => ⟨by simp [sizeLine_eq], fun lr hlr => ?_⟩⟩
    have s7 := (same_new (o := .tup [V.int 0, V.ref x]) hp).trans (same_new (o := .lst [V.ref p]) hlr)
    refine q _ _ [(0, S)] (s6.trans s7) ((s6.trans (same_new hp)).free hlr) ⟨[p], upd_same, rfl, fun i p' T e1 e2 => ?_⟩ (.inl ⟨h1, A, R, S, hc, hR, ls, rfl⟩)
    cases i with
    | zero =>
      obtain rfl : p = p' := by simpa using e1
      obtain rfl : (0, S) = T := by simpa using e2
      exact ⟨x, (same_new hlr) _ _ upd_same, hz.same s7⟩
    | succ i => simp at e1
  · have e : (if false = true then !inV (V.str r.nm) [V.str "plain", V.str "single", V.str "next"] else inV (V.str r.nm) [V.str "plain", V.str "single", V.str "next"]) = false := by
      cases r with
      | plain => exact absurd (.inl rfl) h1
      | single => exact absurd (.inr (.inl rfl)) h1
      | next => exact absurd (.inr (.inr rfl)) h1
      | block => rfl
      | later => rfl
    rw [e]
    refine iteF ⟨by simp [sizeLine_eq], fun f hf => ?_⟩
    have hfH := s0.free hf
    have sf := s0.trans (same_new (o := .lst []) hf)
    refine ⟨_, rfl, (hs.same sf).tRow fun rp hrp => ?_⟩
    have sr := same_new (o := .lst (xs.map V.int)) hrp
    have hf2 : (upd (upd H0 f (.lst [])) rp (.lst (xs.map V.int))) f = some (.lst []) := sr _ _ upd_same
    have hr2 : (upd (upd H0 f (.lst [])) rp (.lst (xs.map V.int))) rp = some (.lst (xs.map V.int)) := upd_same
    have nrf : rp ≠ f := (ne_of_none (show (upd H0 f (.lst [])) f = some (.lst []) from upd_same) hrp).symm
    have s2 := sf.trans sr
    generalize (upd (upd H0 f (.lst [])) rp (.lst (xs.map V.int))) = Hb at hf2 hr2 s2
    refine ⟨rp, rfl, ⟨_, sqL hr2⟩, for_it (walk_list (xs := xs.map V.int)) (fun i σ G => (∀ c o, Hb c = some o → c ≠ f → G c = some o) ∧ Same H G ∧ ∃ Ts o3 o4 o5, σ = [some (V.ref a), some (V.int lim), some (V.ref f), o3, o4, o5] ∧ TabsAt K G f Ts ∧ Ts.map (·.1) = xs.take i ∧ ∀ T ∈ Ts, ∃ A, Sgn xs T.1 (pairA A) ∧ LeastS A (1 - T.1) (lim + T.1) T.1 1 T.2)
      ⟨fun _ _ h _ => h, s2, [], _, _, _, rfl, ⟨[], hf2, rfl, fun i p T e => by simp at e⟩, rfl, fun T hT => by simp at hT⟩ (fun i σ G _ h => sqL (h.1 _ _ hr2 nrf)) ?_ ?_⟩
    · rintro i y σ G G' hi ⟨k3, s3, Ts, o3, o4, o5, rfl, hT, hTf, hTl⟩ ⟨rfl, hy⟩
      obtain ⟨v, hv, rfl⟩ := mapI hy
      have hvx := List.mem_of_getElem? hv
      have tk : xs.take (i + 1) = xs.take i ++ [v] := by rw [List.take_add_one, hv] <;> rfl
      -- the pieces added
      refine ⟨_, rfl, (hs.same s3).tRow fun q1 hq1 => ⟨q1, rfl, ⟨_, sqL upd_same⟩, fun D hD => dc_tri (fun l => decide (l ≤ v)) (fun l => l) upd_same hD (by have := ok.len; omega) (fun i j u v h e1 e2 => Int.ne_of_lt (asc_inj ok.up h e1 e2)) (fun j l G2 Ry Rn hl sm ky kn => ?_) (fun G2 A s4 hA pA => ?_)⟩⟩
      · exact ⟨rfl, _, rfl, _, rfl, _, _, rfl, rfl, _, rfl, ite2 (fun z => ⟨_, rfl, _, rfl, by simp [sizeLine_eq], fun p hp => ky p _ z hp upd_same (same_new hp)⟩) fun z => kn (by simpa using z)⟩
      have s5 : Same G' G2 := (same_new hq1).trans s4
      have hf5 : ∃ us, G2 f = some (.lst us) := by
        obtain ⟨ps, h1, _⟩ := hT
        exact ⟨_, s5 _ _ h1⟩
      -- .. and subtracted
      refine ⟨_, rfl, .inr (.inr (.inl ⟨rfl, .inl ⟨_, hA.1⟩⟩)), _, rfl, (hs.same (s3.trans s5)).tRow fun q2 hq2 => ⟨q2, rfl, ⟨_, sqL upd_same⟩, fun D2 hD2 => dc_tri (fun l => decide (l < v)) (fun l => 0 - l) upd_same hD2 (by have := ok.len; omega) (fun i j u v h e1 e2 => by have := asc_inj ok.up h e1 e2; omega) (fun j l G3 Ry Rn hl sm ky kn => ?_) (fun G3 B s6 hB pB => ?_)⟩⟩
      · exact ⟨rfl, _, rfl, _, rfl, _, _, rfl, rfl, _, rfl, ite2 (fun z => ⟨_, rfl, _, _, rfl, rfl, _, rfl, by simp [sizeLine_eq], fun p hp => ky p _ z hp upd_same (same_new hp)⟩) fun z => kn (by simpa using z)⟩
      have s7 : Same G2 G3 := (same_new hq2).trans s6
      have hA3 := hA.same s7
      have DD : D ≠ D2 := ne_of_none ((same_new (o := .lst (xs.map V.int)) hq2) _ _ hA.1) hD2
      have lens : (triD A).length + (triD B).length ≤ sizeLine := by
        rw [triD_len, triD_len]
        have h1 : A.length = (pairA A).length := by simp [pairA]
        have h2 : B.length = (pairA B).length := by simp [pairA]
        rw [h1, h2, pA, pB, List.length_map, List.length_map]
        have h3 := List.length_filter_le (fun l => decide (l ≤ v)) xs
        have h4 := List.length_filter_le (fun l => decide (l < v)) xs
        have := ok.len
        rw [sizeLine_eq]
        omega
      refine ⟨D, D2, _, _, rfl, rfl, hA3.1, hB.1, DD, lens, ?_⟩
      have mg : mergeK (triD A) (triD B) = triD (A ++ B) := by
        refine merge_triD B A (fun e he f' hf' => ?_) ?_
        · have m1 : (e.1, e.2.2) ∈ pairA A := List.mem_map.mpr ⟨e, he, rfl⟩
          have m2 : (f'.1, f'.2.2) ∈ pairA B := List.mem_map.mpr ⟨f', hf', rfl⟩
          rw [pA] at m1
          rw [pB] at m2
          obtain ⟨u, hu, eu⟩ := List.mem_map.mp m1
          obtain ⟨w, hw, ew⟩ := List.mem_map.mp m2
          have b1 := ok.bd u (List.mem_filter.mp hu).1
          have b2 := ok.bd w (List.mem_filter.mp hw).1
          rw [← (Prod.mk.inj eu).1, ← (Prod.mk.inj ew).1]
          omega
        · rw [pairA_keys, pB]
          exact sgn_nodup ok.up
      rw [mg]
      have sgn : Sgn xs v (pairA (A ++ B)) := by
        unfold Sgn
        rw [← pA, ← pB]
        unfold pairA
        rw [List.map_append]
      have lneD : ∀ {b : Addr} {ys : List V}, G3 b = some (.lst ys) → b ≠ D := fun {b ys} q z => by subst z; rw [hA3.1] at q; cases q
      have hAB : DL (upd G3 D (.dK (triD (A ++ B)))) D (A ++ B) := ⟨upd_same, fun e he => by
        rcases List.mem_append.mp he with he | he
        · have := hA3.2 e he
          rw [upd_ne (lneD this)]; exact this
        · have := hB.2 e he
          rw [upd_ne (lneD this)]; exact this⟩
      have hDG : G' D = none := (none_of_upd hD).1
      have s8 : Same G' (upd G3 D (.dK (triD (A ++ B)))) := same_put (s5.trans s7) hDG
      generalize (upd G3 D (.dK (triD (A ++ B)))) = G4 at hAB s8
      clear hA3 hB lneD lens mg s7 s6 hD2 DD hA
      -- the table
      obtain ⟨us, hus⟩ := hf5
      have hT4 := hT.same s8
      obtain ⟨ps, hps, hps2, hps3⟩ := id hT4
      refine ⟨_, rfl, .inl ⟨rfl, _, sqL hps⟩, _, rfl, _, rfl, _, rfl, by simp [sizeLine_eq], fun bg hbg => ⟨_, rfl, fun x dx hx hdx ndx => ?_⟩⟩
      have s9 := same_new (o := .tup [V.int v, V.int 1]) hbg
      have s10 : Same (upd G4 bg (.tup [V.int v, V.int 1])) (upd (upd (upd G4 bg (.tup [V.int v, V.int 1])) dx (.own x)) x (.ins (ga K "Sums") dx [])) := fun b o hb => by rw [upd_ne (ne_of_none hb hx), upd_ne (ne_of_none hb hdx)]; exact hb
      obtain ⟨hR, pk⟩ := sgn_pok ok ((hAB.same s9).same s10) hvx sgn l0 l1
      refine ⟨x, dx, D, bg, A ++ B, lim, v, 1, v, rfl, upd_same, s10 _ _ (s9 _ _ hAB.1), s10 _ _ upd_same, hR, l0, pk, fun H' S fr tab => ⟨rfl, ?_⟩⟩
      have s11 : Same (upd G4 bg (.tup [V.int v, V.int 1])) H' := fun b o hb => fr b o (s10 b o hb) (ne_of_none hb hx)
      have s12 := s9.trans s11
      obtain ⟨hz, ls⟩ := tab.has
      refine ⟨by simp [sizeLine_eq], fun p hp => ?_⟩
      have s13 := s12.trans (same_new (o := .tup [V.int v, V.ref x]) hp)
      have lT : Ts.length ≤ 6 := by
        have := congrArg List.length hTf
        rw [List.length_map, List.length_take] at this
        have := ok.len
        omega
      refine ⟨f, ps.map V.ref, _, rfl, rfl, s13 _ _ hps, by rw [List.length_map, hps2]; exact sz_lt (by omega), ?_⟩
      refine ⟨fun c o hc hcf => ?_, same_put (s3.trans (s8.trans s13)) hfH, Ts ++ [(v, S)], _, _, _, rfl, (hT4.same s12).push (s12 _ _ hps) hp hz, by rw [List.map_append, hTf, tk] <;> rfl, fun T hT' => ?_⟩
      · rw [upd_ne hcf]
        exact s13 _ _ (s8 _ _ (k3 _ _ hc hcf))
      · rcases List.mem_append.mp hT' with hT' | hT'
        · exact hTl T hT'
        · rw [List.mem_singleton.mp hT']
          exact ⟨A ++ B, sgn, ls⟩
    · rintro σ G ⟨k3, s3, Ts, o3, o4, o5, rfl, hT, hTf, hTl⟩
      rw [List.length_map, List.take_length] at hTf
      exact ⟨_, rfl, q _ _ Ts s3 hfH hT (.inr ⟨h1, hTf, hTl⟩)⟩
end
end K75R
set_option Elab.async false
set_option linter.all false
set_option maxRecDepth 100000
set_option maxHeartbeats 4000000
namespace K75R
open PySem PySem.Spec PyProof.Rows L2
section
variable {P : Program} {w : World} {K : PySem.W.Frag} {mg : Str → Option Value} {base : Heap}
open K75
/-! the fewest signs, by the tables -/
/-- the least of what the tables tell of n -/
def IsMin (Ts : List (Int × (Int → Option Int))) (n : Int) : Option Int → Prop
  | none => ∀ T ∈ Ts, T.2 n = none
  | some m => (∃ T ∈ Ts, T.2 n = some m) ∧ ∀ T ∈ Ts, ∀ k, T.2 n = some k → m ≤ k
theorem IsMin.uniq {Ts : List (Int × (Int → Option Int))} {n : Int} {o o' : Option Int} (h : IsMin Ts n o) (h' : IsMin Ts n o') : o = o' := by
  cases o with
  | none =>
    cases o' with
    | none => rfl
    | some m =>
      obtain ⟨⟨T, hT, e⟩, _⟩ := h'
      rw [h T hT] at e
      cases e
  | some m =>
    obtain ⟨⟨T, hT, e⟩, h2⟩ := h
    cases o' with
    | none => rw [h' T hT] at e; cases e
    | some m' =>
      obtain ⟨⟨T', hT', e'⟩, h2'⟩ := h'
      have a := h2 T' hT' m' e'
      have b := h2' T hT m e
      rw [show m = m' by omega]
theorem SzAt.isD {H : Hp} {d : Addr} {S : Int → Option Int} {N : Nat} (h : SzAt H d S N) : IsD H d := let ⟨kvs, h1⟩ := h.dict; .inl ⟨kvs, .inl h1⟩
/-- a best table: at p -/
def BestAt (K : PySem.W.Frag) (H : Hp) (v : V) (n : Int) : Option Int → Prop
  | none => v = .non
  | some m => ∃ p g x S, v = .ref p ∧ H p = some (.tup [.int g, .ref x]) ∧ HasSz K H x S ∧ S n = some m
theorem BestAt.same {K : PySem.W.Frag} {H H' : Hp} {v : V} {n : Int} {o : Option Int} (h : BestAt K H v n o) (k : Same H H') : BestAt K H' v n o := by
  cases o with
  | none => exact h
  | some m =>
    obtain ⟨p, g, x, S, e, h1, h2, h3⟩ := h
    exact ⟨p, g, x, S, e, k _ _ h1, h2.same k, h3⟩
def sp_best (K : PySem.W.Frag) : Sp := fun vs H Q _ => ∃ (a : Addr) (xs : List Int) (r : Rl) (n : Int), vs = [.ref a, .int n] ∧ SysAt K H a xs r ∧ 0 ≤ n ∧ n ≤ 4000 ∧ ∀ H' v Ts o, Same H H' → TabsOk xs r n Ts → IsMin Ts n o → BestAt K H' v n o → Q v H'
theorem TabsAt.item {K : PySem.W.Frag} {H : Hp} {Ts : List (Int × (Int → Option Int))} {ps : List Addr} (h2 : ps.length = Ts.length) (h3 : ∀ (i : Nat) p T, ps[i]? = some p → Ts[i]? = some T → ∃ x, H p = some (.tup [.int T.1, .ref x]) ∧ HasSz K H x T.2) {i : Nat} {y : V} (e : (ps.map V.ref)[i]? = some y) :
    ∃ p T x, y = .ref p ∧ Ts[i]? = some T ∧ H p = some (.tup [.int T.1, .ref x]) ∧ HasSz K H x T.2 := by
  obtain ⟨p, hp, rfl⟩ := mapI e
  obtain ⟨hi, _⟩ := List.getElem?_eq_some_iff.mp hp
  have hi' : i < Ts.length := by omega
  obtain ⟨x, g1, g2⟩ := h3 i p Ts[i] hp (by simp [hi'])
  exact ⟨p, Ts[i], x, rfl, by simp [hi'], g1, g2⟩
theorem isMin_snoc {Ts : List (Int × (Int → Option Int))} {T : Int × (Int → Option Int)} {n : Int} {o : Option Int} (h : IsMin Ts n o) : IsMin (Ts ++ [T]) n (match T.2 n, o with | none, o => o | some k, none => some k | some k, some m => if k < m then some k else some m) := by
  cases e : T.2 n with
  | none =>
    cases o with
    | none =>
      intro U hU
      rcases List.mem_append.mp hU with hU | hU
      · exact h U hU
      · rw [List.mem_singleton.mp hU]; exact e
    | some m =>
      obtain ⟨⟨U, hU, eU⟩, h2⟩ := h
      refine ⟨⟨U, List.mem_append_left _ hU, eU⟩, fun W hW k hk => ?_⟩
      rcases List.mem_append.mp hW with hW | hW
      · exact h2 W hW k hk
      · rw [List.mem_singleton.mp hW, e] at hk; cases hk
  | some k =>
    cases o with
    | none =>
      refine ⟨⟨T, by simp, e⟩, fun W hW j hj => ?_⟩
      rcases List.mem_append.mp hW with hW | hW
      · rw [h W hW] at hj; cases hj
      · rw [List.mem_singleton.mp hW, e] at hj; cases hj; exact Int.le_refl _
    | some m =>
      obtain ⟨⟨U, hU, eU⟩, h2⟩ := h
      dsimp
      split
      · refine ⟨⟨T, by simp, e⟩, fun W hW j hj => ?_⟩
        rcases List.mem_append.mp hW with hW | hW
        · have := h2 W hW j hj
          omega
        · rw [List.mem_singleton.mp hW, e] at hj; cases hj; exact Int.le_refl _
      · refine ⟨⟨U, List.mem_append_left _ hU, eU⟩, fun W hW j hj => ?_⟩
        rcases List.mem_append.mp hW with hW | hW
        · exact h2 W hW j hj
        · rw [List.mem_singleton.mp hW, e] at hj; cases hj; omega

theorem sc_best_table : FnScope ["system", "number", "found", "value", "table", "size"] ["system", "number"] (defScope (top 39)) := ⟨rfl, rfl, rfl, by decide +kernel, rfl, by decide +kernel, by decide +kernel⟩
theorem R_best_table (T : Txt K mg) : FnR P w K mg base CX0 7 (ga K "best_table") (sp_best K) := by
  obtain ⟨fd, F⟩ := T.best_table.F
  have sc := sc_best_table
  refine Fun.raw F sc (fun vs H Q E h => ?_) (fun _ _ _ _ _ _ us hl => match us, hl with | [_, _], _ => rfl) (fun cdv A outer s H vs Q E hr h => ?_)
  · obtain ⟨_, _, _, _, rfl, _⟩ := h
    rfl
  obtain ⟨a, xs, r, n, rfl, hs, l0, l1, q⟩ := h
  refine ⟨_, (pss_cons
    (ps_set (i := 2) sc.nd rfl (by first | exact Or.inl rfl | exact Or.inr rfl) pe_non)
    (pss_cons
    (ps_for PassesOwn.never rfl (pi_list (cR T.tables_to (R_tables_to T) hr pass0 (pa_cons (pv 0) (pa_cons (pv 1) pa_nil)))) (pg_tup (by rfl) (pgs_cons (pg_name (i := 3) sc.nd rfl (by first | exact Or.inl rfl | exact Or.inr rfl)) (pgs_cons (pg_name (i := 4) sc.nd rfl (by first | exact Or.inl rfl | exact Or.inr rfl)) pgs_nil)))
      (pss_cons
      (ps_set (i := 5) sc.nd rfl (by first | exact Or.inl rfl | exact Or.inr rfl) (pe_dget1 (hu_of hr) (pe_fld (pv 4) rfl) (pv 1) ⟨by rfl, by rfl, by rfl, by rfl⟩))
      (pss_one
      (ps_if (PW.pt (pw_and (pt_cmpR op_notN (pv 5) pe_non (nomark _)) (pw_and1 (PW.pt (pw_or (pt_cmpR op_isN (pv 2) pe_non (nomark _)) (pw_or1 (pt_cmpR op_lt (pv 5) (pe_dget (hu_of hr) (pe_fld (pe_ix ix_tup (pv 2) pe_int (fun _ _ => rfl)) rfl) (pv 1) (fun _ _ => rfl)) (nomark _))))))))
        (pss_one
        (ps_set (i := 2) sc.nd rfl (by first | exact Or.inl rfl | exact Or.inr rfl) (pe_tup (pa_cons (pv 3) (pa_cons (pv 4) pa_nil)))))
        pss_nil))))
    (pss_one
    (ps_ret (pv 2))))), ?_⟩
  refine ⟨_, rfl, _, rfl, a, xs, r, n, rfl, hs, l0, l1, fun H1 l Ts s1 hl hT hok => ?_⟩
  obtain ⟨ps, h1, h2, h3⟩ := hT
  refine ⟨l, rfl, ⟨_, sqL h1⟩, for_it (walk_list (xs := ps.map V.ref)) (fun i σ G => Same H1 G ∧ ∃ v o o3 o4 o5, σ = [some (V.ref a), some (V.int n), some v, o3, o4, o5] ∧ IsMin (Ts.take i) n o ∧ BestAt K G v n o) ⟨Same.refl _, .non, none, _, _, _, rfl, fun T hT => by simp at hT, rfl⟩ (fun i σ G _ h => sqL (h.1 _ _ h1)) ?_ ?_⟩
  · rintro i y σ G G' hi ⟨s2, v, o, o3, o4, o5, rfl, mn, bt⟩ ⟨rfl, hy⟩
    obtain ⟨p, U, x, rfl, hU, hp, hx⟩ := TabsAt.item h2 h3 hy
    have tk : Ts.take (i + 1) = Ts.take i ++ [U] := by rw [List.take_add_one, hU] <;> rfl
    have hx := hx.same s2
    obtain ⟨dx, dp, lo, hi', ds, dl, N, hx1, hz⟩ := id hx
    have nx := isMin_snoc (T := U) mn
    rw [← tk] at nx
    refine ⟨p, _, rfl, sqT (s2 _ _ hp), rfl, _, _, rfl, _, _, rfl, rfl, ?_⟩
    refine ⟨_, rfl, x, _, dx, _, _, rfl, hx1, T.Sums.c, T.n_sizes, by rfl, ds, rfl, hz.isD, _, rfl, _, hz.get n, ?_⟩
    cases e : U.2 n with
    | none =>
      rw [e] at nx
      refine ⟨_, rfl, rfl, false, rfl, iteF ⟨s2, v, o, _, _, _, rfl, nx, bt⟩⟩
    | some k =>
      rw [e] at nx
      refine ⟨_, rfl, rfl, true, rfl, iteT ?_⟩
      cases o with
      | none =>
        obtain rfl : v = .non := bt
        refine ⟨_, rfl, rfl, true, rfl, iteT (iteT ⟨_, rfl, _, rfl, by simp [sizeLine_eq], fun t ht => ⟨s2.trans (same_new ht), _, some k, _, _, _, rfl, nx, t, U.1, x, U.2, rfl, upd_same, hx.same (same_new ht), e⟩⟩)⟩
      | some m =>
        obtain ⟨p0, g0, x0, S0, rfl, hp0, hx0, e0⟩ := id bt
        obtain ⟨dx0, dp0, lo0, hi0, ds0, dl0, N0, hx01, hz0⟩ := id hx0
        refine ⟨_, rfl, rfl, false, rfl, iteF ⟨_, rfl, _, rfl, p0, _, 1, _, rfl, rfl, sqT hp0, rfl, x0, _, dx0, _, _, rfl, hx01, T.Sums.c, T.n_sizes, by rfl, _, rfl, ds0, V.int m, rfl, by have := hz0.get n; rw [e0] at this; exact this, _, _, rfl, rfl, _, rfl, ite2 (fun z => ?_) fun z => ?_⟩⟩
        · have z := of_decide_eq_true z
          dsimp only at nx
          rw [if_pos z] at nx
          exact ⟨_, rfl, _, rfl, by simp [sizeLine_eq], fun t ht => ⟨s2.trans (same_new ht), _, some k, _, _, _, rfl, nx, t, U.1, x, U.2, rfl, upd_same, hx.same (same_new ht), e⟩⟩
        · have z : ¬ k < m := by simpa using z
          dsimp only at nx
          rw [if_neg z] at nx
          exact ⟨s2, _, some m, _, _, _, rfl, nx, bt⟩
  · rintro σ G ⟨s2, v, o, o3, o4, o5, rfl, mn, bt⟩
    rw [List.length_map, h2, List.take_length] at mn
    exact ⟨_, rfl, q _ _ Ts o (s1.trans s2) hok mn bt⟩

/-- what fewest answers -/
def FewIs (xs : List Int) (r : Rl) (n : Int) (o : Option Int) : Prop :=
  ((topOf xs - 1) * (topOf xs - 1) < n ∧ ∃ es, Tbl xs r es ∧ o = ((es[(n % topOf xs).toNat]?).join).map fun c => (n + c) / topOf xs) ∨
  (n ≤ (topOf xs - 1) * (topOf xs - 1) ∧ ∃ Ts, TabsOk xs r n Ts ∧ IsMin Ts n o)
def sp_fewest (K : PySem.W.Frag) : Sp := fun vs H Q _ => ∃ (a : Addr) (xs : List Int) (r : Rl) (n : Int), vs = [.ref a, .int n] ∧ SysAt K H a xs r ∧ 1 ≤ n ∧ n ≤ 10 ^ 30 ∧ ∀ H' o, Same H H' → FewIs xs r n o → Q (optV o) H'
theorem sq_le {t : Int} (h1 : 1 ≤ t) (h2 : t ≤ 60) : (t - 1) * (t - 1) ≤ 4000 := by
  have : (t - 1) * (t - 1) ≤ 59 * 59 := Int.mul_le_mul (by omega) (by omega) (by omega) (by omega)
  omega
theorem sc_fewest : FnScope ["system", "number", "found", "cost"] ["system", "number"] (defScope (top 40)) := ⟨rfl, rfl, rfl, by decide +kernel, rfl, by decide +kernel, by decide +kernel⟩
theorem R_fewest (T : Txt K mg) : FnR P w K mg base CX0 8 (ga K "fewest") (sp_fewest K) := by
  obtain ⟨fd, F⟩ := T.fewest.F
  have sc := sc_fewest
  refine Fun.raw F sc (fun vs H Q E h => ?_) (fun _ _ _ _ _ _ us hl => match us, hl with | [_, _], _ => rfl) (fun cdv A outer s H vs Q E hr h => ?_)
  · obtain ⟨_, _, _, _, rfl, _⟩ := h
    rfl
  obtain ⟨a, xs, r, n, rfl, hs, l0, l1, q⟩ := h
  refine ⟨_, (pss_cons
    (ps_expr (cR T.check_number (R_check_number T) hr pass0 (pa_cons (pv 1) pa_nil)))
    (pss_cons
    (ps_if (pt_cmpR op_gt (pv 1) (cR T.bound_of (R_bound_of T) hr pass0 (pa_cons (pv 0) pa_nil)) (nomark _))
      (pss_cons
      (ps_set (i := 3) sc.nd rfl (by first | exact Or.inl rfl | exact Or.inr rfl) (pe_ix ix_list (cR T.excesses (R_excesses T) hr pass0 (pa_cons (pv 0) pa_nil)) (pe_op op_mod (pv 1) (pe_top T hr (pv 0))) (fun _ _ => rfl)))
      (pss_one
      (ps_ret (pe_ifExp (pt_cmpR op_isN (pv 3) pe_non (nomark _)) pe_non (pe_op op_fdivW (pe_op op_add (pv 1) (pv 3)) (pe_top T hr (pv 0)))))))
      pss_nil)
    (pss_cons
    (ps_set (i := 2) sc.nd rfl (by first | exact Or.inl rfl | exact Or.inr rfl) (cR T.best_table (R_best_table T) hr pass0 (pa_cons (pv 0) (pa_cons (pv 1) pa_nil))))
    (pss_one
    (ps_ret (pe_ifExp (pt_cmpR op_isN (pv 2) pe_non (nomark _)) pe_non (pe_dget (hu_of hr) (pe_fld (pe_ix ix_tup (pv 2) pe_int (fun _ _ => rfl)) rfl) (pv 1) (fun _ _ => rfl)))))))), ?_⟩
  have tp := hs.ok.top
  have sq := sq_le tp.1 tp.2
  refine ⟨_, rfl, n, rfl, l0, l1, ?_⟩
  refine ⟨_, rfl, _, rfl, a, xs, r, rfl, hs, _, _, rfl, rfl, _, rfl, ite2 (fun z => ?_) fun z => ?_⟩
  · have z := of_decide_eq_true z
    refine ⟨_, rfl, a, xs, r, rfl, hs, fun H1 l es s1 hl he ht => ?_⟩
    have md0 := Int.emod_nonneg n (show topOf xs ≠ 0 by omega)
    have md1 := Int.emod_lt_of_pos n (show 0 < topOf xs by omega)
    have hi : (n % topOf xs).toNat < es.length := by rw [ht.1]; omega
    obtain ⟨e, hee⟩ : ∃ e, es[(n % topOf xs).toNat]? = some e := ⟨_, List.getElem?_eq_getElem hi⟩
    have ha : atI (es.map optV) (n % topOf xs) = some (optV e) := by
      have h1 : (es.map optV)[(n % topOf xs).toNat]? = some (optV e) := by rw [List.getElem?_map, hee] <;> rfl
      have := atI_nat h1
      rwa [show (((n % topOf xs).toNat : Nat) : Int) = n % topOf xs by omega] at this
    refine ⟨_, rfl, _, rfl, (hs.same s1).tTop ⟨_, _, rfl, rfl, by omega, l, _, _, _, rfl, rfl, sqL he, ha, ?_⟩⟩
    have fi : ∀ o, o = e.map (fun c => (n + c) / topOf xs) → FewIs xs r n o := fun o ho => .inl ⟨z, es, ht, by rw [hee]; exact ho⟩
    cases e with
    | none => exact ⟨_, rfl, rfl, true, rfl, iteT (q _ _ s1 (fi none rfl))⟩
    | some c =>
      refine ⟨_, rfl, rfl, false, rfl, iteF ⟨_, rfl, _, rfl, _, _, rfl, rfl, _, rfl, (hs.same s1).tTop ⟨_, _, rfl, rfl, wide_div (b := 60) (by omega) (by omega) (by decide) (by decide), q _ _ s1 (fi (some _) rfl)⟩⟩⟩
  · have z : n ≤ (topOf xs - 1) * (topOf xs - 1) := by
      have : ¬ (topOf xs - 1) * (topOf xs - 1) < n := by simpa using z
      omega
    refine ⟨_, rfl, _, rfl, a, xs, r, n, rfl, hs, by omega, by omega, fun H1 v Ts o s1 hok mn bt => ?_⟩
    cases o with
    | none =>
      obtain rfl : v = .non := bt
      exact ⟨_, rfl, rfl, true, rfl, iteT (q _ _ s1 (.inr ⟨z, Ts, hok, mn⟩))⟩
    | some m =>
      obtain ⟨p0, g0, x0, S0, rfl, hp0, hx0, e0⟩ := bt
      obtain ⟨dx0, dp0, lo0, hi0, ds0, dl0, N0, hx01, hz0⟩ := id hx0
      exact ⟨_, rfl, rfl, false, rfl, iteF ⟨_, rfl, p0, _, 1, _, rfl, rfl, sqT hp0, rfl, x0, _, dx0, _, _, rfl, hx01, T.Sums.c, T.n_sizes, by rfl, _, rfl, ds0, V.int m, rfl, by have := hz0.get n; rw [e0] at this; exact this, q _ _ s1 (.inr ⟨z, Ts, hok, mn⟩)⟩⟩
end
end K75R
set_option Elab.async false
set_option linter.all false
set_option maxRecDepth 100000
set_option maxHeartbeats 4000000
namespace K75R
open PySem PySem.Spec PyProof.Rows L2
section
variable {P : Program} {w : World} {K : PySem.W.Frag} {mg : Str → Option Value} {base : Heap}
open K75
/-! the fewest signs up to a number -/
def sp_fewest_to (K : PySem.W.Frag) : Sp := fun vs H Q _ => ∃ (a : Addr) (xs : List Int) (r : Rl) (n : Nat), vs = [.ref a, .int n] ∧ SysAt K H a xs r ∧ n ≤ 4000 ∧ ∀ (H' : Hp) (l : Addr) (os : List (Option Int)) (Ts : List (Int × (Int → Option Int))), Same H H' → H l = none → H' l = some (.lst (os.map optV)) → os.length = n + 1 → TabsOk xs r n Ts → (∀ k : Nat, 1 ≤ k → k ≤ n → ∃ o, os[k]? = some o ∧ IsMin Ts k o) → Q (.ref l) H'
theorem list_of {α : Type} {P : Nat → α → Prop} : ∀ n : Nat, (∀ i, i < n → ∃ x, P i x) → ∃ us : List α, us.length = n ∧ ∀ (i : Nat) x, us[i]? = some x → P i x
  | 0, _ => ⟨[], rfl, fun i x h => by simp at h⟩
  | n + 1, h => by
    obtain ⟨us, h1, h2⟩ := list_of n fun i hi => h i (by omega)
    obtain ⟨x, hx⟩ := h n (by omega)
    refine ⟨us ++ [x], by simp [h1], fun i y hy => ?_⟩
    by_cases hi : i < us.length
    · rw [List.getElem?_append_left hi] at hy
      exact h2 i y hy
    · rw [List.getElem?_append_right (by omega)] at hy
      have e0 : i - us.length = 0 := by
        by_cases z : i - us.length = 0
        · exact z
        · rw [List.getElem?_eq_none (by simp; omega)] at hy; cases hy
      rw [e0] at hy
      obtain rfl : x = y := by simpa using hy
      rw [show i = n by omega]
      exact hx
/-- the sizes that the tables have -/
def szsF (Ts : List (Int × (Int → Option Int))) (n : Int) : List Int := Ts.filterMap fun T => T.2 n
theorem range_fm {α β : Type} (h : α → Option β) : ∀ Ts : List α, (List.range Ts.length).filterMap (fun j => (Ts[j]?).bind h) = Ts.filterMap h
  | [] => by simp
  | T :: Ts => by
    have ih := range_fm h Ts
    rw [List.length_cons, List.range_succ_eq_map, List.filterMap_cons, List.filterMap_cons, List.filterMap_map, ← ih]
    rfl
theorem min_of {Ts : List (Int × (Int → Option Int))} {n m : Int} (h1 : m ∈ szsF Ts n) (h2 : ∀ y ∈ szsF Ts n, m ≤ y) : IsMin Ts n (some m) := by
  obtain ⟨T, hT, e⟩ := List.mem_filterMap.mp h1
  exact ⟨⟨T, hT, e⟩, fun U hU k hk => h2 k (List.mem_filterMap.mpr ⟨U, hU, hk⟩)⟩
theorem min_none {Ts : List (Int × (Int → Option Int))} {n : Int} (h : szsF Ts n = []) : IsMin Ts n none := fun T hT => by
  cases e : T.2 n with
  | none => rfl
  | some k =>
    have : k ∈ szsF Ts n := List.mem_filterMap.mpr ⟨T, hT, e⟩
    rw [h] at this
    cases this

theorem sc_fewest_to : FnScope ["system", "most", "tables", "found", "number", "sizes", "value", "table"] ["system", "most"] (defScope (top 47)) := ⟨rfl, rfl, rfl, by decide +kernel, rfl, by decide +kernel, by decide +kernel⟩
theorem R_fewest_to (T : Txt K mg) : FnR P w K mg base CX0 7 (ga K "fewest_to") (sp_fewest_to K) := by
  obtain ⟨fd, F⟩ := T.fewest_to.F
  have sc := sc_fewest_to
  refine Fun.raw F sc (fun vs H Q E h => ?_) (fun _ _ _ _ _ _ us hl => match us, hl with | [_, _], _ => rfl) (fun cdv A outer s H vs Q E hr h => ?_)
  · obtain ⟨_, _, _, _, rfl, _⟩ := h
    rfl
  obtain ⟨a, xs, r, n, rfl, hs, l1, q⟩ := h
  refine ⟨_, (pss_cons
    (ps_setLc (i := 2) (own := [("value", 6), ("table", 7)]) (by rfl) sc.nd rfl rfl (sw_true rfl rfl rfl (by decide +kernel)) (pi_list (cR T.tables_to (R_tables_to T) hr pass0 (pa_cons (pv 0) (pa_cons (pv 1) pa_nil)))) (blkOk_by (N := ["system", "most", "tables", "found", "number", "sizes", "value", "table"]) (sc := defScope (top 47)) (own := [("value", 6), ("table", 7)]) (by decide +kernel)) (fun _ _ _ _ _ => (show PG _ _ (gTup K 2 _) from (pg_tup (by rfl) (pgs_cons (pg_name (i := 6) sc.nd rfl (by first | exact Or.inl rfl | exact Or.inr rfl)) (pgs_cons (pg_name (i := 7) sc.nd rfl (by first | exact Or.inl rfl | exact Or.inr rfl)) pgs_nil))))) (fun _ _ _ _ _ => pts_nil) (fun _ _ _ _ _ => (pv 7)))
    (pss_cons
    (ps_set (i := 3) sc.nd rfl (by first | exact Or.inl rfl | exact Or.inr rfl) (pe_lst (pa_cons pe_non pa_nil)))
    (pss_cons
    (ps_for PassesOwn.never rfl (pi_range2 (by rfl) T.b_range (pa_cons pe_int (pa_cons (pe_op op_add (pv 1) pe_int) pa_nil))) (pg_name (i := 4) sc.nd rfl (by first | exact Or.inl rfl | exact Or.inr rfl))
      (pss_cons
      (ps_setLc (i := 5) (own := [("table", 7)]) (by rfl) sc.nd rfl rfl (sw_true rfl rfl rfl (by decide +kernel)) (pi_list (pv 2)) (blkOk_by (N := ["system", "most", "tables", "found", "number", "sizes", "value", "table"]) (sc := defScope (top 47)) (own := [("table", 7)]) (by decide +kernel)) (fun _ _ _ _ _ => (pg_name (i := 7) sc.nd rfl (by first | exact Or.inl rfl | exact Or.inr rfl))) (fun _ _ _ _ _ => (pts_one (show PT _ _ (tB (tDIn _ (tFld K _ _))) from pt_cmp (pc_din (hu_of hr) (pv 4) (pe_fld (pv 7) rfl))))) (fun _ _ _ _ _ => (show PE _ _ (tDGet (tFld K _ _) _) from pe_dget (hu_of hr) (pe_fld (pv 7) rfl) (pv 4) (fun _ _ => rfl))))
      (pss_one
      (ps_expr (pe_bm PySem.F.plainAttrs_list PySem.F.slot_list_append PySem.F.type_list_append mt_append (pv 3) (pa_cons (pe_ifExp (pt_cmpR (op_neD hr.units) (pv 5) (pe_lst pa_nil) (nomark _)) (pe_callB (cr_min rfl) (by rfl) T.b_min bt_min (pa_cons (pv 5) pa_nil)) pe_non) pa_nil))))))
    (pss_one
    (ps_ret (pv 3)))))), ?_⟩
  refine ⟨_, rfl, _, rfl, a, xs, r, n, rfl, hs, by omega, by omega, fun H1 l Ts s1 hl hT hok => ?_⟩
  have lT : Ts.length ≤ 6 := by
    have l6 := hs.ok.len
    rcases hok with ⟨_, A, R, S, _, _, _, e⟩ | ⟨_, e, _⟩
    · rw [e]; simp
    · have := congrArg List.length e
      rw [List.length_map] at this
      omega
  obtain ⟨ps, h1, h2, h3⟩ := hT
  -- the tables
  have tab : ∀ i : Nat, i < ps.length → ∃ x : Addr, ∃ T p, Ts[i]? = some T ∧ HasSz K H1 x T.2 ∧ ps[i]? = some p ∧ H1 p = some (.tup [.int T.1, .ref x]) := fun i hi => by
    have hi' : i < Ts.length := by omega
    obtain ⟨x, g1, g2⟩ := h3 i ps[i] Ts[i] (by simp [hi]) (by simp [hi'])
    exact ⟨x, Ts[i], ps[i], by simp [hi'], g2, by simp [hi], g1⟩
  obtain ⟨us, hu1, hu2⟩ := list_of ps.length tab
  refine ⟨l, rfl, ⟨_, sqL h1⟩, fun D hD => lc_map walk_list (us.map V.ref) (by simp [hu1]) (by simp; omega) hD (fun G h => sqL (h _ _ h1)) (fun i y G G' Ry hi s2 yy ky => ?_) (fun G s2 hG => ?_)⟩
  · obtain ⟨rfl, hy⟩ := yy
    obtain ⟨p, hp, rfl⟩ := mapI hy
    have hi' : i < us.length := by rw [hu1]; simpa using hi
    obtain ⟨U, p', e1, e2, e3, e4⟩ := hu2 i us[i] (by simp [hi'])
    rw [hp] at e3
    cases e3
    exact ⟨p, _, rfl, sqT (s2 _ _ e4), rfl, _, _, rfl, _, _, rfl, rfl, rfl, _, rfl, ky _ _ (by simp [hi']) (Same.refl _)⟩
  -- the numbers
  have st := s1.trans s2
  refine ⟨by simp [sizeLine_eq], fun f hf => ?_⟩
  have sf := same_new (o := .lst [V.non]) hf
  have hD2 := sf _ _ hG
  have Df : D ≠ f := ne_of_none hG hf
  have hfH : H f = none := st.free hf
  have ff : (upd G f (.lst [V.non])) f = some (.lst [V.non]) := upd_same
  have tab2 : ∀ (i : Nat) x, us[i]? = some x → ∃ T, Ts[i]? = some T ∧ HasSz K (upd G f (.lst [V.non])) x T.2 := fun i x hx => by
    obtain ⟨U, p, e1, e2, _⟩ := hu2 i x hx
    exact ⟨U, e1, (e2.same s2).same sf⟩
  have s3 := st.trans sf
  generalize (upd G f (.lst [V.non])) = G0 at hD2 ff tab2 s3
  have e1 : ((n : Int) + 1 - 1).toNat = n := by omega
  refine ⟨_, rfl, _, _, rfl, rfl, 1, (n : Int) + 1, rfl, ⟨by omega, by omega, by omega, by omega⟩, ?_⟩
  rw [e1]
  refine for_it (walk_range (lo := 1) (n := n)) (fun i σ G => (∀ c o, G0 c = some o → c ≠ f → G c = some o) ∧ Same H G ∧ ∃ (os : List (Option Int)) (o4 o5 o6 o7 : Option V), σ = [some (V.ref a), some (V.int (n : Int)), some (V.ref D), some (V.ref f), o4, o5, o6, o7] ∧ G f = some (.lst (os.map optV)) ∧ os.length = i + 1 ∧ ∀ k : Nat, 1 ≤ k → k ≤ i → ∃ o, os[k]? = some o ∧ IsMin Ts k o)
    ⟨fun _ _ h _ => h, s3, [none], _, _, _, _, rfl, ff, rfl, fun k h1 h2 => by omega⟩ (fun _ _ _ _ _ => True.intro) ?_ ?_
  · rintro i y σ G1 G1' hi ⟨k4, s4, os, o4, o5, o6, o7, rfl, hfo, hol, hom⟩ ⟨rfl, rfl⟩
    have hu5 : ∀ (i : Nat) x, us[i]? = some x → ∃ T, Ts[i]? = some T ∧ HasSz K G1' x T.2 := fun i x hx => by
      obtain ⟨U, e1, e2⟩ := tab2 i x hx
      refine ⟨U, e1, ?_⟩
      obtain ⟨dx, dp, lo, hi, ds, dl, N, g1, kvs, g2, g3⟩ := e2
      have n1 : x ≠ f := fun z => by rw [z, ff] at g1; cases g1
      have n2 : ds ≠ f := fun z => by rw [z, ff] at g2; cases g2
      exact ⟨dx, dp, lo, hi, ds, dl, N, k4 _ _ g1 n1, kvs, k4 _ _ g2 n2, g3⟩
    have hD1 := k4 _ _ hD2 Df
    have num : (1 + (i : Int)) = ((i + 1 : Nat) : Int) := by omega
    show gName 4 (V.int (1 + (i : Int))) _ _ _
    rw [num]
    refine ⟨_, rfl, D, rfl, ⟨_, sqL hD1⟩, fun D2 hD2' => lc_fm walk_list (fun j => (Ts[j]?).bind fun T => (T.2 ((i + 1 : Nat) : Int)).map V.int) (by simp; omega) hD2' (fun G h => sqL (h _ _ hD1)) (fun j y G2 G2' Ry Rn hj s5 yy ky kn => ?_) (fun G2 s5 hG2 => ?_)⟩
    · obtain ⟨rfl, hy⟩ := yy
      obtain ⟨u, hu, rfl⟩ := mapI hy
      obtain ⟨U, eU, hz⟩ := hu5 j u hu
      obtain ⟨dx, dp, lo, hi2, ds, dl, N, g1, hz⟩ := hz.same s5
      refine ⟨rfl, _, rfl, _, rfl, u, _, dx, _, _, rfl, g1, T.Sums.c, T.n_sizes, by rfl, ds, _, rfl, hz.get _, _, rfl, ?_⟩
      cases e : U.2 ((i + 1 : Nat) : Int) with
      | none => exact iteF (kn _ (by rw [eU]; show (U.2 _).map V.int = _; rw [e] <;> rfl) (Same.refl _))
      | some k => exact iteT ⟨_, rfl, u, _, dx, _, _, rfl, g1, T.Sums.c, T.n_sizes, by rfl, _, rfl, ds, V.int k, rfl, by have := hz.get ((i + 1 : Nat) : Int); rw [e] at this; exact this, ky _ _ (by rw [eU]; show (U.2 _).map V.int = _; rw [e] <;> rfl) (Same.refl _)⟩
    have szs : G2 D2 = some (.lst ((szsF Ts ((i + 1 : Nat) : Int)).map V.int)) := by
      rw [hG2, List.length_map, hu1, h2, range_fm]
      unfold szsF
      rw [List.map_filterMap]
    have hf5 := s5 _ _ hfo
    refine ⟨_, rfl, .inl ⟨rfl, _, sqL hf5⟩, _, rfl, by simp [sizeLine_eq], fun e he => neD_ints (zs := szsF Ts ((i + 1 : Nat) : Int)) (sqL ((same_new he) _ _ szs)) (sqL upd_same) ⟨_, rfl, ?_⟩⟩
    have s6 := s5.trans (same_new (o := .lst []) he)
    have sz6 := (same_new (o := .lst []) he) _ _ szs
    generalize (upd G2 e (.lst [])) = G3 at s6 sz6
    have hf6 := s6 _ _ hfo
    have fin : ∀ o : Option Int, IsMin Ts ((i + 1 : Nat) : Int) o → (∀ c x, G0 c = some x → c ≠ f → (upd G3 f (.lst (os.map optV ++ [optV o]))) c = some x) ∧ Same H (upd G3 f (.lst (os.map optV ++ [optV o]))) ∧
        ∃ (os' : List (Option Int)) (q4 q5 q6 q7 : Option V), [some (V.ref a), some (V.int (n : Int)), some (V.ref D), some (V.ref f), some (V.int ((i + 1 : Nat) : Int)), some (V.ref D2), o6, o7] = [some (V.ref a), some (V.int (n : Int)), some (V.ref D), some (V.ref f), q4, q5, q6, q7] ∧
          (upd G3 f (.lst (os.map optV ++ [optV o]))) f = some (.lst (os'.map optV)) ∧ os'.length = i + 1 + 1 ∧ ∀ k : Nat, 1 ≤ k → k ≤ i + 1 → ∃ o, os'[k]? = some o ∧ IsMin Ts k o := fun o mn => by
      refine ⟨fun c x hc hcf => by rw [upd_ne hcf]; exact s6 _ _ (k4 _ _ hc hcf), same_put (s4.trans s6) hfH, os ++ [o], _, _, _, _, rfl, by rw [upd_same, List.map_append] <;> rfl, by simp [hol], fun k k1 k2 => ?_⟩
      by_cases hk : k ≤ i
      · obtain ⟨o', e1, e2⟩ := hom k k1 hk
        exact ⟨o', by rw [List.getElem?_append_left (by omega)]; exact e1, e2⟩
      · have : k = i + 1 := by omega
        subst this
        exact ⟨o, by rw [List.getElem?_append_right (by omega), hol]; simp, mn⟩
    have ol : os.length < sizeLine := sz_lt (by omega)
    by_cases hz : szsF Ts ((i + 1 : Nat) : Int) = []
    · have e0 : (!(szsF Ts ((i + 1 : Nat) : Int)).isEmpty) = false := by rw [hz] <;> rfl
      rw [e0]
      exact iteF ⟨f, _, _, rfl, rfl, hf6, by rw [List.length_map]; exact ol, fin none (min_none hz)⟩
    · have e0 : (!(szsF Ts ((i + 1 : Nat) : Int)).isEmpty) = true := by simpa using hz
      rw [e0]
      exact iteT ⟨_, rfl, D2, _, rfl, sqL sz6, List.length_pos_iff.mpr hz, fun m hm hall => ⟨f, _, _, rfl, rfl, hf6, by rw [List.length_map]; exact ol, fin (some m) (min_of hm hall)⟩⟩
  · rintro σ G1 ⟨k4, s4, os, o4, o5, o6, o7, rfl, hfo, hol, hom⟩
    exact ⟨_, rfl, q _ _ os Ts s4 hfH hfo hol hok hom⟩
end
end K75R
set_option Elab.async false
set_option linter.all false
set_option maxRecDepth 100000
set_option maxHeartbeats 4000000
namespace K75R
open PySem PySem.Spec PyProof.Rows L2
section
variable {P : Program} {w : World} {K : PySem.W.Frag} {mg : Str → Option Value} {base : Heap}
open K75
/-! two systems compared -/
def mostN (xs : List Int) : Nat := ((topOf xs - 1) * (topOf xs - 1)).toNat
theorem mostN_int {xs : List Int} (h : 1 ≤ topOf xs) : ((mostN xs : Nat) : Int) = (topOf xs - 1) * (topOf xs - 1) := by
  unfold mostN
  have : 0 ≤ (topOf xs - 1) * (topOf xs - 1) := Int.mul_nonneg (by omega) (by omega)
  omega
def farFl (M : Int) (ls : Addr) (V : Int) (le : Addr) : List (Str × L2.V) := [("most", .int M), ("small", .ref ls), ("step", .int V), ("excess", .ref le)]
/-- what a Far object holds -/
structure FarOk (xs : List Int) (r : Rl) (os es : List (Option Int)) : Prop where
  tbl : Tbl xs r es
  len : os.length = mostN xs + 1
  small : ∃ Ts, TabsOk xs r (mostN xs) Ts ∧ ∀ k : Nat, 1 ≤ k → k ≤ mostN xs → ∃ o, os[k]? = some o ∧ IsMin Ts k o
def FarAt (K : PySem.W.Frag) (H : Hp) (x : Addr) (xs : List Int) (r : Rl) (os es : List (Option Int)) : Prop := ∃ dx ls le, H x = some (.ins (ga K "Far") dx (farFl (mostN xs) ls (topOf xs) le)) ∧ H ls = some (.lst (os.map optV)) ∧ H le = some (.lst (es.map optV)) ∧ FarOk xs r os es ∧ OkV xs
theorem FarAt.same {K : PySem.W.Frag} {H H' : Hp} {x : Addr} {xs : List Int} {r : Rl} {os es : List (Option Int)} (h : FarAt K H x xs r os es) (k : Same H H') : FarAt K H' x xs r os es := by
  obtain ⟨dx, ls, le, h1, h2, h3, h4⟩ := h
  exact ⟨dx, ls, le, k _ _ h1, k _ _ h2, k _ _ h3, h4⟩
def sp_farI (K : PySem.W.Frag) : Sp := fun vs H Q _ => ∃ (x dx a : Addr) (xs : List Int) (r : Rl), vs = [.ref x, .ref a] ∧ H x = some (.ins (ga K "Far") dx []) ∧ SysAt K H a xs r ∧ ∀ H' os es, (∀ b o, H b = some o → b ≠ x → H' b = some o) → FarAt K H' x xs r os es → Q .non H'

theorem sc_farI : FnScope ["self", "system"] ["self", "system"] (defScope (atC 60 0)) := ⟨rfl, rfl, rfl, by decide +kernel, rfl, by decide +kernel, by decide +kernel⟩
theorem R_farI (T : Txt K mg) : FnR P w K mg base CX0 8 (ma K (ga K "Far") "__init__") (sp_farI K) := by
  obtain ⟨fd, F⟩ := T.far_init
  have sc := sc_farI
  refine Fun.raw F sc (fun vs H Q E h => ?_) (fun _ _ _ _ _ _ us hl => match us, hl with | [_, _], _ => rfl) (fun cdv A outer s H vs Q E hr h => ?_)
  · obtain ⟨_, _, _, _, _, rfl, _⟩ := h
    rfl
  obtain ⟨x, dx, a, xs, r, rfl, hx, hs, q⟩ := h
  refine ⟨_, (pss_cons
    (ps_fld (pv 0) (pe_op op_pow (pe_op op_sub (pe_top T hr (pv 1)) pe_int) pe_int) rfl)
    (pss_cons
    (ps_fld (pv 0) (cR T.fewest_to (R_fewest_to T) hr pass0 (pa_cons (pv 1) (pa_cons (pe_fld (pv 0) rfl) pa_nil))) rfl)
    (pss_cons
    (ps_fld (pv 0) (pe_top T hr (pv 1)) rfl)
    (pss_one
    (ps_fld (pv 0) (cR T.excesses (R_excesses T) hr pass0 (pa_cons (pv 1) pa_nil)) rfl))))), ?_⟩
  have tp := hs.ok.top
  have mI := mostN_int (xs := xs) tp.1
  have sq := sq_le tp.1 tp.2
  refine ⟨_, rfl, hs.tTop ⟨_, _, rfl, rfl, _, _, rfl, rfl, ⟨by decide, by decide, by omega⟩, _, rfl, x, _, dx, _, rfl, hx, T.Far.c, T.n_most, by simp, ?_⟩⟩
  have pw : (topOf xs - 1) ^ (2 : Int).toNat = ((mostN xs : Nat) : Int) := by
    rw [mI]
    show (topOf xs - 1) ^ 2 = _
    rw [Int.pow_succ, Int.pow_succ, Int.pow_zero, Int.one_mul]
  show tSeq _ _ _ _ (upd H x (.ins (ga K "Far") dx (putF ("most" : Str) (V.int ((topOf xs - 1) ^ (2 : Int).toNat)) [])))
  rw [pw]
  have F1 : ∀ c o, H c = some o → c ≠ x → (upd H x (.ins (ga K "Far") dx (putF ("most" : Str) (V.int (mostN xs : Nat)) []))) c = some o := fun c o hc n => by rw [upd_ne n]; exact hc
  have hx1 : (upd H x (.ins (ga K "Far") dx (putF ("most" : Str) (V.int (mostN xs : Nat)) []))) x = some (.ins (ga K "Far") dx [("most", .int (mostN xs : Nat))]) := upd_same
  generalize (upd H x (.ins (ga K "Far") dx (putF ("most" : Str) (V.int (mostN xs : Nat)) []))) = G1 at F1 hx1
  have sys : ∀ {G : Hp}, (∀ c o, H c = some o → c ≠ x → G c = some o) → SysAt K G a xs r := fun {G} F => by
    obtain ⟨d1, l1, e1, e2, e3⟩ := hs
    refine ⟨d1, l1, F _ _ e1 (fun z => ?_), F _ _ e2 (fun z => ?_), e3⟩
    · rw [z, hx] at e1
      have := congrArg (fun o : Option HO => match o with | some (.ins _ _ fs) => fs | _ => []) e1
      simp [sysF] at this
    · rw [z, hx] at e2; cases e2
  have keep : ∀ {G G' : Hp}, Same G G' → (∀ c o, H c = some o → c ≠ x → G c = some o) → (∀ c o, H c = some o → c ≠ x → G' c = some o) := fun {G G'} k F c o hc n => k _ _ (F c o hc n)
  have put : ∀ {G : Hp} {u : HO}, (∀ c o, H c = some o → c ≠ x → G c = some o) → (∀ c o, H c = some o → c ≠ x → (upd G x u) c = some o) := fun {G u} F c o hc n => by rw [upd_ne n]; exact F c o hc n
  refine ⟨_, rfl, _, rfl, x, _, dx, _, _, rfl, hx1, T.Far.c, T.n_most, by rfl, a, xs, r, mostN xs, rfl, sys F1, by omega, fun H2 ls os Ts s2 hls hos hol hok hmin => ?_⟩
  have nls : ls ≠ x := (ne_of_none hx1 hls).symm
  refine ⟨_, rfl, x, _, dx, _, rfl, s2 _ _ hx1, T.Far.c, T.n_small, Nat.le_of_ble_eq_true rfl, ?_⟩
  have F3 := put (u := .ins (ga K "Far") dx (putF ("small" : Str) (V.ref ls) [("most", .int (mostN xs : Nat))])) (keep s2 F1)
  refine ⟨_, rfl, (sys F3).tTop ⟨_, rfl, x, _, dx, _, rfl, upd_same, T.Far.c, T.n_step, Nat.le_of_ble_eq_true rfl, ?_⟩⟩
  have F4 := put (u := .ins (ga K "Far") dx (putF ("step" : Str) (V.int (topOf xs)) (putF ("small" : Str) (V.ref ls) [("most", .int (mostN xs : Nat))]))) F3
  refine ⟨_, rfl, a, xs, r, rfl, sys F4, fun H5 le es s5 hle hes ht => ?_⟩
  have hx4 : (upd (upd H2 x (.ins (ga K "Far") dx (putF ("small" : Str) (V.ref ls) [("most", .int (mostN xs : Nat))]))) x (.ins (ga K "Far") dx (putF ("step" : Str) (V.int (topOf xs)) (putF ("small" : Str) (V.ref ls) [("most", .int (mostN xs : Nat))])))) x = some (.ins (ga K "Far") dx (putF ("step" : Str) (V.int (topOf xs)) (putF ("small" : Str) (V.ref ls) [("most", .int (mostN xs : Nat))]))) := upd_same
  have nle : le ≠ x := (ne_of_none hx4 hle).symm
  refine ⟨_, rfl, x, _, dx, _, rfl, s5 _ _ hx4, T.Far.c, T.n_excess, Nat.le_of_ble_eq_true rfl, ?_⟩
  refine q _ os es (put (keep s5 F4)) ⟨dx, ls, le, upd_same, ?_, ?_, ⟨ht, hol, Ts, hok, hmin⟩, hs.ok⟩
  · rw [upd_ne nls]
    exact s5 _ _ (by rw [upd_ne nls, upd_ne nls]; exact hos)
  · rw [upd_ne nle]
    exact hes

/-- what fewest_at answers -/
def farV (xs : List Int) (os es : List (Option Int)) (n : Int) : Option Int := if n ≤ (mostN xs : Nat) then (os[n.toNat]?).join else ((es[(n % topOf xs).toNat]?).join).map fun e => (n + e) / topOf xs
def sp_fewest_at (K : PySem.W.Frag) : Sp := fun vs H Q _ => ∃ (x : Addr) (xs : List Int) (r : Rl) (os es : List (Option Int)) (n : Int), vs = [.ref x, .int n] ∧ FarAt K H x xs r os es ∧ 1 ≤ n ∧ Q (optV (farV xs os es n)) H
theorem sc_fewest_at : FnScope ["self", "number", "excess"] ["self", "number"] (defScope (atC 60 1)) := ⟨rfl, rfl, rfl, by decide +kernel, rfl, by decide +kernel, by decide +kernel⟩
theorem R_fewest_at (T : Txt K mg) : FnR P w K mg base CX0 1 (ma K (ga K "Far") "fewest_at") (sp_fewest_at K) := by
  obtain ⟨fd, F⟩ := T.fewest_at.F
  have sc := sc_fewest_at
  refine Fun.raw F sc (fun vs H Q E h => ?_) (fun _ _ _ _ _ _ us hl => match us, hl with | [_, _], _ => rfl) (fun cdv A outer s H vs Q E hr h => ?_)
  · obtain ⟨_, _, _, _, _, _, rfl, _⟩ := h
    rfl
  obtain ⟨x, xs, r, os, es, n, rfl, ⟨dx, ls, le, hx, hos, hes, fo, ok⟩, l0, q⟩ := h
  refine ⟨_, (pss_cons
    (ps_if (pt_cmpR op_le (pv 1) (pe_fld (pv 0) rfl) (nomark _))
      (pss_one
      (ps_ret (pe_ix ix_list (pe_fld (pv 0) rfl) (pv 1) (fun _ _ => rfl))))
      pss_nil)
    (pss_cons
    (ps_set (i := 2) sc.nd rfl (by first | exact Or.inl rfl | exact Or.inr rfl) (pe_ix ix_list (pe_fld (pv 0) rfl) (pe_op op_mod (pv 1) (pe_fld (pv 0) rfl)) (fun _ _ => rfl)))
    (pss_one
    (ps_ret (pe_ifExp (pt_cmpR op_isN (pv 2) pe_non (nomark _)) pe_non (pe_op op_fdivW (pe_op op_add (pv 1) (pv 2)) (pe_fld (pv 0) rfl))))))), ?_⟩
  have tp := ok.top
  unfold farV at q
  refine ⟨_, rfl, _, rfl, x, _, dx, _, _, rfl, hx, T.Far.c, T.n_most, by rfl, _, _, rfl, rfl, _, rfl, ite2 (fun z => ?_) fun z => ?_⟩
  · have z := of_decide_eq_true z
    rw [if_pos z] at q
    have hi : n.toNat < os.length := by rw [fo.len]; omega
    obtain ⟨e, he⟩ : ∃ e, os[n.toNat]? = some e := ⟨_, List.getElem?_eq_getElem hi⟩
    have ha : atI (os.map optV) n = some (optV e) := by
      have h1 : (os.map optV)[n.toNat]? = some (optV e) := by rw [List.getElem?_map, he] <;> rfl
      have := atI_nat h1
      rwa [show ((n.toNat : Nat) : Int) = n by omega] at this
    rw [he] at q
    exact ⟨_, rfl, x, _, dx, _, _, rfl, hx, T.Far.c, T.n_small, by rfl, _, rfl, ls, _, _, _, rfl, rfl, sqL hos, ha, q⟩
  · have z : ¬ n ≤ ((mostN xs : Nat) : Int) := by simpa using z
    rw [if_neg z] at q
    have md0 := Int.emod_nonneg n (show topOf xs ≠ 0 by omega)
    have md1 := Int.emod_lt_of_pos n (show 0 < topOf xs by omega)
    have hi : (n % topOf xs).toNat < es.length := by rw [fo.tbl.1]; omega
    obtain ⟨e, he⟩ : ∃ e, es[(n % topOf xs).toNat]? = some e := ⟨_, List.getElem?_eq_getElem hi⟩
    have ha : atI (es.map optV) (n % topOf xs) = some (optV e) := by
      have h1 : (es.map optV)[(n % topOf xs).toNat]? = some (optV e) := by rw [List.getElem?_map, he] <;> rfl
      have := atI_nat h1
      rwa [show (((n % topOf xs).toNat : Nat) : Int) = n % topOf xs by omega] at this
    rw [he] at q
    refine ⟨_, rfl, x, _, dx, _, _, rfl, hx, T.Far.c, T.n_excess, by rfl, _, rfl, _, rfl, x, _, dx, _, _, rfl, hx, T.Far.c, T.n_step, by rfl, _, _, rfl, rfl, by omega, le, _, _, _, rfl, rfl, sqL hes, ha, ?_⟩
    cases e with
    | none => exact ⟨_, rfl, rfl, true, rfl, iteT q⟩
    | some c => exact ⟨_, rfl, rfl, false, rfl, iteF ⟨_, rfl, _, rfl, _, _, rfl, rfl, _, rfl, x, _, dx, _, _, rfl, hx, T.Far.c, T.n_step, by rfl, _, _, rfl, rfl, wide_div (b := 60) (by omega) (by omega) (by decide) (by decide), q⟩⟩

def sp_last (K : PySem.W.Frag) : Sp := fun vs H Q _ => ∃ (x y : Addr) (xs : List Int) (r r' : Rl) (os es os' es' : List (Option Int)), vs = [.ref x, .ref y] ∧ FarAt K H x xs r os es ∧ FarAt K H y xs r' os' es' ∧ Q (.int ((mostN xs : Nat) + topOf xs)) H
theorem sc_last_number : FnScope ["one", "other", "bound", "whole"] ["one", "other"] (defScope (top 61)) := ⟨rfl, rfl, rfl, by decide +kernel, rfl, by decide +kernel, by decide +kernel⟩
theorem R_last_number (T : Txt K mg) : FnR P w K mg base CX0 1 (ga K "last_number") (sp_last K) := by
  obtain ⟨fd, F⟩ := T.last_number.F
  have sc := sc_last_number
  refine Fun.raw F sc (fun vs H Q E h => ?_) (fun _ _ _ _ _ _ us hl => match us, hl with | [_, _], _ => rfl) (fun cdv A outer s H vs Q E hr h => ?_)
  · obtain ⟨_, _, _, _, _, _, _, _, _, rfl, _⟩ := h
    rfl
  obtain ⟨x, y, xs, r, r', os, es, os', es', rfl, ⟨dx, ls, le, hx, _⟩, ⟨dy, ls2, le2, hy, _⟩, q⟩ := h
  refine ⟨_, (pss_cons
    (ps_set (i := 2) sc.nd rfl (by first | exact Or.inl rfl | exact Or.inr rfl) (pe_callB (call_max2 rfl) (by rfl) T.b_max bt_max (pa_cons (pe_fld (pv 0) rfl) (pa_cons (pe_fld (pv 1) rfl) pa_nil))))
    (pss_cons
    (ps_if (pt_cmpR op_eq (pe_fld (pv 0) rfl) (pe_fld (pv 1) rfl) (nomark _))
      (pss_one
      (ps_ret (pe_op op_add (pv 2) (pe_fld (pv 0) rfl))))
      pss_nil)
    (pss_cons ps_never (pss_one ps_never)))), ?_⟩
  refine ⟨_, rfl, x, _, dx, _, _, rfl, hx, T.Far.c, T.n_most, by rfl, _, rfl, y, _, dy, _, _, rfl, hy, T.Far.c, T.n_most, by rfl, _, _, rfl, ?_⟩
  rw [if_neg (by omega)]
  refine ⟨_, rfl, x, _, dx, _, _, rfl, hx, T.Far.c, T.n_step, by rfl, _, rfl, y, _, dy, _, _, rfl, hy, T.Far.c, T.n_step, by rfl, rfl, _, rfl, ?_⟩
  rw [decide_eq_true rfl]
  exact iteT ⟨_, rfl, _, rfl, x, _, dx, _, _, rfl, hx, T.Far.c, T.n_step, by rfl, _, _, rfl, rfl, q⟩
end
end K75R
set_option Elab.async false
set_option linter.all false
set_option maxRecDepth 100000
set_option maxHeartbeats 4000000
namespace K75R
open PySem PySem.Spec PyProof.Rows L2
section
variable {P : Program} {w : World} {K : PySem.W.Frag} {mg : Str → Option Value} {base : Heap}
open K75
/-! first_longer: two systems of the same values, the first never the longer -/
def NotLonger (xs : List Int) (r r' : Rl) : Prop := ∀ os es os' es', FarOk xs r os es → FarOk xs r' os' es' → ∀ n : Int, 1 ≤ n → ∀ d, farV xs os' es' n = some d → ∃ t, farV xs os es n = some t ∧ t ≤ d
def sp_longer (K : PySem.W.Frag) : Sp := fun vs H Q _ => ∃ (a b : Addr) (xs : List Int) (r r' : Rl), vs = [.ref a, .ref b] ∧ SysAt K H a xs r ∧ SysAt K H b xs r' ∧ NotLonger xs r r' ∧ ∀ H', Same H H' → Q .non H'

theorem sc_first_longer : FnScope ["one", "other", "number", "first", "second", "due", "told"] ["one", "other"] (defScope (top 62)) := ⟨rfl, rfl, rfl, by decide +kernel, rfl, by decide +kernel, by decide +kernel⟩
theorem R_first_longer (T : Txt K mg) : FnR P w K mg base CX0 10 (ga K "first_longer") (sp_longer K) := by
  obtain ⟨fd, F⟩ := T.first_longer.F
  have sc := sc_first_longer
  refine Fun.raw F sc (fun vs H Q E h => ?_) (fun _ _ _ _ _ _ us hl => match us, hl with | [_, _], _ => rfl) (fun cdv A outer s H vs Q E hr h => ?_)
  · obtain ⟨_, _, _, _, _, rfl, _⟩ := h
    rfl
  obtain ⟨a, b, xs, r, r', rfl, hs, hs', nl, q⟩ := h
  refine ⟨_, (pss_cons
    (ps_if (PW.pt (pw_and (pt_cmpR op_ne (pe_top T hr (pv 0)) (pe_top T hr (pv 1)) (nomark _)) (pw_and1 (pt_cmpR op_gt (pe_callB (call_max2 rfl) (by rfl) T.b_max bt_max (pa_cons (pe_top T hr (pv 0)) (pa_cons (pe_top T hr (pv 1)) pa_nil))) (pe_gint T.c_MOST_DIFFERENT) (nomark _)))))
      (pss_one
      ps_never)
      pss_nil)
    (pss_cons
    (ps_par (i := 3) (j := 4) (by rfl) sc.nd rfl rfl (by decide) rfl rfl (pa_cons (StX.pe_makeR T.far_mk (R_farI T) hr (by rfl) T.Far.g (E := E0) pass0 (pa_cons (pv 0) pa_nil)) (pa_cons (StX.pe_makeR T.far_mk (R_farI T) hr (by rfl) T.Far.g (E := E0) pass0 (pa_cons (pv 1) pa_nil)) pa_nil)) (by rfl))
    (pss_cons
    (ps_for PassesOwn.never rfl (pi_range2 (by rfl) T.b_range (pa_cons pe_int (pa_cons (pe_op op_add (cR T.last_number (R_last_number T) hr pass0 (pa_cons (pv 3) (pa_cons (pv 4) pa_nil))) pe_int) pa_nil))) (pg_name (i := 2) sc.nd rfl (by first | exact Or.inl rfl | exact Or.inr rfl))
      (pss_cons
      (ps_set (i := 5) sc.nd rfl (by first | exact Or.inl rfl | exact Or.inr rfl) (pe_methI (ι := Unit) (pv 4) (fun _ => T.Far.c) (fun _ => T.fewest_at.at_) (fun _ => R_fewest_at T) (hr.mono (by decide)) (E := E0) pass0 (pa_cons (pv 2) pa_nil)))
      (pss_one
      (ps_if (pt_cmpR op_notN (pv 5) pe_non (nomark _))
        (pss_cons
        (ps_set (i := 6) sc.nd rfl (by first | exact Or.inl rfl | exact Or.inr rfl) (pe_methI (ι := Unit) (pv 3) (fun _ => T.Far.c) (fun _ => T.fewest_at.at_) (fun _ => R_fewest_at T) (hr.mono (by decide)) (E := E0) pass0 (pa_cons (pv 2) pa_nil)))
        (pss_one
        (ps_if (PW.pt (pw_or (pt_cmpR op_isN (pv 6) pe_non (nomark _)) (pw_or1 (pt_cmpR op_gt (pv 6) (pv 5) (nomark _)))))
          (pss_one
          (ps_ret (pv 2)))
          pss_nil)))
        pss_nil))))
    (pss_one
    (ps_ret pe_non))))), ?_⟩
  have tp := hs.ok.top
  refine ⟨_, rfl, hs.tTop ⟨_, rfl, hs'.tTop ⟨rfl, _, rfl, ?_⟩⟩⟩
  have e0 : (!decide (V.int (topOf xs) = V.int (topOf xs))) = false := by simp
  rw [e0]
  refine iteF (iteF ?_)
  refine ⟨_, rfl, fun x dx hx hdx nx => ⟨x, dx, a, xs, r, rfl, upd_same, ?_, fun H1 os es f1 far1 => ⟨rfl, _, rfl, fun y dy hy hdy ny => ⟨y, dy, b, xs, r', rfl, upd_same, ?_, fun H2 os' es' f2 far2 => ⟨rfl, ?_⟩⟩⟩⟩⟩
  · exact hs.same fun c o hc => by rw [upd_ne (ne_of_none hc hx), upd_ne (ne_of_none hc hdx)]; exact hc
  · have s1 : Same H H1 := fun c o hc => f1 c o (by rw [upd_ne (ne_of_none hc hx), upd_ne (ne_of_none hc hdx)]; exact hc) (ne_of_none hc hx)
    exact (hs'.same s1).same fun c o hc => by rw [upd_ne (ne_of_none hc hy), upd_ne (ne_of_none hc hdy)]; exact hc
  have s1 : Same H H1 := fun c o hc => f1 c o (by rw [upd_ne (ne_of_none hc hx), upd_ne (ne_of_none hc hdx)]; exact hc) (ne_of_none hc hx)
  have s2 : Same H1 H2 := fun c o hc => f2 c o (by rw [upd_ne (ne_of_none hc hy), upd_ne (ne_of_none hc hdy)]; exact hc) (ne_of_none hc hy)
  have far1 := far1.same s2
  obtain ⟨dx1, ls1, le1, hx1, hos1, hes1, fo1, _⟩ := id far1
  obtain ⟨dx2, ls2, le2, hx2, hos2, hes2, fo2, _⟩ := id far2
  have mb := sq_le tp.1 tp.2
  have mI := mostN_int (xs := xs) tp.1
  refine ⟨_, _, rfl, _, rfl, _, rfl, x, y, xs, r, r', os, es, os', es', rfl, far1, far2, _, _, rfl, rfl, 1, (mostN xs : Nat) + topOf xs + 1, rfl, ⟨by omega, by omega, by omega, by omega⟩, ?_⟩
  refine for_it (walk_range (lo := 1)) (fun i σ G => G = H2 ∧ ∃ o2 o5 o6, σ = [some (V.ref a), some (V.ref b), o2, some (V.ref x), some (V.ref y), o5, o6]) ⟨rfl, _, _, _, rfl⟩ (fun _ _ _ _ _ => True.intro) ?_ ?_
  · rintro i z σ G G' hi ⟨rfl, o2, o5, o6, rfl⟩ ⟨rfl, rfl⟩
    refine ⟨_, rfl, (), y, dx2, _, rfl, hx2, by rfl, _, rfl, y, xs, r', os', es', 1 + (i : Int), rfl, far2, by omega, ?_⟩
    cases e : farV xs os' es' (1 + (i : Int)) with
    | none => exact ⟨_, rfl, rfl, false, rfl, iteF ⟨rfl, _, _, _, rfl⟩⟩
    | some d =>
      obtain ⟨t, et, le⟩ := nl os es os' es' fo1 fo2 (1 + (i : Int)) (by omega) d e
      refine ⟨_, rfl, rfl, true, rfl, iteT ⟨_, rfl, (), x, dx1, _, rfl, hx1, by rfl, _, rfl, x, xs, r, os, es, 1 + (i : Int), rfl, far1, by omega, ?_⟩⟩
      rw [et]
      refine ⟨_, rfl, rfl, false, rfl, iteF ⟨_, rfl, _, rfl, _, _, rfl, rfl, _, rfl, ite2 (fun z => ?_) fun z => ⟨rfl, _, _, _, rfl⟩⟩⟩
      have z := of_decide_eq_true z
      omega
  · rintro σ G ⟨rfl, o2, o5, o6, rfl⟩
    exact q _ (s1.trans s2)
end
end K75R
set_option Elab.async false
set_option linter.all false
/-! The words of far numbers: how they are read. -/
namespace K75R
open K75
/-! ### the signs, run by run -/
def nx (t : List (Int × Int)) : Int := match t with | [] => 0 | y :: _ => y.1
def mx (t : List (Int × Int)) : Int := t.foldr (fun y m => max m y.1) 0
theorem nextF_cons (x : Int × Int) (t : List (Int × Int)) (hx : 0 ≤ x.1) : nextF (x :: t) = (x.1, x.2 - (if x.1 < nx t then 1 else 0), (if x.1 < nx t then 1 else 0)) :: nextF t := by
  have m0 : minusAt (x :: t) 0 = if x.1 < nx t then 1 else 0 := by
    unfold minusAt nx
    cases t with
    | nil =>
      have : ¬ x.1 < 0 := by omega
      simp [this]
    | cons y t => simp
  have ms : ∀ i, minusAt (x :: t) (i + 1) = minusAt t i := fun i => by
    unfold minusAt
    simp
  unfold nextF
  rw [List.length_cons, List.range_succ_eq_map, List.map_cons, List.map_map, m0]
  congr 1
theorem scanF_snoc (rs : List (Int × Int)) (x : Int × Int) : scanF (rs ++ [x]) = scanF rs ++ [if x.1 < nx rs.reverse then (x.1, 0, x.2) else (x.1, x.2, 0)] := by
  unfold scanF
  rw [List.length_append, List.length_singleton, List.range_succ, List.map_append]
  have low : ∀ i, i < rs.length → (rs ++ [x]).getD i (0, 0) = rs.getD i (0, 0) := fun i hi => by
    rw [List.getD_eq_getElem?_getD, List.getD_eq_getElem?_getD, List.getElem?_append_left hi]
  congr 1
  · apply List.map_congr_left
    intro i hi
    have hi := List.mem_range.mp hi
    have b : backV (rs ++ [x]) i = backV rs i := by
      cases i with
      | zero => rfl
      | succ j => unfold backV; dsimp; rw [low j (by omega)]
    dsimp
    rw [low i hi, b]
  · have e : (rs ++ [x]).getD rs.length (0, 0) = x := by simp [List.getD_eq_getElem?_getD]
    have b : backV (rs ++ [x]) rs.length = nx rs.reverse := by
      cases h : rs.length with
      | zero =>
        rw [List.eq_nil_of_length_eq_zero h] <;> rfl
      | succ j =>
        unfold backV
        dsimp
        rw [low j (by omega)]
        have hne : rs ≠ [] := fun z => by rw [z] at h; cases h
        have : rs.reverse = rs.getLast hne :: rs.dropLast.reverse := by
          conv => lhs; rw [← List.dropLast_concat_getLast hne]
          rw [List.reverse_append]
          rfl
        rw [this]
        unfold nx
        dsimp
        rw [List.getLast_eq_getElem]
        simp [List.getD_eq_getElem?_getD, h]
    simp only [List.map_cons, List.map_nil, e, b]
theorem blockF_cons (x : Int × Int) (t : List (Int × Int)) : blockF (x :: t) = (if x.1 < nx t then (x.1, 0, x.2) else (x.1, x.2, 0)) :: blockF t := by
  unfold blockF
  rw [List.reverse_cons, scanF_snoc, List.reverse_append, List.reverse_reverse]
  rfl
theorem laterS_snoc (rs : List (Int × Int × Int)) (x : Int × Int × Int) : laterS (rs ++ [x]) = laterS rs ++ [if x.1 < maxV rs rs.length then (x.1, 0, x.2.1 + x.2.2) else (x.1, x.2.1 + x.2.2, 0)] := by
  unfold laterS
  rw [List.length_append, List.length_singleton, List.range_succ, List.map_append]
  congr 1
  · apply List.map_congr_left
    intro i hi
    have hi := List.mem_range.mp hi
    have low : (rs ++ [x]).getD i (0, 0, 0) = rs.getD i (0, 0, 0) := by
      rw [List.getD_eq_getElem?_getD, List.getD_eq_getElem?_getD, List.getElem?_append_left hi]
    have b : maxV (rs ++ [x]) i = maxV rs i := by
      unfold maxV
      rw [List.take_append_of_le_length (by omega)]
    dsimp
    rw [low, b]
  · have e : (rs ++ [x]).getD rs.length (0, 0, 0) = x := by simp [List.getD_eq_getElem?_getD]
    have b : maxV (rs ++ [x]) rs.length = maxV rs rs.length := by
      unfold maxV
      rw [List.take_append_of_le_length (by omega)]
    simp only [List.map_cons, List.map_nil, e, b]
theorem blockF_fst : ∀ t : List (Int × Int), (blockF t).map (·.1) = t.map (·.1)
  | [] => by simp [blockF, scanF]
  | x :: t => by
    rw [blockF_cons, List.map_cons, List.map_cons, blockF_fst t]
    split <;> rfl
theorem maxV_rev (t : List (Int × Int)) : maxV (blockF t).reverse (blockF t).reverse.length = mx t := by
  unfold maxV mx
  rw [List.take_length, List.map_reverse, blockF_fst, ← List.map_reverse, List.foldl_map, List.foldl_reverse]
theorem laterF_cons (x : Int × Int) (t : List (Int × Int)) : laterF (x :: t) = (if x.1 < mx t then (x.1, 0, x.2) else (x.1, x.2, 0)) :: laterF t := by
  unfold laterF
  rw [blockF_cons, List.reverse_cons, laterS_snoc, List.reverse_append, maxV_rev]
  have : ∀ b : Int × Int × Int, b = (if x.1 < nx t then (x.1, 0, x.2) else (x.1, x.2, 0)) → (if b.1 < mx t then (b.1, 0, b.2.1 + b.2.2) else (b.1, b.2.1 + b.2.2, 0)) = (if x.1 < mx t then (x.1, 0, x.2) else (x.1, x.2, 0)) := fun b hb => by
    subst hb
    split <;> simp
  rw [this _ rfl]
  rfl
/-! ### the form of such words: ws, read as ss -/
inductive FW (V : Int) : List (Int × Int) → List (Int × Int × Int) → Prop
  | nil : FW V [] []
  | low {v c : Int} {t : List (Int × Int)} {ss : List (Int × Int × Int)} (h : FW V t ss) (h0 : 1 ≤ v) (hV : v < V) (hc : 1 ≤ c) (ht : ∀ y ∈ t, y.1 < v) : FW V ((v, c) :: t) ((v, c, 0) :: ss)
  | top {c : Int} {t : List (Int × Int)} {ss : List (Int × Int × Int)} (h : FW V t ss) (hc : 1 ≤ c) (ht : ∀ y ∈ t, y.1 ≤ V) (hn : nx t ≠ V) : FW V ((V, c) :: t) ((V, c, 0) :: ss)
  | neg {n c : Int} {t : List (Int × Int)} {ss : List (Int × Int × Int)} (h : FW V ((V, c) :: t) ss) (h0 : 1 ≤ n) (hV : n < V) : FW V ((n, 1) :: (V, c) :: t) ((n, 0, 1) :: ss)
theorem mx_le {t : List (Int × Int)} {b : Int} (hb : 0 ≤ b) (h : ∀ y ∈ t, y.1 ≤ b) : mx t ≤ b := by
  induction t with
  | nil => exact hb
  | cons y t ih =>
    have h1 := ih fun z hz => h z (List.mem_cons_of_mem _ hz)
    have h2 := h y (by simp)
    show max (mx t) y.1 ≤ b
    omega
theorem mx_ge {y : Int × Int} {t : List (Int × Int)} : y.1 ≤ mx (y :: t) := by
  show y.1 ≤ max (mx t) y.1
  omega
theorem nx_lt {t : List (Int × Int)} {b : Int} (hb : 0 < b) (h : ∀ y ∈ t, y.1 < b) : nx t < b := by
  cases t with
  | nil => exact hb
  | cons y t => exact h y (by simp)
theorem nx_le {t : List (Int × Int)} {b : Int} (hb : 0 ≤ b) (h : ∀ y ∈ t, y.1 ≤ b) : nx t ≤ b := by
  cases t with
  | nil => exact hb
  | cons y t => exact h y (by simp)
section
variable {V : Int} {ws : List (Int × Int)} {ss : List (Int × Int × Int)}
theorem FW.le (hV : 1 ≤ V) (h : FW V ws ss) : ∀ y ∈ ws, 1 ≤ y.1 ∧ y.1 ≤ V ∧ 1 ≤ y.2 := by
  induction h with
  | nil => simp
  | low h h0 hv hc ht ih =>
    intro y hy
    rcases List.mem_cons.mp hy with rfl | hy
    · exact ⟨h0, by dsimp; omega, hc⟩
    · exact ih y hy
  | top h hc ht hn ih =>
    intro y hy
    rcases List.mem_cons.mp hy with rfl | hy
    · exact ⟨hV, Int.le_refl _, hc⟩
    · exact ih y hy
  | neg h h0 hv ih =>
    intro y hy
    rcases List.mem_cons.mp hy with rfl | hy
    · exact ⟨h0, by dsimp; omega, Int.le_refl _⟩
    · exact ih y hy
theorem FW.next (hV : 1 ≤ V) (h : FW V ws ss) : nextF ws = ss := by
  induction h with
  | nil => rfl
  | low h h0 hv hc ht ih =>
    have := nx_lt (by omega) ht
    rw [nextF_cons _ _ (by dsimp; omega), if_neg (by dsimp; omega), ih]
    simp
  | top h hc ht hn ih =>
    have := nx_le (by omega) ht
    rw [nextF_cons _ _ (by dsimp; omega), if_neg (by dsimp; omega), ih]
    simp
  | neg h h0 hv ih =>
    rw [nextF_cons _ _ (by dsimp; omega), if_pos (by unfold nx; dsimp; omega), ih]
    simp
theorem FW.block (hV : 1 ≤ V) (h : FW V ws ss) : blockF ws = ss := by
  induction h with
  | nil => rfl
  | low h h0 hv hc ht ih =>
    have := nx_lt (by omega) ht
    rw [blockF_cons, if_neg (by dsimp; omega), ih]
  | top h hc ht hn ih =>
    have := nx_le (by omega) ht
    rw [blockF_cons, if_neg (by dsimp; omega), ih]
  | neg h h0 hv ih =>
    rw [blockF_cons, if_pos (by unfold nx; dsimp; omega), ih]
theorem FW.later (hV : 1 ≤ V) (h : FW V ws ss) : laterF ws = ss := by
  induction h with
  | nil => rfl
  | @low v c t ss h h0 hv hc ht ih =>
    have := mx_le (t := t) (b := v - 1) (by omega) (fun y hy => by have := ht y hy; omega)
    rw [laterF_cons, if_neg (by dsimp; omega), ih]
  | top h hc ht hn ih =>
    have := mx_le (by omega) ht
    rw [laterF_cons, if_neg (by dsimp; omega), ih]
  | @neg n c t ss h h0 hv ih =>
    have := mx_ge (y := (V, c)) (t := t)
    rw [laterF_cons, if_pos (by dsimp at this ⊢; omega), ih]
theorem FW.nb (hV : 1 ≤ V) (h : FW V ws ss) : ∀ (i : Nat) a b, ws[i]? = some a → ws[i + 1]? = some b → a.1 ≠ b.1 := by
  induction h with
  | nil => intro i a b h; simp at h
  | @low v c t ss h h0 hv hc ht ih =>
    intro i a b e1 e2
    cases i with
    | zero =>
      obtain rfl : (v, c) = a := by simpa using e1
      have e2 : t[0]? = some b := by simpa using e2
      have := ht b (List.mem_of_getElem? e2)
      dsimp
      omega
    | succ i => exact ih i a b (by simpa using e1) (by simpa using e2)
  | @top c t ss h hc ht hn ih =>
    intro i a b e1 e2
    cases i with
    | zero =>
      obtain rfl : (V, c) = a := by simpa using e1
      have e2 : t[0]? = some b := by simpa using e2
      cases t with
      | nil => simp at e2
      | cons y t =>
        obtain rfl : y = b := by simpa using e2
        exact fun z => hn z.symm
    | succ i => exact ih i a b (by simpa using e1) (by simpa using e2)
  | @neg n c t ss h h0 hv ih =>
    intro i a b e1 e2
    cases i with
    | zero =>
      obtain rfl : (n, 1) = a := by simpa using e1
      obtain rfl : (V, c) = b := by simpa using e2
      dsimp
      omega
    | succ i => exact ih i a b (by simpa using e1) (by simpa using e2)
theorem FW.noPair (hV : 1 ≤ V) (h : FW V ws ss) : NoPair ws := by
  unfold NoPair
  rw [h.next hV]
  induction h with
  | nil => intro i a b h; simp at h
  | @low v c t ss h h0 hv hc ht ih =>
    intro i a b e1 e2
    cases i with
    | zero =>
      obtain rfl : (v, c, 0) = a := by simpa using e1
      dsimp
      omega
    | succ i => exact ih i a b (by simpa using e1) (by simpa using e2)
  | @top c t ss h hc ht hn ih =>
    intro i a b e1 e2
    cases i with
    | zero =>
      obtain rfl : (V, c, 0) = a := by simpa using e1
      dsimp
      omega
    | succ i => exact ih i a b (by simpa using e1) (by simpa using e2)
  | @neg n c t ss h h0 hv ih =>
    intro i a b e1 e2
    cases i with
    | zero =>
      have hs : ss[0]? = some b := by simpa using e2
      cases h with
      | low h h0 hv hc ht => omega
      | top h hc ht hn =>
        obtain rfl : (V, c, 0) = b := by simpa using hs
        dsimp
        omega
      | neg h h0 hv => omega
    | succ i => exact ih i a b (by simpa using e1) (by simpa using e2)
/-- without a subtracted sign -/
theorem FW.plain (h : FW V ws ss) (hn : ∀ s ∈ ss, s.2.2 = 0) : plainF ws = ss := by
  induction h with
  | nil => rfl
  | low h h0 hv hc ht ih =>
    unfold plainF at ih ⊢
    rw [List.map_cons, ih fun s hs => hn s (List.mem_cons_of_mem _ hs)]
  | top h hc ht hn' ih =>
    unfold plainF at ih ⊢
    rw [List.map_cons, ih fun s hs => hn s (List.mem_cons_of_mem _ hs)]
  | neg h h0 hv ih =>
    have := hn _ (List.mem_cons_self ..)
    dsimp at this
    omega
theorem FW.fst (h : FW V ws ss) : ss.map (·.1) = ws.map (·.1) := by
  induction h with
  | nil => rfl
  | low h h0 hv hc ht ih => rw [List.map_cons, List.map_cons, ih]
  | top h hc ht hn ih => rw [List.map_cons, List.map_cons, ih]
  | neg h h0 hv ih => rw [List.map_cons, List.map_cons, ih]
end
/-- such a word, under each rule that fits -/
theorem FW.good {xs : List Int} {r : Rl} {ws : List (Int × Int)} {ss : List (Int × Int × Int)} {V : Int} (hV : 1 ≤ V) (h : FW V ws ss) (hp : r = .plain → ∀ s ∈ ss, s.2.2 = 0) (hne : ws ≠ []) (hl : ws.length ≤ 200) (hx : ∀ y ∈ ws, y.1 ∈ xs) : signsF r ws = ss ∧ Good xs r ws := by
  have e : signsF r ws = ss := by
    cases r with
    | plain => exact h.plain (hp rfl)
    | single => exact h.next hV
    | next => exact h.next hV
    | block => exact h.block hV
    | later => exact h.later hV
  refine ⟨e, ⟨⟨hne, hl, fun y hy => ⟨(h.le hV y hy).1, (h.le hV y hy).2.2⟩, h.nb hV⟩, ?_, fun s hs => ?_⟩⟩
  · cases r <;> first | exact True.intro | exact h.noPair hV
  · rw [e] at hs
    have : s.1 ∈ ss.map (·.1) := List.mem_map.mpr ⟨s, hs, rfl⟩
    rw [h.fst] at this
    obtain ⟨y, hy, ey⟩ := List.mem_map.mp this
    rw [← ey]
    exact hx y hy

/-! ### the runs of parts -/
def runStep (f : List (Int × Int)) (p : Int × Int) : List (Int × Int) := match f.getLast? with
  | some l => if l.1 = p.1 then f.dropLast ++ [(p.1, l.2 + p.2)] else if 0 < p.2 then f ++ [p] else f
  | none => if 0 < p.2 then f ++ [p] else f
def runsF (ps : List (Int × Int)) : List (Int × Int) := ps.foldl runStep []
theorem runStep_app (P R : List (Int × Int)) (p : Int × Int) (h : R ≠ []) : runStep (P ++ R) p = P ++ runStep R p := by
  have e : (P ++ R).getLast? = some (R.getLast h) := by rw [List.getLast?_append, List.getLast?_eq_getLast h] <;> rfl
  unfold runStep
  rw [e, List.getLast?_eq_getLast h]
  dsimp
  split
  · rw [List.dropLast_append_of_ne_nil h, List.append_assoc]
  · split
    · rw [List.append_assoc]
    · rfl
theorem runStep_ne (R : List (Int × Int)) (p : Int × Int) (h : R ≠ []) : runStep R p ≠ [] := by
  unfold runStep
  rw [List.getLast?_eq_getLast h]
  dsimp
  split
  · simp
  · split
    · simp
    · exact h
theorem runs_app (P : List (Int × Int)) : ∀ (ps R : List (Int × Int)), R ≠ [] → ps.foldl runStep (P ++ R) = P ++ ps.foldl runStep R
  | [], R, _ => rfl
  | p :: ps, R, h => by
    rw [List.foldl_cons, List.foldl_cons, runStep_app P R p h]
    exact runs_app P ps _ (runStep_ne R p h)
theorem runStep_new (P : List (Int × Int)) (x p : Int × Int) (h : x.1 ≠ p.1) (hp : 0 < p.2) : runStep (P ++ [x]) p = P ++ [x] ++ [p] := by
  unfold runStep
  rw [List.getLast?_concat]
  dsimp
  rw [if_neg h, if_pos hp]
theorem runStep_join (P : List (Int × Int)) (x p : Int × Int) (h : x.1 = p.1) : runStep (P ++ [x]) p = P ++ [(p.1, x.2 + p.2)] := by
  unfold runStep
  rw [List.getLast?_concat]
  dsimp
  rw [if_pos h, List.dropLast_concat]
theorem runStep_nil (p : Int × Int) (hp : 0 < p.2) : runStep [] p = [p] := by
  unfold runStep
  dsimp
  rw [if_pos hp]
/-- the subtracted signs with what stands behind them -/
def negP (V : Int) (ns : List Int) : List (Int × Int) := ns.flatMap fun n => [(n, 1), (V, 1)]
theorem negP_snoc (V : Int) (ns : List Int) (n : Int) : negP V (ns ++ [n]) = negP V ns ++ [(n, 1), (V, 1)] := by simp [negP]
theorem runs_neg {V : Int} : ∀ ns : List Int, (∀ n ∈ ns, n ≠ V) → runsF (negP V ns) = negP V ns := by
  refine snoc_ind (fun _ => rfl) ?_
  intro ns n ih h
  have ih := ih fun m hm => h m (List.mem_append_left _ hm)
  have hn := h n (by simp)
  unfold runsF at ih ⊢
  rw [negP_snoc, List.foldl_append, ih]
  have two : ∀ P : List (Int × Int), (P = [] ∨ ∃ P', P = P' ++ [(V, 1)]) → [(n, 1), (V, 1)].foldl runStep P = P ++ [(n, 1), (V, 1)] := fun P hP => by
    rw [List.foldl_cons, List.foldl_cons, List.foldl_nil]
    have one : runStep P (n, 1) = P ++ [(n, 1)] := by
      rcases hP with rfl | ⟨P', rfl⟩
      · exact runStep_nil _ Int.one_pos
      · exact runStep_new P' (V, 1) (n, 1) (fun z => hn z.symm) Int.one_pos
    rw [one, runStep_new P (n, 1) (V, 1) hn Int.one_pos, List.append_assoc]
    rfl
  refine two _ ?_
  rcases List.eq_nil_or_concat ns with rfl | ⟨ms, m, rfl⟩
  · exact .inl rfl
  · rw [List.concat_eq_append, negP_snoc]
    exact .inr ⟨negP V ms ++ [(m, 1)], by simp⟩
/-- equal signs, descending -/
def grpF (us : List Int) : List (Int × Int) := runsF (us.map fun u => (u, 1))
structure Grp (us : List Int) (G : List (Int × Int)) : Prop where
  desc : G.Pairwise fun a b => b.1 < a.1
  mem : ∀ y ∈ G, y.1 ∈ us ∧ 1 ≤ y.2
  sum : (G.map fun y => y.1 * y.2).sum = us.sum
  cnt : (G.map fun y => y.2).sum = us.length
  len : G.length ≤ us.length
  last : ∀ us' u, us = us' ++ [u] → ∃ G' c, G = G' ++ [(u, c)]
theorem grp_of : ∀ us : List Int, us.Pairwise (fun a b => b ≤ a) → Grp us (grpF us) := by
  refine snoc_ind (fun _ => ⟨by simp [grpF, runsF], by simp [grpF, runsF], by simp [grpF, runsF], by simp [grpF, runsF], by simp [grpF, runsF], fun us' u h => by simp at h⟩) ?_
  intro us u ih pw
  have g := ih (List.pairwise_append.mp pw).1
  have hu : ∀ a ∈ us, u ≤ a := fun a ha => (List.pairwise_append.mp pw).2.2 a ha u (by simp)
  have step : grpF (us ++ [u]) = runStep (grpF us) (u, 1) := by
    unfold grpF runsF
    rw [List.map_append, List.foldl_append]
    rfl
  have fin : ∀ (us' : List Int) (v : Int), us ++ [u] = us' ++ [v] → v = u := fun us' v h => by
    have := congrArg List.getLast? h
    rw [List.getLast?_concat, List.getLast?_concat] at this
    exact (Option.some.inj this).symm
  rw [step]
  rcases List.eq_nil_or_concat us with rfl | ⟨ws, w, hw⟩
  · have : grpF ([] : List Int) = [] := rfl
    rw [this, runStep_nil _ Int.one_pos]
    exact ⟨by simp, by simp, by simp, by simp, by simp, fun us' v h => ⟨[], 1, by rw [fin us' v h] <;> rfl⟩⟩
  · rw [List.concat_eq_append] at hw
    obtain ⟨G', c, hG⟩ := g.last ws w hw
    have dsc := g.desc
    have mem := g.mem
    have sum := g.sum
    have cnt := g.cnt
    have len := g.len
    rw [hG] at dsc mem sum cnt len ⊢
    rw [List.map_append, List.sum_append] at sum cnt
    simp only [List.map_cons, List.map_nil, List.sum_cons, List.sum_nil] at sum cnt
    have wu := hu w (by rw [hw]; simp)
    by_cases e : w = u
    · rw [runStep_join G' (w, c) (u, 1) e]
      subst e
      refine ⟨?_, fun y hy => ?_, ?_, ?_, by simp at len ⊢; omega, fun us' v h => ⟨G', c + 1, by rw [fin us' v h]⟩⟩
      · rw [List.pairwise_append] at dsc ⊢
        exact ⟨dsc.1, by simp, fun a ha b hb => by
          have := dsc.2.2 a ha (w, c) (by simp)
          rw [List.mem_singleton.mp hb]
          exact this⟩
      · rcases List.mem_append.mp hy with hy | hy
        · obtain ⟨h1, h2⟩ := mem y (List.mem_append_left _ hy)
          exact ⟨List.mem_append_left _ h1, h2⟩
        · rw [List.mem_singleton.mp hy]
          have := (mem (w, c) (by simp)).2
          exact ⟨by simp, by dsimp at this ⊢; omega⟩
      · rw [List.map_append, List.sum_append, List.sum_append]
        simp only [List.map_cons, List.map_nil, List.sum_cons, List.sum_nil]
        rw [Int.mul_add]
        omega
      · rw [List.map_append, List.sum_append, List.length_append]
        simp only [List.map_cons, List.map_nil, List.sum_cons, List.sum_nil, List.length_cons, List.length_nil]
        omega
    · rw [runStep_new G' (w, c) (u, 1) e Int.one_pos]
      refine ⟨?_, fun y hy => ?_, ?_, ?_, by simp at len ⊢; omega, fun us' v h => ⟨G' ++ [(w, c)], 1, by rw [fin us' v h]⟩⟩
      · refine List.pairwise_append.mpr ⟨dsc, by simp, fun a ha b hb => ?_⟩
        rw [List.mem_singleton.mp hb]
        dsimp
        rcases List.mem_append.mp ha with ha | ha
        · have := (List.pairwise_append.mp dsc).2.2 a ha (w, c) (by simp)
          dsimp at this
          omega
        · rw [List.mem_singleton.mp ha]
          dsimp
          omega
      · rcases List.mem_append.mp hy with hy | hy
        · obtain ⟨h1, h2⟩ := mem y hy
          exact ⟨List.mem_append_left _ h1, h2⟩
        · rw [List.mem_singleton.mp hy]
          exact ⟨by simp, Int.le_refl _⟩
      · rw [List.map_append, List.map_append, List.sum_append, List.sum_append, List.sum_append]
        simp only [List.map_cons, List.map_nil, List.sum_cons, List.sum_nil]
        omega
      · rw [List.map_append, List.map_append, List.sum_append, List.sum_append, List.length_append]
        simp only [List.map_cons, List.map_nil, List.sum_cons, List.sum_nil, List.length_cons, List.length_nil]
        omega
end K75R
set_option Elab.async false
set_option linter.all false
/-! The word of a far number. -/
namespace K75R
open K75
theorem valF_app (a b : List (Int × Int × Int)) : valF (a ++ b) = valF a + valF b := by simp [valF]
theorem szF_app (a b : List (Int × Int × Int)) : szF (a ++ b) = szF a + szF b := by simp [szF]
theorem valF_cons (x : Int × Int × Int) (b : List (Int × Int × Int)) : valF (x :: b) = x.1 * (x.2.1 - x.2.2) + valF b := by simp [valF]
theorem szF_cons (x : Int × Int × Int) (b : List (Int × Int × Int)) : szF (x :: b) = x.2.1 + x.2.2 + szF b := by simp [szF]
def addS (G : List (Int × Int)) : List (Int × Int × Int) := G.map fun y => (y.1, y.2, 0)
theorem fw_desc {V : Int} : ∀ {G : List (Int × Int)}, G.Pairwise (fun a b => b.1 < a.1) → (∀ y ∈ G, 1 ≤ y.1 ∧ y.1 < V ∧ 1 ≤ y.2) → FW V G (addS G)
  | [], _, _ => .nil
  | (v, c) :: G, d, h => by
    rw [List.pairwise_cons] at d
    obtain ⟨h1, h2, h3⟩ := h (v, c) (by simp)
    exact .low (fw_desc d.2 fun y hy => h y (List.mem_cons_of_mem _ hy)) h1 h2 h3 d.1
theorem fw_top {V c : Int} {G : List (Int × Int)} (hV : 1 ≤ V) (hc : 1 ≤ c) (d : G.Pairwise fun a b => b.1 < a.1) (h : ∀ y ∈ G, 1 ≤ y.1 ∧ y.1 < V ∧ 1 ≤ y.2) : FW V ((V, c) :: G) ((V, c, 0) :: addS G) := by
  refine .top (fw_desc d h) hc (fun y hy => Int.le_of_lt (h y hy).2.1) ?_
  cases G with
  | nil =>
    show (0 : Int) ≠ V
    omega
  | cons y G => exact Int.ne_of_lt (h y (by simp)).2.1
theorem negP_len (V : Int) : ∀ ns : List Int, (negP V ns).length = 2 * ns.length
  | [] => rfl
  | n :: ns => by
    have := negP_len V ns
    have e : negP V (n :: ns) = (n, 1) :: (V, 1) :: negP V ns := by simp [negP]
    rw [e, List.length_cons, List.length_cons, List.length_cons, this]
    omega
def negS (V : Int) (ns : List Int) : List (Int × Int × Int) := ns.flatMap fun n => [(n, 0, 1), (V, 1, 0)]
theorem fw_neg {V c n : Int} {G : List (Int × Int)} (hV : 1 ≤ V) (hc : 1 ≤ c) (d : G.Pairwise fun a b => b.1 < a.1) (h : ∀ y ∈ G, 1 ≤ y.1 ∧ y.1 < V ∧ 1 ≤ y.2) (hn : 1 ≤ n ∧ n < V) : ∀ ns : List Int, (∀ m ∈ ns, 1 ≤ m ∧ m < V) →
    FW V (negP V ns ++ (n, 1) :: (V, c) :: G) (negS V ns ++ (n, 0, 1) :: (V, c, 0) :: addS G)
  | [], _ => .neg (fw_top hV hc d h) hn.1 hn.2
  | m :: ns, hm => by
    have ih := fw_neg hV hc d h hn ns fun x hx => hm x (List.mem_cons_of_mem _ hx)
    have e1 : negP V (m :: ns) ++ (n, 1) :: (V, c) :: G = (m, 1) :: (V, 1) :: (negP V ns ++ (n, 1) :: (V, c) :: G) := by simp [negP]
    have e2 : negS V (m :: ns) ++ (n, 0, 1) :: (V, c, 0) :: addS G = (m, 0, 1) :: (V, 1, 0) :: (negS V ns ++ (n, 0, 1) :: (V, c, 0) :: addS G) := by simp [negS]
    rw [e1, e2]
    obtain ⟨m1, m2⟩ := hm m (by simp)
    refine .neg (.top ih (Int.le_refl _) (fun y hy => (ih.le hV y hy).2.1) ?_) m1 m2
    cases ns with
    | nil =>
      show n ≠ V
      omega
    | cons k ns =>
      show k ≠ V
      have := hm k (by simp)
      omega
theorem negS_sums (V : Int) : ∀ ns : List Int, valF (negS V ns) = ns.length * V - ns.sum ∧ szF (negS V ns) = 2 * ns.length
  | [] => ⟨by simp [negS, valF], by simp [negS, szF]⟩
  | n :: ns => by
    obtain ⟨h1, h2⟩ := negS_sums V ns
    have e : negS V (n :: ns) = (n, 0, 1) :: (V, 1, 0) :: negS V ns := by simp [negS]
    rw [e, valF_cons, valF_cons, szF_cons, szF_cons, h1, h2, List.length_cons, List.sum_cons]
    refine ⟨?_, ?_⟩
    · push_cast
      rw [Int.add_mul]
      omega
    · push_cast
      omega
theorem addS_sums {us : List Int} {G : List (Int × Int)} (g : Grp us G) : valF (addS G) = us.sum ∧ szF (addS G) = us.length := by
  have e1 : valF (addS G) = (G.map fun y => y.1 * y.2).sum := by
    unfold valF addS
    rw [List.map_map]
    congr 1
    apply List.map_congr_left
    intro y _
    simp
  have e2 : szF (addS G) = (G.map fun y => y.2).sum := by
    unfold szF addS
    rw [List.map_map]
    congr 1
    apply List.map_congr_left
    intro y _
    simp
  exact ⟨e1.trans g.sum, e2.trans g.cnt⟩
theorem addS_no (G : List (Int × Int)) : ∀ s ∈ addS G, s.2.2 = 0 := fun s hs => by
  obtain ⟨y, _, rfl⟩ := List.mem_map.mp hs
  rfl
/-- the runs of the parts of a far word -/
theorem far_runs {V q : Int} {ns us : List Int} (hV : 1 ≤ V) (hq : 1 ≤ q) (hn : ∀ n ∈ ns, 1 ≤ n ∧ n < V) (hu : ∀ u ∈ us, 1 ≤ u ∧ u < V) (pw : us.Pairwise fun a b => b ≤ a) :
    ∃ ss, FW V (runsF (negP V ns ++ [(V, q)] ++ us.map fun u => (u, 1))) ss ∧ valF ss = (ns.length + q) * V - ns.sum + us.sum ∧ szF ss = 2 * ns.length + q + us.length ∧
      (runsF (negP V ns ++ [(V, q)] ++ us.map fun u => (u, 1))).length ≤ 2 * ns.length + 1 + us.length ∧ runsF (negP V ns ++ [(V, q)] ++ us.map fun u => (u, 1)) ≠ [] ∧
      (∀ y ∈ runsF (negP V ns ++ [(V, q)] ++ us.map fun u => (u, 1)), y.1 = V ∨ y.1 ∈ ns ∨ y.1 ∈ us) ∧ (ns = [] → ∀ s ∈ ss, s.2.2 = 0) := by
  have g := grp_of us pw
  have gv : ∀ y ∈ grpF us, 1 ≤ y.1 ∧ y.1 < V ∧ 1 ≤ y.2 := fun y hy => ⟨(hu _ (g.mem y hy).1).1, (hu _ (g.mem y hy).1).2, (g.mem y hy).2⟩
  have rn := runs_neg (V := V) ns fun n h => Int.ne_of_lt (hn n h).2
  obtain ⟨a1, a2⟩ := addS_sums g
  -- the added signs behind the run of V
  have tail : ∀ (P : List (Int × Int)) (c : Int), (us.map fun u => (u, (1 : Int))).foldl runStep (P ++ [(V, c)]) = P ++ (V, c) :: grpF us := fun P c => by
    cases us with
    | nil => rfl
    | cons u us =>
      rw [List.map_cons, List.foldl_cons, runStep_new P (V, c) (u, 1) (fun z => by have := (hu u (by simp)).2; dsimp at z; omega) Int.one_pos, runs_app (P ++ [(V, c)]) _ [(u, 1)] (by simp)]
      unfold grpF runsF
      rw [List.map_cons, List.foldl_cons, runStep_nil _ Int.one_pos, List.append_assoc]
      rfl
  rcases List.eq_nil_or_concat ns with rfl | ⟨ns', n, hns⟩
  · have e : runsF (negP V [] ++ [(V, q)] ++ us.map fun u => (u, 1)) = (V, q) :: grpF us := by
      unfold runsF
      show (us.map fun u => (u, (1 : Int))).foldl runStep (runStep [] (V, q)) = _
      rw [runStep_nil _ (by dsimp; omega)]
      exact tail [] q
    rw [e]
    refine ⟨_, fw_top hV hq g.desc gv, ?_, ?_, ?_, by simp, fun y hy => ?_, fun _ s hs => ?_⟩
    · rw [valF_cons, a1]
      simp
      rw [Int.mul_comm]
    · rw [szF_cons, a2]
      simp
    · have := g.len
      simp
      omega
    · rcases List.mem_cons.mp hy with rfl | hy
      · exact .inl rfl
      · exact .inr (.inr (g.mem y hy).1)
    · rcases List.mem_cons.mp hs with rfl | hs
      · rfl
      · exact addS_no _ s hs
  · rw [List.concat_eq_append] at hns
    subst hns
    have e : runsF (negP V (ns' ++ [n]) ++ [(V, q)] ++ us.map fun u => (u, 1)) = negP V ns' ++ (n, 1) :: (V, 1 + q) :: grpF us := by
      unfold runsF at rn ⊢
      rw [List.foldl_append, List.foldl_append, rn, negP_snoc]
      have : negP V ns' ++ [(n, 1), (V, 1)] = (negP V ns' ++ [(n, 1)]) ++ [(V, 1)] := by simp
      rw [this, List.foldl_cons, List.foldl_nil, runStep_join _ (V, 1) (V, q) rfl, tail]
      simp
    rw [e]
    have hns' : ∀ m ∈ ns', 1 ≤ m ∧ m < V := fun m hm => hn m (List.mem_append_left _ hm)
    obtain ⟨b1, b2⟩ := negS_sums V ns'
    refine ⟨_, fw_neg hV (by omega) g.desc gv (hn n (by simp)) ns' hns', ?_, ?_, ?_, by simp, fun y hy => ?_, fun z => by simp at z⟩
    · rw [valF_app, valF_cons, valF_cons, a1, b1, List.length_append, List.sum_append]
      simp only [List.length_cons, List.length_nil, List.sum_cons, List.sum_nil]
      push_cast
      rw [Int.add_mul, Int.add_mul, Int.mul_comm V (1 + q - 0), Int.sub_zero, Int.add_mul]
      omega
    · rw [szF_app, szF_cons, szF_cons, a2, b2, List.length_append]
      simp only [List.length_cons, List.length_nil]
      push_cast
      omega
    · have h1 := g.len
      have h2 : (negP V ns').length = 2 * ns'.length := negP_len V ns'
      simp [h2]
      omega
    · rcases List.mem_append.mp hy with hy | hy
      · obtain ⟨m, hm, hy⟩ := List.mem_flatMap.mp hy
        simp at hy
        rcases hy with rfl | rfl
        · exact .inr (.inl (by simp [hm]))
        · exact .inl rfl
      · rcases List.mem_cons.mp hy with rfl | hy
        · exact .inr (.inl (by simp))
        · rcases List.mem_cons.mp hy with rfl | hy
          · exact .inl rfl
          · exact .inr (.inr (g.mem y hy).1)
/-! ### the word of a cheapest way -/
theorem perm_sum {a b : List Int} (h : a.Perm b) : a.sum = b.sum := by
  induction h with
  | nil => rfl
  | cons x _ ih => rw [List.sum_cons, List.sum_cons, ih]
  | swap x y l => simp only [List.sum_cons]; omega
  | trans _ _ h1 h2 => exact h1.trans h2
def posOf (way : List Int) : List Int := way.filter fun v => decide (0 < v)
def negOf (way : List Int) : List Int := (way.filter fun v => decide (v < 0)).map fun v => 0 - v
theorem split_sum : ∀ way : List Int, (∀ v ∈ way, v ≠ 0) → way.sum = (posOf way).sum - (negOf way).sum ∧ way.length = (posOf way).length + (negOf way).length
  | [], _ => ⟨rfl, rfl⟩
  | v :: way, h => by
    obtain ⟨h1, h2⟩ := split_sum way fun x hx => h x (List.mem_cons_of_mem _ hx)
    have h0 := h v (by simp)
    unfold posOf negOf at *
    by_cases c : 0 < v
    · have c2 : ¬ v < 0 := by omega
      simp [c, c2] at h1 h2 ⊢
      omega
    · have c2 : v < 0 := by omega
      have c3 : ¬ 0 < v := c
      simp [c2, c3] at h1 h2 ⊢
      omega
/-- a walk's cost, from its signed values -/
theorem walk_cost {xs : List Int} {V : Int} {p : Bool} : ∀ {st : List K75.Step}, In (stepsF xs V p) st → wcost st = st.length * V - wsum st
  | [], _ => by simp
  | s :: st, h => by
    have ih := walk_cost (fun x hx => h x (List.mem_cons_of_mem _ hx) : In (stepsF xs V p) st)
    obtain ⟨v, _, e⟩ := mem_stepsF.mp (h s (by simp))
    rw [wcost_cons, wsum_cons, ih, List.length_cons]
    push_cast
    rw [Int.add_mul]
    rcases e with rfl | ⟨_, rfl⟩ <;> dsimp <;> omega
theorem sum_le {l : List Int} {b : Int} (h : ∀ a ∈ l, 1 ≤ a ∧ a ≤ b) : l.length ≤ l.sum ∧ l.sum ≤ l.length * b := by
  induction l with
  | nil => simp
  | cons a l ih =>
    have := ih fun x hx => h x (List.mem_cons_of_mem _ hx)
    have b1 := h a (by simp)
    rw [List.sum_cons, List.length_cons]
    push_cast
    rw [Int.add_mul]
    omega
/-- the parts' last count -/
theorem far_word_ok {xs : List Int} {r : Rl} (ok : OkV xs) {N : Int} {st : List K75.Step} (hst : In (stepsOf xs r) st) (hres : wsum st % topOf xs = N % topOf xs) (hlen : st.length < (topOf xs).toNat) (hN : (topOf xs - 1) * (topOf xs - 1) < N) {us : List Int} (hus : us.Perm (posOf (st.map Prod.fst))) (pw : us.Pairwise fun a b => b ≤ a) :
    ∀ q : Int, q = (N - (st.map Prod.fst).sum - topOf xs * (negOf (st.map Prod.fst)).length) / topOf xs →
    Good xs r (runsF (negP (topOf xs) (negOf (st.map Prod.fst)) ++ [(topOf xs, q)] ++ us.map fun u => (u, 1))) ∧
    valF (signsF r (runsF (negP (topOf xs) (negOf (st.map Prod.fst)) ++ [(topOf xs, q)] ++ us.map fun u => (u, 1)))) = N ∧
    szF (signsF r (runsF (negP (topOf xs) (negOf (st.map Prod.fst)) ++ [(topOf xs, q)] ++ us.map fun u => (u, 1)))) = (N + wcost st) / topOf xs := by
  intro q hq
  have tp := ok.top
  generalize hV : topOf xs = V at *
  have hform : ∀ v ∈ st.map Prod.fst, (v ∈ xs.dropLast ∧ 1 ≤ v ∧ v < V) ∨ (0 - v ∈ xs.dropLast ∧ -V < v ∧ v ≤ -1 ∧ r ≠ .plain) := fun v hv => by
    obtain ⟨s, hs, rfl⟩ := List.mem_map.mp hv
    obtain ⟨u, hu, e⟩ := mem_stepsF.mp (hst s hs)
    have b := ok.below hu
    rw [hV] at b
    rcases e with rfl | ⟨hp, rfl⟩
    · exact .inl ⟨hu, b⟩
    · refine .inr ⟨by dsimp; rw [show (0 : Int) - (0 - u) = u by omega]; exact hu, by dsimp; omega, by dsimp; omega, fun z => ?_⟩
      subst z
      cases hp
  obtain ⟨sm, ln⟩ := split_sum (st.map Prod.fst) fun v hv => by rcases hform v hv with h | h <;> omega
  have hn : ∀ n ∈ negOf (st.map Prod.fst), (1 ≤ n ∧ n < V) ∧ n ∈ xs.dropLast ∧ r ≠ .plain := fun n hn => by
    obtain ⟨v, hv, rfl⟩ := List.mem_map.mp hn
    obtain ⟨h1, h2⟩ := List.mem_filter.mp hv
    have h2 := of_decide_eq_true h2
    rcases hform v h1 with h | h
    · omega
    · exact ⟨⟨by omega, by omega⟩, h.1, h.2.2.2⟩
  have hp : ∀ u ∈ us, (1 ≤ u ∧ u < V) ∧ u ∈ xs.dropLast := fun u hu => by
    obtain ⟨h1, h2⟩ := List.mem_filter.mp (hus.mem_iff.mp hu)
    have h2 := of_decide_eq_true h2
    rcases hform u h1 with h | h
    · exact ⟨h.2, h.1⟩
    · omega
  have us_sum : (posOf (st.map Prod.fst)).sum = us.sum := (perm_sum hus).symm
  have us_len : (posOf (st.map Prod.fst)).length = us.length := hus.symm.length_eq
  rw [us_sum] at sm
  rw [us_len, List.length_map] at ln
  have wc := walk_cost hst
  have ws : wsum st = (st.map Prod.fst).sum := rfl
  rw [ws] at wc hres
  generalize hns : negOf (st.map Prod.fst) = ns at *
  generalize (st.map Prod.fst).sum = W at *
  rw [hV] at wc
  -- the last count is at least 1, and exact
  have bn := sum_le (l := ns) (b := V - 1) fun n h => by have := (hn n h).1; omega
  have bu := sum_le (l := us) (b := V - 1) fun u h => by have := (hp u h).1; omega
  have dvd : (N - W - V * ns.length) % V = 0 := by
    have h1 : (N - W) % V = 0 := by
      rw [Int.sub_emod, hres, Int.sub_self, Int.zero_emod]
    rw [Int.sub_emod, h1, Int.mul_emod_right, Int.sub_self, Int.zero_emod]
  have exact_ : q * V = N - W - V * ns.length := by
    rw [hq]
    exact Int.ediv_mul_cancel (Int.dvd_of_emod_eq_zero dvd)
  have hK : ((ns.length : Int) + us.length) * (V - 1) ≤ (V - 1) * (V - 1) := Int.mul_le_mul_of_nonneg_right (by omega) (by omega)
  have pos : 0 < q * V := by
    rw [exact_, sm]
    rw [Int.add_mul] at hK
    have e1 : V * (ns.length : Int) = ns.length * (V - 1) + ns.length := by rw [Int.mul_sub, Int.mul_comm V]; omega
    omega
  have hq1 : 1 ≤ q := by
    by_cases c : 1 ≤ q
    · exact c
    · have : q * V ≤ 0 := Int.mul_nonpos_of_nonpos_of_nonneg (by omega) (by omega)
      omega
  obtain ⟨ss, fw, v1, s1, l1, n1, m1, p1⟩ := far_runs tp.1 hq1 (fun n h => (hn n h).1) (fun u h => (hp u h).1) pw
  have key := fw.good (xs := xs) (r := r) tp.1 (fun hr => p1 (by
    cases ns with
    | nil => rfl
    | cons n ns => exact absurd hr (hn n (by simp)).2.2)) n1 (by omega) (fun y hy => by
      rcases m1 y hy with h | h | h
      · rw [h, ← hV]; exact topOf_mem ok.ne
      · exact List.dropLast_subset _ (hn _ h).2.1
      · exact List.dropLast_subset _ (hp _ h).2)
  obtain ⟨e1, good⟩ := key
  rw [e1]
  refine ⟨good, ?_, ?_⟩
  · rw [v1, Int.add_mul, exact_, sm, Int.mul_comm V]
    omega
  · rw [s1, wc, ln]
    have : N + (((us.length + ns.length : Nat) : Int) * V - W) = (2 * (ns.length : Int) + q + us.length) * V := by
      push_cast
      rw [Int.add_mul, Int.add_mul, Int.add_mul, exact_, Int.mul_assoc 2, Int.mul_comm V]
      omega
    rw [this, Int.mul_ediv_cancel _ (by omega)]
end K75R
set_option Elab.async false
set_option linter.all false
set_option maxRecDepth 100000
set_option maxHeartbeats 4000000
namespace K75R
open PySem PySem.Spec PyProof.Rows L2
section
variable {P : Program} {w : World} {K : PySem.W.Frag} {mg : Str → Option Value} {base : Heap}
open K75
/-- the last tuple replaced -/
theorem TupsAt.setLast {H : Hp} {l p : Addr} {ts : List (List V)} {xs : List V} {t : List V} (h : TupsAt H l ts) (e : H l = some (.lst xs)) (hp : H p = none) (ne : ts ≠ []) : TupsAt (upd (upd H p (.tup t)) l (.lst (xs.set (xs.length - 1) (V.ref p)))) l (ts.dropLast ++ [t]) := by
  obtain ⟨ps, h1, h2, h3⟩ := h
  rw [h1] at e
  obtain rfl : ps.map V.ref = xs := by cases e; rfl
  have hps : ps ≠ [] := fun z => by rw [z] at h2; exact ne (List.eq_nil_of_length_eq_zero h2.symm)
  have e1 : (ps.map V.ref).set ((ps.map V.ref).length - 1) (V.ref p) = (ps.dropLast ++ [p]).map V.ref := by
    conv => lhs; rw [← List.dropLast_concat_getLast hps]
    simp
  refine ⟨ps.dropLast ++ [p], by rw [upd_same, e1] <;> rfl, by simp [h2], fun i q t' q1 q2 => ?_⟩
  have nel : ∀ q u, H q = some (.tup u) → q ≠ l := fun q u e1 e2 => by subst e2; rw [h1] at e1; cases e1
  have pl : p ≠ l := fun e2 => by subst e2; rw [h1] at hp; cases hp
  have ld : ps.dropLast.length = ts.dropLast.length := by simp [h2]
  by_cases hi : i < ps.dropLast.length
  · rw [List.getElem?_append_left hi] at q1
    rw [List.getElem?_append_left (by omega)] at q2
    have d1 : ps[i]? = some q := by rw [List.getElem?_dropLast] at q1; split at q1; exact q1; cases q1
    have d2 : ts[i]? = some t' := by rw [List.getElem?_dropLast] at q2; split at q2; exact q2; cases q2
    have := h3 i q t' d1 d2
    rw [upd_ne (nel _ _ this), upd_ne (ne_of_none this hp)]
    exact this
  · rw [List.getElem?_append_right (by omega)] at q1 q2
    have e0 : i - ps.dropLast.length = 0 := by
      by_cases z : i - ps.dropLast.length = 0
      · exact z
      · rw [List.getElem?_eq_none (by rw [List.length_singleton]; omega)] at q1; cases q1
    rw [e0] at q1
    rw [← ld, e0] at q2
    obtain rfl : p = q := by simpa using q1
    obtain rfl : t = t' := by simpa using q2
    rw [upd_ne pl, upd_same]
theorem runStep_len (f : List (Int × Int)) (p : Int × Int) : (runStep f p).length ≤ f.length + 1 := by
  unfold runStep
  cases e : f.getLast? with
  | none => dsimp; split <;> simp
  | some l =>
    dsimp
    split
    · simp only [List.length_append, List.length_dropLast, List.length_singleton]; omega
    · split <;> simp
theorem runsF_len (ps : List (Int × Int)) : (runsF ps).length ≤ ps.length := by
  have : ∀ (ps R : List (Int × Int)), (ps.foldl runStep R).length ≤ R.length + ps.length := fun ps => by
    induction ps with
    | nil => intro R; simp
    | cons p ps ih =>
      intro R
      have := ih (runStep R p)
      have := runStep_len R p
      simp only [List.foldl_cons, List.length_cons]
      omega
  simpa [runsF] using this ps []
theorem runsF_take {ps : List (Int × Int)} {i : Nat} {p : Int × Int} (h : ps[i]? = some p) : runsF (ps.take (i + 1)) = runStep (runsF (ps.take i)) p := by
  unfold runsF
  rw [List.take_add_one, h, List.foldl_append]
  rfl
def sp_runs_of : Sp := fun vs H Q _ => ∃ (a : Addr) (ps : List (Int × Int)), vs = [.ref a] ∧ TupsAt H a (ps.map runV) ∧ ps.length ≤ 1000 ∧ ∀ H' l, Same H H' → H l = none → TupsAt H' l ((runsF ps).map runV) → Q (.ref l) H'

theorem sc_runs_of : FnScope ["parts", "found", "value", "count"] ["parts"] (defScope (top 41)) := ⟨rfl, rfl, rfl, by decide +kernel, rfl, by decide +kernel, by decide +kernel⟩
theorem R_runs_of (T : Txt K mg) : FnR P w K mg base CX0 1 (ga K "runs_of") sp_runs_of := by
  obtain ⟨fd, F⟩ := T.runs_of.F
  have sc := sc_runs_of
  refine Fun.raw F sc (fun vs H Q E h => ?_) (fun _ _ _ _ _ _ us hl => match us, hl with | [_], _ => rfl) (fun cdv A outer s H vs Q E hr h => ?_)
  · obtain ⟨_, _, rfl, _⟩ := h
    rfl
  obtain ⟨a, ps, rfl, ha, hle, q⟩ := h
  refine ⟨_, (pss_cons
    (ps_set (i := 1) sc.nd rfl (by first | exact Or.inl rfl | exact Or.inr rfl) (pe_lst pa_nil))
    (pss_cons
    (ps_for PassesOwn.never rfl (pi_list (pv 0)) (pg_tup (by rfl) (pgs_cons (pg_name (i := 2) sc.nd rfl (by first | exact Or.inl rfl | exact Or.inr rfl)) (pgs_cons (pg_name (i := 3) sc.nd rfl (by first | exact Or.inl rfl | exact Or.inr rfl)) pgs_nil)))
      (pss_one
      (ps_if (PW.pt (pw_and (pt_cmpR (op_neD hr.units) (pv 1) (pe_lst pa_nil) (nomark _)) (pw_and1 (pt_cmpR op_eq (pe_ix ix_tup (pe_ix ix_list (pv 1) (pe_un un_neg pe_int) (fun _ _ => rfl)) pe_int (fun _ _ => rfl)) (pv 2) (nomark _)))))
        (pss_one
        (ps_asg (pe_tup (pa_cons (pv 2) (pa_cons (pe_op op_add (pe_ix ix_tup (pe_ix ix_list (pv 1) (pe_un un_neg pe_int) (fun _ _ => rfl)) pe_int (fun _ _ => rfl)) (pv 3)) pa_nil))) (pg_sub (pv 1) (pe_un un_neg pe_int) set_list)))
        (pss_one
        (ps_if (pt_cmpR op_gt (pv 3) pe_int (nomark _))
          (pss_one
          (ps_expr (pe_bm PySem.F.plainAttrs_list PySem.F.slot_list_append PySem.F.type_list_append mt_append (pv 1) (pa_cons (pe_tup (pa_cons (pv 2) (pa_cons (pv 3) pa_nil))) pa_nil))))
          pss_nil)))))
    (pss_one
    (ps_ret (pv 1))))), ?_⟩
  refine ⟨by simp [sizeLine_eq], fun l hl => ?_⟩
  have s0 : Same H (upd H l (.lst [])) := same_new hl
  obtain ⟨pp, hpp, hpl, hpi⟩ := ha.same s0
  have hal : a ≠ l := by
    obtain ⟨qq, hqq, _⟩ := ha
    exact ne_of_none hqq hl
  have hlen : pp.length = ps.length := by rw [hpl, List.length_map]
  refine ⟨_, rfl, a, rfl, ⟨_, sqL hpp⟩, for_it walk_list (fun i σ G => (∀ b o, (upd H l (.lst [])) b = some o → b ≠ l → G b = some o) ∧ Same H G ∧ TupsAt G l ((runsF (ps.take i)).map runV) ∧ ∃ o2 o3, σ = [some (V.ref a), some (V.ref l), o2, o3]) ⟨fun _ _ z _ => z, s0, TupsAt.nil upd_same, _, _, rfl⟩ (fun i σ G _ z => sqL (z.1 _ _ hpp hal)) ?_ ?_⟩
  · rintro i y σ G0 G hi ⟨kp, sG, tG, o2, o3, rfl⟩ ⟨rfl, hy⟩
    obtain ⟨p, r, rfl, hr1, hp1⟩ := TupsAt.item hpl hpi hy
    have hpl' : p ≠ l := fun e => by subst e; rw [upd_same] at hp1; cases hp1
    have hp2 := kp _ _ hp1 hpl'
    have rs : runsF (ps.take (i + 1)) = runStep (runsF (ps.take i)) r := runsF_take hr1
    have fl : (runsF (ps.take i)).length ≤ 1000 := by have := runsF_len (ps.take i); rw [List.length_take] at this; omega
    refine ⟨p, _, rfl, sqT hp2, rfl, _, _, rfl, _, _, rfl, rfl, ?_⟩
    refine ⟨_, rfl, by simp [sizeLine_eq], fun e he => ?_⟩
    have sE : Same G (upd G e (.lst [])) := same_new he
    refine neD_runs (tG.same sE) (sqL upd_same) ⟨_, rfl, ?_⟩
    have tG := tG.same sE
    have kp : ∀ b o, (upd H l (.lst [])) b = some o → b ≠ l → (upd G e (.lst [])) b = some o := fun b o z1 z2 => sE _ _ (kp b o z1 z2)
    have sG := sG.trans sE
    generalize upd G e (.lst []) = G at tG kp sG
    clear sE he hp2
    obtain ⟨xs, hx, hxl⟩ := tG.lst
    have hxl : xs.length = (runsF (ps.take i)).length := by rw [hxl, List.length_map]
    generalize hF : runsF (ps.take i) = F at *
    -- the append
    have app : (0 < r.2 → ∀ D : Ends, D.nx = (fun σ G => (∀ b o, (upd H l (.lst [])) b = some o → b ≠ l → G b = some o) ∧ Same H G ∧ TupsAt G l ((runsF (ps.take (i + 1))).map runV) ∧ ∃ o2 o3, σ = [some (V.ref a), some (V.ref l), o2, o3]) → runStep F r = F ++ [r] →
        tDrop (tBM K "list" rAppend (tVar 1) (tCons (tTup (tCons (tVar 2) (tCons (tVar 3) tNil))) tNil)) D [some (V.ref a), some (V.ref l), some (V.int r.1), some (V.int r.2)] G) := fun hpos D hD hst => by
      refine ⟨_, rfl, .inl ⟨rfl, _, sqL hx⟩, _, rfl, _, rfl, by simp [sizeLine_eq], fun t ht => ?_⟩
      refine ⟨l, xs, _, rfl, rfl, (same_new ht) _ _ hx, by rw [hxl]; exact sz_lt (by omega), ?_⟩
      rw [hD]
      refine ⟨fun b o z1 z2 => by rw [upd_ne z2]; exact (same_new ht) _ _ (kp b o z1 z2), same_put (sG.trans (same_new ht)) hl, ?_, _, _, rfl⟩
      rw [rs, hst, List.map_append]
      exact tG.push hx ht
    by_cases hF0 : F = []
    · subst hF0
      refine iteF (iteF ?_)
      refine ⟨_, rfl, _, _, rfl, rfl, _, rfl, ite2 (fun c => ?_) (fun c => ?_)⟩
      · have c := of_decide_eq_true c
        exact app c _ rfl (by simp [runStep, c])
      · have c : ¬ 0 < r.2 := by simpa using c
        exact ⟨kp, sG, by rw [rs]; simpa [runStep, c] using tG, _, _, rfl⟩
    · have hemp : (!F.isEmpty) = true := by simp [hF0]
      rw [hemp]
      have lst : F.getLast? = some (F.getLast hF0) := List.getLast?_eq_getLast hF0
      obtain ⟨pl, hx', hll, hpi2⟩ := id tG
      rw [hx] at hx'
      cases hx'
      have lF : pl.length = F.length := by rw [hll, List.length_map]
      have hpl0 : pl ≠ [] := fun z => by rw [z] at lF; exact hF0 (List.eq_nil_of_length_eq_zero lF.symm)
      have hxe : pl.map V.ref = pl.dropLast.map V.ref ++ [V.ref (pl.getLast hpl0)] := by rw [← List.map_singleton, ← List.map_append, List.dropLast_concat_getLast]
      have hl1 : G (pl.getLast hpl0) = some (.tup (runV (F.getLast hF0))) := by
        refine hpi2 (F.length - 1) _ _ ?_ ?_
        · rw [List.getLast_eq_getElem, ← lF, List.getElem?_eq_getElem]
        · rw [List.getLast_eq_getElem, List.getElem?_map, List.getElem?_eq_getElem (by have := List.length_pos_iff.mpr hF0; omega)] <;> rfl
      have rd : atI (pl.map V.ref) (-1) = some (V.ref (pl.getLast hpl0)) := by rw [hxe]; exact atI_last _ _
      refine iteT ⟨_, rfl, 1, rfl, l, _, _, _, rfl, rfl, sqL hx, rd, _, _, 0, _, rfl, rfl, sqT hl1, rfl, _, rfl, rfl, _, rfl, ite2 (fun c => ?_) (fun c => ?_)⟩
      · have c : (F.getLast hF0).1 = r.1 := by simpa using c
        refine ⟨_, rfl, _, rfl, 1, rfl, l, _, _, _, rfl, rfl, sqL hx, rd, _, _, 1, _, rfl, rfl, sqT hl1, rfl, _, rfl, _, _, rfl, rfl, by simp [sizeLine_eq], fun t ht => ?_⟩
        refine ⟨_, rfl, 1, rfl, l, _, _, (pl.map V.ref).length - 1, rfl, rfl, (same_new ht) _ _ hx, by rw [hxe]; unfold ixN; simp; omega, ?_⟩
        refine ⟨fun b o z1 z2 => by rw [upd_ne z2]; exact (same_new ht) _ _ (kp b o z1 z2), same_put (sG.trans (same_new ht)) hl, ?_, _, _, rfl⟩
        have st : runStep F r = F.dropLast ++ [(r.1, (F.getLast hF0).2 + r.2)] := by unfold runStep; rw [lst]; dsimp; rw [if_pos c]
        rw [rs, st, List.map_append, List.map_dropLast]
        exact tG.setLast hx ht (by simpa using hF0)
      · have c : ¬ (F.getLast hF0).1 = r.1 := by simpa using c
        refine ⟨_, rfl, _, _, rfl, rfl, _, rfl, ite2 (fun c2 => ?_) (fun c2 => ?_)⟩
        · have c2 := of_decide_eq_true c2
          exact app c2 _ rfl (by unfold runStep; rw [lst]; dsimp; rw [if_neg c, if_pos c2])
        · have c2 : ¬ 0 < r.2 := by simpa using c2
          exact ⟨kp, sG, by rw [rs]; unfold runStep; rw [lst]; dsimp; rw [if_neg c, if_neg c2]; exact tG, _, _, rfl⟩
  · rintro σ G ⟨kp, sG, tG, o2, o3, rfl⟩
    rw [List.length_map, hlen, List.take_length] at tG
    exact ⟨_, rfl, q _ _ sG hl tG⟩
end
end K75R
set_option Elab.async false
set_option linter.all false
set_option maxRecDepth 100000
set_option maxHeartbeats 4000000
namespace K75R
open PySem PySem.Spec PyProof.Rows L2
section
variable {P : Program} {w : World} {K : PySem.W.Frag} {mg : Str → Option Value} {base : Heap}
open K75
/-- two lists of tuples behind each other, in any place that holds no tuple -/
theorem TupsAt.catAt {H : Hp} {a b q : Addr} {ts us : List (List V)} {xs zs : List V} (h : TupsAt H a ts) (hu : TupsAt H b us) (ea : H a = some (.lst xs)) (eb : H b = some (.lst zs)) (hq : ∀ u, H q ≠ some (.tup u)) : TupsAt (upd H q (.lst (xs ++ zs))) q (ts ++ us) := by
  obtain ⟨ps, h1, h2, h3⟩ := h
  obtain ⟨qs, k1, k2, k3⟩ := hu
  rw [h1] at ea
  rw [k1] at eb
  cases ea
  cases eb
  refine ⟨ps ++ qs, by rw [upd_same, List.map_append] <;> rfl, by simp [h2, k2], fun i p t q1 q2 => ?_⟩
  have nq : ∀ p u, H p = some (.tup u) → p ≠ q := fun p u e z => by subst z; exact hq _ e
  by_cases hi : i < ps.length
  · rw [List.getElem?_append_left hi] at q1
    rw [List.getElem?_append_left (by omega)] at q2
    have := h3 i p t q1 q2
    rw [upd_ne (nq _ _ this)]
    exact this
  · rw [List.getElem?_append_right (by omega)] at q1 q2
    rw [← h2] at q2
    have := k3 _ p t q1 q2
    rw [upd_ne (nq _ _ this)]
    exact this
/-- a comprehension with a filter whose items are new tuples -/
theorem lc_tupsF {J : It} {n : Nat} {G : Hp → Prop} {Y : Nat → Hp → V → Hp → Prop} (w : Walk J n G Y) {g : TG} {tt : TT} {te : TE} {vs : List Nat} {σ : L2.St} {H1 : Hp} {D : Addr} {Qd : Hp → Prop} (f : Nat → Option (List V)) (hn : n ≤ 1000000) (hD : H1 D = none)
    (hG : ∀ H, Same H1 H → G H)
    (hs : ∀ i x H H' (Ry : VK) (Rn : Hp → Prop), i < n → Same H1 H → Y i H x H' → (∀ p t H4, f i = some t → Same H H4 → H4 p = some (.tup t) → Ry (.ref p) H4) → (∀ H4, f i = none → Same H H4 → Rn H4) →
      g x (wipe σ vs) H' fun σ2 H2 => wipe σ2 vs = wipe σ vs ∧ tt σ2 H2 fun b H3 => if b = true then te σ2 H3 Ry else Rn H3)
    (hd : ∀ H, Same H1 H → TupsAt H D ((List.range n).filterMap f) → Qd H) :
    ∃ W : Nat → Nat → Hp → Prop, (∃ m, W 0 m (upd H1 D (.lst []))) ∧ ∀ i m H, W i m H →
      (J.stop i H ∧ Qd H) ∨ (J.go i H ∧ ∃ Nx : Hp → Prop, (∀ H', Nx H' → ∃ m', m' < m ∧ W (i + 1) m' H') ∧ ∀ x H', J.yld i H x H' → g x (wipe σ vs) H' fun σ2 H2 => wipe σ2 vs = wipe σ vs ∧ tt σ2 H2 fun b H3 =>
        if b = true then te σ2 H3 fun y H4 => ∃ acc, H4 D = some (.lst acc) ∧ acc.length < sizeLine ∧ Nx (upd H4 D (.lst (acc ++ [y]))) else Nx H3) := by
  have rs : ∀ i, (List.range (i + 1)).filterMap f = (List.range i).filterMap f ++ (match f i with | some y => [y] | none => []) := fun i => by
    rw [List.range_succ, List.filterMap_append]
    cases h : f i <;> simp [h]
  refine lc_it w (Pv := fun i H => Same H1 H ∧ TupsAt H D ((List.range i).filterMap f)) ⟨same_new hD, TupsAt.nil upd_same⟩ (fun i H _ h => hG H h.1) (fun i x H H' hi ⟨h1, h2⟩ y => ?_) fun H h => hd H h.1 h.2
  refine hs i x H H' _ _ hi h1 y (fun p t H4 e sm hp => ?_) fun H4 e sm => ?_
  · obtain ⟨xs, hx, hxl⟩ := h2.lst
    refine ⟨xs, sm _ _ hx, ?_, ?_, ?_⟩
    · rw [hxl]
      exact Nat.lt_of_le_of_lt (List.length_filterMap_le _ _) (by rw [List.length_range]; exact sz_lt (by omega))
    · intro b o hb
      rw [upd_ne (ne_of_none hb hD)]
      exact sm _ _ (h1 _ _ hb)
    · rw [rs, e]
      exact (h2.same sm).add (sm _ _ hx) hp
  · refine ⟨h1.trans sm, ?_⟩
    rw [rs, e, List.append_nil]
    exact h2.same sm
theorem negOf_snoc (w : List Int) (v : Int) : negOf (w ++ [v]) = negOf w ++ (if v < 0 then [0 - v] else []) := by
  unfold negOf
  rw [List.filter_append, List.map_append]
  congr 1
  by_cases h : v < 0
  · simp [h]
  · simp [h]
theorem negOf_len (w : List Int) : (negOf w).length ≤ w.length := by
  unfold negOf
  rw [List.length_map]
  exact List.length_filter_le _ _
def oneV (ys : List Int) (i : Nat) : Option (List V) := (ys[i]?).bind fun v => if 0 < v then some (runV (v, 1)) else none
theorem range_filter (ys : List Int) : (List.range ys.length).filterMap (oneV ys) = ((ys.filter fun v => decide (0 < v)).map fun u => (u, (1 : Int))).map runV := by
  unfold oneV
  rw [range_fm (fun v => if 0 < v then some (runV (v, 1)) else none) ys]
  induction ys with
  | nil => rfl
  | cons y ys ih =>
    by_cases h : 0 < y
    · simp [h, ih]
    · simp [h, ih]
def sp_far (K : PySem.W.Frag) : Sp := fun vs H Q _ => ∃ (a : Addr) (xs : List Int) (r : Rl) (n : Int) (es : List (Option Int)), vs = [.ref a, .int n] ∧ SysAt K H a xs r ∧ Tbl xs r es ∧ (topOf xs - 1) * (topOf xs - 1) < n ∧ n ≤ 10 ^ 30 ∧
  ((es[(n % topOf xs).toNat]?).join = none → ∀ H', Same H H' → Q .non H') ∧
  ∀ c, (es[(n % topOf xs).toNat]?).join = some c → ∀ H' l ws, Same H H' → H l = none → WordAt H' l ws → Good xs r ws → valF (signsF r ws) = n → szF (signsF r ws) = (n + c) / topOf xs → Q (.ref l) H'

theorem sc_far_word : FnScope ["system", "number", "pair", "signed", "parts", "value", "rest"] ["system", "number"] (defScope (top 42)) := ⟨rfl, rfl, rfl, by decide +kernel, rfl, by decide +kernel, by decide +kernel⟩
theorem R_far_word (T : Txt K mg) : FnR P w K mg base CX0 5 (ga K "far_word") (sp_far K) := by
  obtain ⟨fd, F⟩ := T.far_word.F
  have sc := sc_far_word
  refine Fun.raw F sc (fun vs H Q E h => ?_) (fun _ _ _ _ _ _ us hl => match us, hl with | [_, _], _ => rfl) (fun cdv A outer s H vs Q E hr h => ?_)
  · obtain ⟨_, _, _, _, _, rfl, _⟩ := h
    rfl
  obtain ⟨a, xs, r, n, es, rfl, hs, tb, nb, nt, qn, q⟩ := h
  refine ⟨_, (pss_cons
    (ps_set (i := 2) sc.nd rfl (by first | exact Or.inl rfl | exact Or.inr rfl) (pe_ix ix_list (cR T.cheapest_ways (R_cheapest_ways T) hr pass0 (pa_cons (pv 0) pa_nil)) (pe_op op_mod (pv 1) (pe_top T hr (pv 0))) (fun _ _ => rfl)))
    (pss_cons
    (ps_if (pt_cmpR op_isN (pv 2) pe_non (nomark _))
      (pss_one
      (ps_ret pe_non))
      pss_nil)
    (pss_cons
    (ps_set (i := 3) sc.nd rfl (by first | exact Or.inl rfl | exact Or.inr rfl) (pe_ix ix_tup (pv 2) pe_int (fun _ _ => rfl)))
    (pss_cons
    (ps_set (i := 4) sc.nd rfl (by first | exact Or.inl rfl | exact Or.inr rfl) (pe_lst pa_nil))
    (pss_cons
    (ps_for PassesOwn.never rfl (pi_list (pv 3)) (pg_name (i := 5) sc.nd rfl (by first | exact Or.inl rfl | exact Or.inr rfl))
      (pss_one
      (ps_if (pt_cmpR op_lt (pv 5) pe_int (nomark _))
        (pss_one
        (ps_expr (pe_bm PySem.F.plainAttrs_list PySem.F.slot_list_extend PySem.F.type_list_extend mt_extend (pv 4) (pa_cons (pe_lst (pa_cons (pe_tup (pa_cons (pe_op op_sub pe_int (pv 5)) (pa_cons pe_int pa_nil))) (pa_cons (pe_tup (pa_cons (pe_top T hr (pv 0)) (pa_cons pe_int pa_nil))) pa_nil))) pa_nil))))
        pss_nil)))
    (pss_cons
    (ps_set (i := 6) sc.nd rfl (by first | exact Or.inl rfl | exact Or.inr rfl) (pe_op op_sub (pe_op op_sub (pv 1) (pe_callB (cr_sum rfl) (by rfl) T.b_sum bt_sum (pa_cons (pv 3) pa_nil))) (pe_op op_mul (pe_top T hr (pv 0)) (pe_op op_fdivW (pe_callB call_len_seq (by rfl) T.b_len bt_len (pa_cons (pv 4) pa_nil)) pe_int))))
    (pss_cons
    (ps_expr (pe_bm PySem.F.plainAttrs_list PySem.F.slot_list_append PySem.F.type_list_append mt_append (pv 4) (pa_cons (pe_tup (pa_cons (pe_top T hr (pv 0)) (pa_cons (pe_op op_fdivW (pv 6) (pe_top T hr (pv 0))) pa_nil))) pa_nil)))
    (pss_one
    (ps_ret (cR T.runs_of (R_runs_of T) hr pass0 (pa_cons (pe_op op_cat (pv 4) (pe_lc (own := [("value", 5)]) (by rfl) sc.nd (pi_list (pe_revL (pe_callB cr_sortedI (by rfl) T.b_sorted bt_sorted (pa_cons (pv 3) pa_nil)))) (blkOk_by (N := ["system", "number", "pair", "signed", "parts", "value", "rest"]) (sc := defScope (top 42)) (own := [("value", 5)]) (by decide +kernel)) (fun _ _ _ _ _ => (pg_name (i := 5) sc.nd rfl (by first | exact Or.inl rfl | exact Or.inr rfl))) (fun _ _ _ _ _ => (pts_one (pt_cmpR op_gt (pv 5) pe_int (nomark _)))) (fun _ _ _ _ _ => (pe_tup (pa_cons (pv 5) (pa_cons pe_int pa_nil)))))) pa_nil))))))))))), ?_⟩
  have tp := hs.ok.top
  have hV : 0 < topOf xs := by omega
  refine ⟨_, rfl, a, xs, r, rfl, hs, fun H1 f ws s1 hf hw wg => ⟨_, rfl, _, rfl, (hs.same s1).tTop ⟨_, _, rfl, rfl, hV, ?_⟩⟩⟩
  have m0 := Int.emod_nonneg n (show topOf xs ≠ 0 by omega)
  have m1 := Int.emod_lt_of_pos n hV
  generalize hj : (n % topOf xs).toNat = j at qn q
  have hji : ((j : Nat) : Int) = n % topOf xs := by omega
  have hjV : j < (topOf xs).toNat := by omega
  have ue : cOf ws j = (es[j]?).join := wg.2.uniq tb.2 hjV
  obtain ⟨e, he⟩ : ∃ e, ws[j]? = some e := ⟨_, List.getElem?_eq_getElem (by rw [wg.1.len]; exact hjV)⟩
  obtain ⟨vals, v, hvals, hvl, hv, hent⟩ := hw.get he
  refine ⟨f, _, _, _, rfl, rfl, sqL hvals, (by rw [← hji]; exact atI_nat hv), ?_⟩
  cases e with
  | none =>
    obtain rfl : v = .non := hent
    refine ⟨_, rfl, rfl, true, rfl, iteT ?_⟩
    exact qn (by rw [← ue]; exact cOf_none he) _ s1
  | some e =>
    obtain ⟨c, way⟩ := e
    obtain ⟨p, q1, rfl, hp, hq1, _, _⟩ := hent
    have ec : (es[j]?).join = some c := by rw [← ue]; exact cOf_some he
    obtain ⟨st, hst, hsum, hcost, rfl⟩ := wg.1.walk j c way he
    have q := q c ec
    have hlen : st.length < (topOf xs).toNat := by
      refine short_of_least hV (fun s hs' => ?_) hst fun w' hw' e' => ?_
      · exact (steps_pos hs.ok s hs').1
      · rw [hcost]
        exact (tb.2.some_ j c hjV ec).2 w' hw' (by rw [e', hsum])
    have hl60 : st.length < 60 := by omega
    have hres : wsum st % topOf xs = n % topOf xs := by rw [hsum, hji]
    generalize hway : st.map Prod.fst = way at *
    have hwl : way.length = st.length := by rw [← hway, List.length_map]
    refine ⟨_, rfl, rfl, false, rfl, iteF ⟨_, rfl, p, _, 1, _, rfl, rfl, sqT hp, rfl, ?_⟩⟩
    refine ⟨by simp [sizeLine_eq], fun l hl => ?_⟩
    have sl := s1.trans (same_new (o := .lst []) hl)
    have hq2 := (same_new (o := .lst []) hl) _ _ hq1
    have q1l : q1 ≠ l := ne_of_none hq1 hl
    have hlH : H l = none := s1.free hl
    refine ⟨_, rfl, q1, rfl, ⟨_, sqL hq2⟩, for_it walk_list (fun i σ G => (∀ b o, (upd H1 l (.lst [])) b = some o → b ≠ l → G b = some o) ∧ Same H G ∧ TupsAt G l ((negP (topOf xs) (negOf (way.take i))).map runV) ∧ ∃ o5 o6, σ = [some (V.ref a), some (V.int n), some (V.ref p), some (V.ref q1), some (V.ref l), o5, o6]) ⟨fun _ _ z _ => z, sl, TupsAt.nil upd_same, _, _, rfl⟩ (fun i σ G _ z => sqL (z.1 _ _ hq2 q1l)) ?_ ?_⟩
    · rintro i y σ G0 G hi ⟨kp, sG, tG, o5, o6, rfl⟩ ⟨rfl, hy⟩
      obtain ⟨v, hv, rfl⟩ := mapI hy
      have tk : way.take (i + 1) = way.take i ++ [v] := by rw [List.take_add_one, hv] <;> rfl
      obtain ⟨ls, hls, hlsl⟩ := tG.lst
      have nl := negP_len (topOf xs) (negOf (way.take i))
      have nl2 := negOf_len (way.take i)
      rw [List.length_take] at nl2
      rw [List.length_map] at hlsl
      refine ⟨_, rfl, _, _, rfl, rfl, _, rfl, ite2 (fun cc => ?_) (fun cc => ?_)⟩
      · have cc := of_decide_eq_true cc
        refine ⟨_, rfl, .inl ⟨rfl, _, sqL hls⟩, _, rfl, _, _, rfl, rfl, by simp [sizeLine_eq], fun t1 ht1 => ⟨_, rfl, (hs.same (sG.trans (same_new ht1))).tTop ⟨by simp [sizeLine_eq], fun t2 ht2 => ⟨by simp [sizeLine_eq], fun b hb => ?_⟩⟩⟩⟩
        have s12 := ((same_new (o := .tup [V.int (0 - v), V.int 1]) ht1).trans (same_new (o := .tup [V.int (topOf xs), V.int 1]) ht2)).trans (same_new (o := .lst [V.ref t1, V.ref t2]) hb)
        refine ⟨l, b, ls, _, rfl, rfl, s12 _ _ hls, upd_same, by rw [hlsl, nl]; exact sz_le (by simp; omega), ?_⟩
        have tb2 : TupsAt (upd (upd (upd G t1 (.tup [V.int (0 - v), V.int 1])) t2 (.tup [V.int (topOf xs), V.int 1])) b (.lst [V.ref t1, V.ref t2])) b [runV (0 - v, 1), runV (topOf xs, 1)] := by
          refine ⟨[t1, t2], upd_same, rfl, fun i p t e1 e2 => ?_⟩
          match i, e1, e2 with
          | 0, e1, e2 =>
            cases e1
            cases e2
            exact (same_new hb) _ _ ((same_new ht2) _ _ upd_same)
          | 1, e1, e2 =>
            cases e1
            cases e2
            exact (same_new hb) _ _ upd_same
        refine ⟨fun x o z1 z2 => by rw [upd_ne z2]; exact s12 _ _ (kp x o z1 z2), same_put (sG.trans s12) hlH, ?_, _, _, rfl⟩
        rw [tk, negOf_snoc, if_pos cc, negP_snoc, List.map_append]
        exact (tG.same s12).catAt tb2 (s12 _ _ hls) upd_same fun u z => by rw [s12 _ _ hls] at z; cases z
      · have cc : ¬ v < 0 := by simpa using cc
        exact ⟨kp, sG, by rw [tk, negOf_snoc, if_neg cc, List.append_nil]; exact tG, _, _, rfl⟩
    · rintro σ G ⟨kp, sG, tG, o5, o6, rfl⟩
      rw [List.length_map, List.take_length] at tG
      obtain ⟨ls, hls, hlsl⟩ := tG.lst
      have hw1 := kp _ _ hq2 q1l
      have nl := negP_len (topOf xs) (negOf way)
      have nl2 := negOf_len way
      rw [List.length_map, nl] at hlsl
      have hdiv : ((ls.length : Nat) : Int) / 2 = ((negOf way).length : Nat) := by omega
      have htop : (topOf xs).natAbs < 2 ^ 6 := by omega
      refine ⟨_, rfl, _, rfl, q1, _, rfl, sqL hw1, _, _, rfl, rfl, _, rfl, (hs.same sG).tTop ⟨_, rfl, l, ls, rfl, .inl (sqL hls), _, _, rfl, rfl, wide_div (b := 2) (by decide) (by decide) (by decide) (by decide), _, _, rfl, rfl, ?cm, _, _, rfl, rfl, ?_⟩⟩
      case cm => exact .inl ⟨by omega, by omega⟩
      rw [hdiv]
      refine ⟨_, rfl, .inl ⟨rfl, _, sqL hls⟩, _, rfl, (hs.same sG).tTop ⟨_, rfl, _, rfl, (hs.same sG).tTop ⟨_, _, rfl, rfl, wide_div (b := 6) hV htop (by decide) (by decide), by simp [sizeLine_eq], fun t ht => ?_⟩⟩⟩
      have s2 := sG.trans (same_new (o := .tup [V.int (topOf xs), V.int ((n - way.sum - topOf xs * (negOf way).length) / topOf xs)]) ht)
      refine ⟨l, ls, _, rfl, rfl, (same_new ht) _ _ hls, by rw [hlsl]; exact sz_lt (by omega), ?_⟩
      have tA := tG.push hls ht (t := runV (topOf xs, (n - way.sum - topOf xs * (negOf way).length) / topOf xs))
      have hq3 : (upd (upd G t (.tup [V.int (topOf xs), V.int ((n - way.sum - topOf xs * (negOf way).length) / topOf xs)])) l (.lst (ls ++ [V.ref t]))) q1 = some (.lst (way.map V.int)) := by rw [upd_ne q1l]; exact (same_new ht) _ _ hw1
      have s3 : Same H (upd (upd G t (.tup [V.int (topOf xs), V.int ((n - way.sum - topOf xs * (negOf way).length) / topOf xs)])) l (.lst (ls ++ [V.ref t]))) := same_put s2 hlH
      have hl3 : (upd (upd G t (.tup [V.int (topOf xs), V.int ((n - way.sum - topOf xs * (negOf way).length) / topOf xs)])) l (.lst (ls ++ [V.ref t]))) l = some (.lst (ls ++ [V.ref t])) := upd_same
      dsimp only
      generalize hq0 : (n - way.sum - topOf xs * (negOf way).length) / topOf xs = qq at *
      change TupsAt (upd (upd G t (.tup [V.int (topOf xs), V.int qq])) l (.lst (ls ++ [V.ref t]))) l _ at tA
      generalize (upd (upd G t (.tup [V.int (topOf xs), V.int qq])) l (.lst (ls ++ [V.ref t]))) = G3 at tA hq3 s3 hl3
      refine ⟨_, rfl, _, rfl, q1, way, rfl, sqL hq3, fun ns' d pm pw hd => ⟨d, _, rfl, sqL upd_same, fun d2 hd2 => ?_⟩⟩
      have s5 := (same_new (o := .lst (ns'.map V.int)) hd).trans (same_new (o := .lst (ns'.map V.int).reverse) hd2)
      have erev : (ns'.map V.int).reverse = ns'.reverse.map V.int := by rw [List.map_reverse]
      rw [erev] at s5 ⊢
      have h5 : (upd (upd G3 d (.lst (ns'.map V.int))) d2 (.lst (ns'.reverse.map V.int))) d2 = some (.lst (ns'.reverse.map V.int)) := upd_same
      generalize (upd (upd G3 d (.lst (ns'.map V.int))) d2 (.lst (ns'.reverse.map V.int))) = G5 at s5 h5
      have nsl : ns'.length = way.length := pm.length_eq
      refine ⟨d2, rfl, ⟨_, sqL h5⟩, fun D hD => lc_tupsF walk_list (oneV ns'.reverse) (by simp; omega) hD (fun H h => sqL (h _ _ h5)) (fun i y H2 H' Ry Rn hi h1 yy ky kn => ?_) (fun H2 s6 h2 => ?_)⟩
      · obtain ⟨rfl, hy⟩ := yy
        obtain ⟨v, hv, rfl⟩ := mapI hy
        refine ⟨rfl, _, rfl, _, _, rfl, rfl, _, rfl, ?_⟩
        by_cases cc : 0 < v
        · rw [decide_eq_true cc]
          exact iteT ⟨_, rfl, by simp [sizeLine_eq], fun u hu => ky u _ _ (by unfold oneV; rw [hv]; exact if_pos cc) (same_new hu) upd_same⟩
        · rw [decide_eq_false cc]
          exact iteF (kn _ (by unfold oneV; rw [hv]; exact if_neg cc) (Same.refl _))
      · rw [show (ns'.reverse.map V.int).length = ns'.reverse.length by rw [List.length_map], range_filter] at h2
        obtain ⟨zs, hzs, hzl⟩ := h2.lst
        generalize hus : (ns'.reverse.filter fun v => decide (0 < v)) = us at *
        have ul : us.length ≤ way.length := by
          rw [← hus]
          refine Nat.le_trans (List.length_filter_le _ _) (by rw [List.length_reverse, nsl]; exact Nat.le_refl _)
        rw [List.length_map, List.length_map] at hzl
        have hl6 := s6 _ _ (s5 _ _ hl3)
        have tA6 := (tA.same s5).same s6
        refine ⟨l, D, _, _, rfl, rfl, hl6, hzs, sz_le (by simp [hlsl, hzl]; omega), fun q2 hq2' => ?_⟩
        have tB := tA6.catAt h2 hl6 hzs (q := q2) fun u z => by rw [hq2'] at z; cases z
        refine ⟨q2, negP (topOf xs) (negOf way) ++ [(topOf xs, qq)] ++ us.map (fun u => (u, 1)), rfl, ?_, by simp [nl]; omega, fun H7 l7 s7 hl7 t7 => ?_⟩
        · rw [List.map_append, List.map_append]
          exact tB
        have s67 := ((s3.trans s5).trans s6).trans (same_new (o := .lst (ls ++ [V.ref t] ++ zs)) hq2')
        have pus : us.Perm (posOf way) := by
          rw [← hus]
          exact ((List.reverse_perm ns').trans pm).filter _
        have pwu : us.Pairwise fun a b => b ≤ a := by
          rw [← hus]
          exact (List.pairwise_reverse.mpr pw).filter _
        obtain ⟨g1, g2, g3⟩ := far_word_ok hs.ok hst hres hlen nb (us := us) (by rw [hway]; exact pus) pwu qq (by rw [hway]; exact hq0.symm)
        rw [hway] at g1 g2 g3
        rw [hcost] at g3
        exact q H7 l7 _ (s67.trans s7) (s67.free hl7) t7 g1 g2 g3
end
end K75R
set_option Elab.async false
set_option linter.all false
set_option maxRecDepth 100000
set_option maxHeartbeats 4000000
namespace K75R
open PySem PySem.Spec PyProof.Rows L2
section
variable {P : Program} {w : World} {K : PySem.W.Frag} {mg : Str → Option Value} {base : Heap}
open K75
/-- an expression that is never reached -/
theorem pe_never {X : Cx} {e : Expr} : PE X e (fun _ _ _ => False) := ⟨fun _ _ _ _ _ _ h => h.elim⟩
def sp_shortest (K : PySem.W.Frag) : Sp := fun vs H Q E => ∃ (a : Addr) (xs : List Int) (r : Rl) (n : Int) (es : List (Option Int)), vs = [.ref a, .int n] ∧ SysAt K H a xs r ∧ Tbl xs r es ∧ (topOf xs - 1) * (topOf xs - 1) < n ∧ n ≤ 10 ^ 30 ∧
  ((es[(n % topOf xs).toNat]?).join = none → ∀ H', Same H H' → E (.ref (ga K "NoWord")) none H') ∧
  ∀ c, (es[(n % topOf xs).toNat]?).join = some c → ∀ H' l ws, Same H H' → H l = none → WordAt H' l ws → Good xs r ws → valF (signsF r ws) = n → szF (signsF r ws) = (n + c) / topOf xs → Q (.ref l) H'

theorem sc_shortest : FnScope ["system", "number", "found"] ["system", "number"] (defScope (top 44)) := ⟨rfl, rfl, rfl, by decide +kernel, rfl, by decide +kernel, by decide +kernel⟩
theorem R_shortest (T : Txt K mg) : FnR P w K mg base (L2.CX P w) 6 (ga K "shortest") (sp_shortest K) := by
  obtain ⟨fd, F⟩ := T.shortest.F
  have sc := sc_shortest
  refine Fun.rawX F sc (fun vs H Q E h => ?_) (fun _ _ _ _ _ _ us hl => match us, hl with | [_, _], _ => rfl) (fun cdv A outer s H vs Q E hr h => ?_)
  · obtain ⟨_, _, _, _, _, rfl, _⟩ := h
    rfl
  obtain ⟨a, xs, r, n, es, rfl, hs, tb, nb, nt, qn, q⟩ := h
  refine ⟨_, (pss_cons
    (ps_expr (cR T.check_number (R_check_number T) hr pass0 (pa_cons (pv 1) pa_nil)))
    (pss_cons
    (ps_set (i := 2) sc.nd rfl (by first | exact Or.inl rfl | exact Or.inr rfl) (pe_ifExp (pt_cmpR op_gt (pv 1) (cR T.bound_of (R_bound_of T) hr pass0 (pa_cons (pv 0) pa_nil)) (nomark _)) (cR T.far_word (R_far_word T) hr pass0 (pa_cons (pv 0) (pa_cons (pv 1) pa_nil))) pe_never))
    (pss_cons
    (ps_if (pt_cmpR op_isN (pv 2) pe_non (nomark _))
      (pss_one
      (ps_raise (W := fun cls d _ H => E cls d H) rfl (takes_of rfl rfl rfl rfl) (pmk_own PySem.F.excBase_ValueError T.NoWord.ex T.NoWord.g T.NoWord.kp (raises_own T.NoWord.sub T.NoWord.ty) rfl)))
      pss_nil)
    (pss_one
    (ps_ret (pv 2)))))), ?_⟩
  have tp := hs.ok.top
  have nn : 0 ≤ (topOf xs - 1) * (topOf xs - 1) := Int.mul_nonneg (by omega) (by omega)
  refine ⟨_, rfl, n, rfl, by omega, nt, ?_⟩
  refine ⟨_, rfl, _, rfl, a, xs, r, rfl, hs, _, _, rfl, rfl, _, rfl, ?_⟩
  rw [decide_eq_true nb]
  refine iteT ⟨_, rfl, _, rfl, a, xs, r, n, es, rfl, hs, tb, nb, nt, fun e H' s1 => ?_, fun c e H' l ws s1 hl hw g v z => ?_⟩
  · refine ⟨_, rfl, rfl, true, rfl, iteT ?_⟩
    exact qn e H' s1
  · refine ⟨_, rfl, rfl, false, rfl, iteF ⟨_, rfl, ?_⟩⟩
    exact q c e H' l ws s1 hl hw g v z
end
end K75R
set_option Elab.async false
set_option linter.all false
set_option maxRecDepth 100000
set_option maxHeartbeats 4000000
namespace K75R
open PySem PySem.Spec PyProof.Rows L2
section
variable {P : Program} {w : World} {K : PySem.W.Frag} {mg : Str → Option Value} {base : Heap}
open K75
def sp_entry : Sp := fun vs H Q _ => ∃ o : Option Int, vs = [optV o] ∧ Q (.bl true) H
/-- a step never leads out of the table -/
theorem isG_step {S : List K75.Step} {V : Int} {c : Nat → Option Int} (h : IsG S V c) (hV : 0 < V) {i : Nat} (hi : i < V.toNat) {x : Int} (e : c i = some x) {s : K75.Step} (hs : s ∈ S) : ∃ y, c ((((i : Int) + s.1) % V).toNat) = some y ∧ y ≤ x + s.2 := by
  obtain ⟨⟨w, hw, hr, hc⟩, _⟩ := h.some_ i x hi e
  have m0 := Int.emod_nonneg ((i : Int) + s.1) (show V ≠ 0 by omega)
  have m1 := Int.emod_lt_of_pos ((i : Int) + s.1) hV
  generalize hj : (((i : Int) + s.1) % V).toNat = j
  have hji : ((j : Nat) : Int) = ((i : Int) + s.1) % V := by omega
  have hw' : In S (w ++ [s]) := fun t ht => by
    rcases List.mem_append.mp ht with h1 | h1
    · exact hw t h1
    · rw [List.mem_singleton.mp h1]; exact hs
  have hsum : wsum (w ++ [s]) % V = (j : Int) := by
    rw [hji, ← hr]
    unfold wsum
    rw [List.map_append, List.sum_append]
    simp
  have hcost : wcost (w ++ [s]) = x + s.2 := by
    rw [← hc]
    unfold wcost
    rw [List.map_append, List.sum_append]
    simp
  cases ej : c j with
  | none => exact absurd hsum (h.none_ j (by omega) ej _ hw')
  | some y => exact ⟨y, rfl, by rw [← hcost]; exact (h.some_ j y (by omega) ej).2 _ hw' hsum⟩
theorem isG_zero {S : List K75.Step} {V : Int} {c : Nat → Option Int} (h : IsG S V c) (hV : 0 < V) (hp : ∀ s ∈ S, 0 ≤ s.2) : c 0 = some 0 := by
  have hn : In S [] := fun s hs => by cases hs
  cases e : c 0 with
  | none => exact absurd (show wsum [] % V = ((0 : Nat) : Int) by simp [wsum]) (h.none_ 0 (by omega) e _ hn)
  | some x =>
    obtain ⟨⟨w, hw, _, hc⟩, hl⟩ := h.some_ 0 x (by omega) e
    have h1 := hl [] hn (by simp [wsum])
    have h2 : 0 ≤ wcost w := by
      unfold wcost
      have : ∀ l : List Int, (∀ y ∈ l, 0 ≤ y) → 0 ≤ l.sum := fun l => by
        induction l with
        | nil => intro _; simp
        | cons y l ih =>
          intro h
          have := h y (by simp)
          have := ih fun z hz => h z (by simp [hz])
          simp only [List.sum_cons]
          omega
      refine this _ fun y hy => ?_
      obtain ⟨s, hs, rfl⟩ := List.mem_map.mp hy
      exact hp s (hw s hs)
    have : wcost [] = 0 := rfl
    congr 1
    omega
def sp_shows (K : PySem.W.Frag) : Sp := fun vs H Q _ => ∃ (a t : Addr) (xs : List Int) (r : Rl) (n z c : Int) (es : List (Option Int)), vs = [.ref a, .int n, .int z, .ref t] ∧ SysAt K H a xs r ∧ Tbl xs r es ∧ H t = some (.lst (es.map optV)) ∧
  1 ≤ n ∧ n ≤ 10 ^ 30 ∧ 1 ≤ z ∧ z ≤ 10 ^ 30 ∧ (es[(n % topOf xs).toNat]?).join = some c ∧ ∀ H', Same H H' → Q (.bl (decide (topOf xs * (z - 1) - n + 1 ≤ c))) H'

theorem sc_is_entry : FnScope ["thing"] ["thing"] (defScope (top 45)) := ⟨rfl, rfl, rfl, by decide +kernel, rfl, by decide +kernel, by decide +kernel⟩
theorem R_is_entry (T : Txt K mg) : FnR P w K mg base CX0 1 (ga K "is_entry") sp_entry := by
  obtain ⟨fd, F⟩ := T.is_entry.F
  have sc := sc_is_entry
  refine Fun.raw F sc (fun vs H Q E h => ?_) (fun _ _ _ _ _ _ us hl => match us, hl with | [_], _ => rfl) (fun cdv A outer s H vs Q E hr h => ?_)
  · obtain ⟨_, rfl, _⟩ := h
    rfl
  obtain ⟨o, rfl, q⟩ := h
  refine ⟨_, (pss_one
    (ps_ret (pe_or (pe_cmpR op_isN (pv 0) pe_non (nomark _)) (pe_one (pe_and (pe_callB call_isB (by rfl) T.b_isinstance bt_isinstance (pa_cons (pv 0) (pa_cons (pe_ty "int" T.b_int bt_int) pa_nil))) (pe_one (pe_not (pe_callB call_isB (by rfl) T.b_isinstance bt_isinstance (pa_cons (pv 0) (pa_cons (pe_ty "bool" T.b_bool bt_bool) pa_nil)))))))))), ?_⟩
  cases o with
  | none => exact ⟨_, rfl, rfl, true, rfl, iteT q⟩
  | some i =>
    refine ⟨_, rfl, rfl, false, rfl, iteF ?_⟩
    refine ⟨_, rfl, _, _, "int", true, rfl, .base (.int _), kii, true, rfl, iteT ?_⟩
    exact ⟨_, rfl, _, _, "int", false, rfl, .base (.int _), kib, false, rfl, q⟩

theorem sc_shows_bound : FnScope ["system", "number", "size", "table", "cost", "residue", "signed", "price", "later", "entry"] ["system", "number", "size", "table"] (defScope (top 46)) := ⟨rfl, rfl, rfl, by decide +kernel, rfl, by decide +kernel, by decide +kernel⟩
theorem R_shows_bound (T : Txt K mg) : FnR P w K mg base CX0 4 (ga K "shows_bound") (sp_shows K) := by
  obtain ⟨fd, F⟩ := T.shows_bound.F
  have sc := sc_shows_bound
  refine Fun.raw F sc (fun vs H Q E h => ?_) (fun _ _ _ _ _ _ us hl => match us, hl with | [_, _, _, _], _ => rfl) (fun cdv A outer s H vs Q E hr h => ?_)
  · obtain ⟨_, _, _, _, _, _, _, _, rfl, _⟩ := h
    rfl
  obtain ⟨a, t, xs, r, n, z, c, es, rfl, hs, tb, ht, n0, n1, z0, z1, ec, q⟩ := h
  refine ⟨_, (pss_cons
    (ps_expr (cR T.check_number (R_check_number T) hr pass0 (pa_cons (pv 1) pa_nil)))
    (pss_cons
    (ps_if (pt_not (pt_val (cR T.is_integer_shortest (R_is_integer_shortest T) hr pass0 (pa_cons (pv 2) (pa_cons pe_int (pa_cons (pe_gint T.c_MOST) pa_nil))))))
      (pss_one
      ps_never)
      pss_nil)
    (pss_cons
    (ps_if (PW.pt (pw_or (pt_not (pt_val (pe_callB call_isB (by rfl) T.b_isinstance bt_isinstance (pa_cons (pv 3) (pa_cons (pe_ty "list" T.b_list bt_list) pa_nil))))) (pw_or (pt_cmpR op_ne (pe_callB call_len_seq (by rfl) T.b_len bt_len (pa_cons (pv 3) pa_nil)) (pe_top T hr (pv 0)) (nomark _)) (pw_or1 (pt_not (pt_val (pe_callB (cr_all rfl) (by rfl) T.b_all bt_all (pa_cons (pe_lc (own := [("entry", 9)]) (by rfl) sc.nd (pi_list (pv 3)) (blkOk_by (N := ["system", "number", "size", "table", "cost", "residue", "signed", "price", "later", "entry"]) (sc := defScope (top 46)) (own := [("entry", 9)]) (by decide +kernel)) (fun _ _ _ _ _ => (pg_name (i := 9) sc.nd rfl (by first | exact Or.inl rfl | exact Or.inr rfl))) (fun _ _ _ _ _ => pts_nil) (fun _ _ _ _ _ => (cR T.is_entry (R_is_entry T) hr pass0 (pa_cons (pv 9) pa_nil)))) pa_nil))))))))
      (pss_one
      (ps_ret pe_bl))
      pss_nil)
    (pss_cons
    (ps_if (PW.pt (pw_or (pt_cmpR op_isN (pe_ix ix_list (pv 3) pe_int (fun _ _ => rfl)) pe_non (nomark _)) (pw_or1 (pt_cmpR op_ne (pe_ix ix_list (pv 3) pe_int (fun _ _ => rfl)) pe_int (nomark _)))))
      (pss_one
      (ps_ret pe_bl))
      pss_nil)
    (pss_cons
    (ps_for PassesOwn.never rfl (pi_enum (by rfl) T.b_enumerate (pa_cons (pv 3) pa_nil)) (pg_tup (by rfl) (pgs_cons (pg_name (i := 5) sc.nd rfl (by first | exact Or.inl rfl | exact Or.inr rfl)) (pgs_cons (pg_name (i := 4) sc.nd rfl (by first | exact Or.inl rfl | exact Or.inr rfl)) pgs_nil)))
      (pss_one
      (ps_if (pt_cmpR op_notN (pv 4) pe_non (nomark _))
        (pss_one
        (ps_for PassesOwn.never rfl (pi_list (cR T.steps_of (R_steps_of T) hr pass0 (pa_cons (pv 0) pa_nil))) (pg_tup (by rfl) (pgs_cons (pg_name (i := 6) sc.nd rfl (by first | exact Or.inl rfl | exact Or.inr rfl)) (pgs_cons (pg_name (i := 7) sc.nd rfl (by first | exact Or.inl rfl | exact Or.inr rfl)) pgs_nil)))
          (pss_cons
          (ps_set (i := 8) sc.nd rfl (by first | exact Or.inl rfl | exact Or.inr rfl) (pe_ix ix_list (pv 3) (pe_op op_mod (pe_op op_add (pv 5) (pv 6)) (pe_top T hr (pv 0))) (fun _ _ => rfl)))
          (pss_one
          (ps_if (PW.pt (pw_or (pt_cmpR op_isN (pv 8) pe_non (nomark _)) (pw_or1 (pt_cmpR op_gt (pv 8) (pe_op op_add (pv 4) (pv 7)) (nomark _)))))
            (pss_one
            (ps_ret pe_bl))
            pss_nil)))))
        pss_nil)))
    (pss_cons
    (ps_set (i := 4) sc.nd rfl (by first | exact Or.inl rfl | exact Or.inr rfl) (pe_ix ix_list (pv 3) (pe_op op_mod (pv 1) (pe_top T hr (pv 0))) (fun _ _ => rfl)))
    (pss_one
    (ps_ret (pe_or (pe_cmpR op_isN (pv 4) pe_non (nomark _)) (pe_one (pe_cmpR op_ge (pv 4) (pe_op op_add (pe_op op_sub (pe_op op_mul (pe_top T hr (pv 0)) (pe_op op_sub (pv 2) pe_int)) (pv 1)) pe_int) (nomark _)))))))))))), ?_⟩
  have tp := hs.ok.top
  have hV : 0 < topOf xs := by omega
  have hel : es.length = (topOf xs).toNat := tb.1
  refine ⟨_, rfl, n, rfl, n0, n1, ?_⟩
  refine ⟨_, rfl, z, 1, 10 ^ 30, rfl, ?_⟩
  rw [decide_eq_true (show (1 : Int) ≤ z ∧ z ≤ 10 ^ 30 from ⟨z0, z1⟩)]
  refine ⟨true, rfl, iteF ?_⟩
  refine ⟨_, rfl, _, "list", "list", true, rfl, .base (.lst ht), kll, true, rfl, iteF ?_⟩
  have e0 : (!decide (V.int ((es.map optV).length : Int) = V.int (topOf xs))) = false := by
    have : ((es.map optV).length : Int) = topOf xs := by rw [List.length_map, hel]; omega
    rw [this]
    simp
  refine ⟨_, rfl, t, _, rfl, .inl (sqL ht), _, rfl, hs.tTop ⟨rfl, _, rfl, ?_⟩⟩
  rw [e0]
  refine iteF ⟨_, rfl, t, rfl, ⟨_, sqL ht⟩, fun D hD => lc_map walk_list (es.map fun _ => V.bl true) (by simp) (by simp; omega) hD (fun H h => h.seq (sqL ht)) (fun i x H1 H' Ry hi h1 y ky => ?_) (fun H1 s1 h1 => ?_)⟩
  · obtain ⟨rfl, hx⟩ := y
    obtain ⟨o, ho, rfl⟩ := mapI hx
    exact ⟨rfl, _, rfl, o, rfl, ky _ _ (by simp [ho]) (Same.refl _)⟩
  refine ⟨D, es.map fun _ => true, rfl, sqL (by rw [h1, List.map_map] <;> rfl), _, rfl, ite2 (fun z => ?_) fun _ => ?_⟩
  · exact absurd z (by simp)
  have hs := hs.same s1
  have ht := s1 _ _ ht
  have G0 : (es[0]?).join = some 0 := isG_zero tb.2 hV fun s hs' => by have := (steps_pos hs.ok s hs').1; omega
  obtain ⟨o0, eo, rfl⟩ : ∃ o0, es[0]? = some o0 ∧ o0 = some 0 := by
    cases e : es[0]? with
    | none => rw [e] at G0; cases G0
    | some o => rw [e] at G0; exact ⟨o, rfl, G0⟩
  have gt : ∀ (i : Nat) (o : Option Int), es[i]? = some o → atI (es.map optV) (i : Int) = some (optV o) := fun i o e => atI_nat (by rw [List.getElem?_map, e] <;> rfl)
  have g0 := gt 0 _ eo
  refine ⟨_, rfl, t, _, 0, _, rfl, rfl, sqL ht, g0, rfl, false, rfl, iteF ⟨_, rfl, t, _, 0, _, rfl, rfl, sqL ht, g0, rfl, false, rfl, iteF ?_⟩⟩
  refine ⟨_, rfl, t, _, rfl, sqL ht, for_it walk_enum (fun i σ G => Same H1 G ∧ ∃ o4 o5 o6 o7 o8, σ = [some (V.ref a), some (V.int n), some (V.int z), some (V.ref t), o4, o5, o6, o7, o8, none]) ⟨Same.refl _, _, _, _, _, _, rfl⟩ (fun i σ G _ h => h.1.seq (sqL ht)) ?_ ?_⟩
  · rintro i y σ G0 G hi ⟨sG, o4, o5, o6, o7, o8, rfl⟩ yy
    obtain ⟨T', y1, y2, rfl, hT, rfl, e1, e2⟩ := yy
    cases e1
    obtain ⟨o, ho, rfl⟩ := mapI e2
    have hi' : i < (topOf xs).toNat := by have := (List.getElem?_eq_some_iff.mp ho).1; omega
    have sN := sG.trans (same_new (o := .tup [V.int (i : Nat), optV o]) hT)
    refine ⟨T', _, rfl, sqT upd_same, rfl, _, _, rfl, _, _, rfl, rfl, ?_⟩
    generalize (upd G0 T' (.tup [V.int (i : Nat), optV o])) = G at sN
    cases o with
    | none => exact ⟨_, rfl, rfl, false, rfl, iteF ⟨sN, _, _, _, _, _, rfl⟩⟩
    | some x =>
      have ex : (es[i]?).join = some x := by rw [ho] <;> rfl
      refine ⟨_, rfl, rfl, true, rfl, iteT ?_⟩
      refine ⟨_, rfl, a, xs, r, rfl, hs.same sN, fun Hs ls ss hnls hts => ?_⟩
      obtain ⟨pl, hpl, hpll, hpli⟩ := hts
      have sS := sN.trans ss
      refine ⟨ls, rfl, ⟨_, sqL hpl⟩, for_it walk_list (fun k σ G3 => Same Hs G3 ∧ ∃ o6 o7 o8, σ = [some (V.ref a), some (V.int n), some (V.int z), some (V.ref t), some (V.int x), some (V.int (i : Nat)), o6, o7, o8, none]) ⟨Same.refl _, _, _, _, rfl⟩ (fun k σ G3 _ h => sqL (h.1 _ _ hpl)) ?_ ?_⟩
      · rintro k y σ G3' G3 hk ⟨s3, o6, o7, o8, rfl⟩ ⟨rfl, hy⟩
        obtain ⟨ps, s, rfl, hsk, hps⟩ := TupsAt.item hpll hpli hy
        have hsm : s ∈ stepsOf xs r := List.mem_of_getElem? hsk
        have s13 := sS.trans s3
        obtain ⟨y, ey, ley⟩ := isG_step tb.2 hV hi' ex hsm
        have m0 := Int.emod_nonneg ((i : Int) + s.1) (show topOf xs ≠ 0 by omega)
        obtain ⟨oy, eoy, rfl⟩ : ∃ o0, es[(((i : Int) + s.1) % topOf xs).toNat]? = some o0 ∧ o0 = some y := by
          cases e : es[(((i : Int) + s.1) % topOf xs).toNat]? with
          | none => rw [e] at ey; cases ey
          | some o => rw [e] at ey; exact ⟨o, rfl, ey⟩
        have gy := gt _ _ eoy
        rw [Int.toNat_of_nonneg m0] at gy
        refine ⟨ps, _, rfl, sqT (s3 _ _ hps), rfl, _, _, rfl, _, _, rfl, rfl, ?_⟩
        refine ⟨_, rfl, _, rfl, _, rfl, _, _, rfl, rfl, _, rfl, (hs.same s13).tTop ⟨_, _, rfl, rfl, hV, t, _, _, _, rfl, rfl, sqL (s13 _ _ ht), gy, ?_⟩⟩
        refine ⟨_, rfl, rfl, false, rfl, iteF ⟨_, rfl, _, rfl, _, rfl, _, _, rfl, rfl, _, _, rfl, rfl, _, rfl, ite2 (fun zz => ?_) fun zz => ?_⟩⟩
        · have zz := of_decide_eq_true zz
          omega
        · exact ⟨s3, _, _, _, rfl⟩
      · rintro σ G3 ⟨s3, o6, o7, o8, rfl⟩
        exact ⟨sS.trans s3, _, _, _, _, _, rfl⟩
  · rintro σ G ⟨sG, o4, o5, o6, o7, o8, rfl⟩
    have m0 := Int.emod_nonneg n (show topOf xs ≠ 0 by omega)
    obtain ⟨oy, eoy, rfl⟩ : ∃ o0, es[(n % topOf xs).toNat]? = some o0 ∧ o0 = some c := by
      cases e : es[(n % topOf xs).toNat]? with
      | none => rw [e] at ec; cases ec
      | some o => rw [e] at ec; exact ⟨o, rfl, ec⟩
    have gy := gt _ _ eoy
    rw [Int.toNat_of_nonneg m0] at gy
    refine ⟨_, rfl, _, rfl, _, rfl, (hs.same sG).tTop ⟨_, _, rfl, rfl, hV, t, _, _, _, rfl, rfl, sqL (sG _ _ ht), gy, ?_⟩⟩
    refine ⟨_, rfl, rfl, false, rfl, iteF ⟨_, rfl, _, rfl, (hs.same sG).tTop ⟨_, rfl, _, _, rfl, rfl, _, _, rfl, rfl, ?_, _, rfl, _, _, rfl, rfl, _, _, rfl, rfl, _, _, rfl, rfl, ?_⟩⟩⟩
    · exact .inl ⟨by omega, by omega⟩
    · exact q _ (s1.trans sG)
end
end K75R
set_option Elab.async false
set_option linter.all false
set_option maxRecDepth 100000
set_option maxHeartbeats 4000000
namespace K75R
open PySem PySem.Spec PyProof.Rows L2
section
variable {P : Program} {w : World} {K : PySem.W.Frag} {mg : Str → Option Value} {base : Heap}
open K75
/-! the law's draws -/
def CPowB (i j : Int) : Prop := 0 ≤ j ∧ (Builtin.Int.intBits i : Int) * j ≤ 2 ^ 27
theorem op_powB {X : Cx} : OpR X (binaryOp .Pow) (rI CPowB fun i j => .int (i ^ j.toNat)) := opI fun _ _ _ _ _ _ _ hc q => pow_int hc.1 hc.2 q
/-- the bag -/
def BagAt (H : Hp) (b c : Addr) : Prop := ∃ (cells : List Int) (i rest stir cnt : Int), H b = some (.lst [.ref c, .int i, .int rest, .int stir, .int cnt]) ∧ H c = some (.lst (cells.map V.int)) ∧ 0 ≤ i ∧ 0 ≤ stir ∧ stir < 2 ^ 31
/-- all but b as it was -/
def But (b : Addr) (H H' : Hp) : Prop := ∀ x o, H x = some o → x ≠ b → H' x = some o
theorem But.refl (b : Addr) (H : Hp) : But b H H := fun _ _ h _ => h
theorem But.trans {b : Addr} {H H' H'' : Hp} (h : But b H H') (k : But b H' H'') : But b H H'' := fun x o e n => k x o (h x o e n) n
theorem But.put {b : Addr} {H H' : Hp} {o : HO} (h : But b H H') : But b H (upd H' b o) := fun x u e n => by rw [upd_ne n]; exact h x u e n
theorem Same.but {b : Addr} {H H' : Hp} (h : Same H H') : But b H H' := fun x o e _ => h x o e
theorem cell_ne {H : Hp} {b c : Addr} {xs : List V} {cells : List Int} (hb : H b = some (.lst (.ref c :: xs))) (hc : H c = some (.lst (cells.map V.int))) : c ≠ b := fun e => by
  subst e
  rw [hb] at hc
  cases cells with
  | nil => cases hc
  | cons a l => cases hc
theorem BagAt.same {H H' : Hp} {b c : Addr} (h : BagAt H b c) (s : Same H H') : BagAt H' b c := by
  obtain ⟨cells, i, rest, stir, cnt, h1, h2, h3⟩ := h
  exact ⟨cells, i, rest, stir, cnt, s _ _ h1, s _ _ h2, h3⟩
def sp_bag (K : PySem.W.Frag) : Sp := fun vs H Q _ => ∃ (a : Addr) (ns : List Int), vs = [.ref a] ∧ SqL K H a (ns.map V.int) ∧ ∀ H' b c, Same H H' → H b = none → BagAt H' b c → Q (.ref b) H'
def sp_draw : Sp := fun vs H Q _ => ∃ (b c : Addr) (m : Int), vs = [.ref b, .int m] ∧ 0 < m ∧ m ≤ 10 ^ 30 ∧ BagAt H b c ∧ ∀ H' d, But b H H' → BagAt H' b c → 0 ≤ d → d < m → Q (.int d) H'

theorem sc_law_bag : FnScope ["_law_script", "_law_stir", "_law_cell"] ["_law_script"] (defScope (top 64)) := ⟨rfl, rfl, rfl, by decide +kernel, rfl, by decide +kernel, by decide +kernel⟩
theorem R_law_bag (T : Txt K mg) : FnR P w K mg base CX0 1 (ga K "_law_bag") (sp_bag K) := by
  obtain ⟨fd, F⟩ := T.law_bag.F
  have sc := sc_law_bag
  refine Fun.raw F sc (fun vs H Q E h => ?_) (fun _ _ _ _ _ _ us hl => match us, hl with | [_], _ => rfl) (fun cdv A outer s H vs Q E hr h => ?_)
  · obtain ⟨_, _, rfl, _⟩ := h
    rfl
  obtain ⟨a, ns, rfl, ha, q⟩ := h
  refine ⟨_, (pss_cons
    (ps_set (i := 1) sc.nd rfl (by first | exact Or.inl rfl | exact Or.inr rfl) pe_int)
    (pss_cons
    (ps_for PassesOwn.never rfl (pi_list (pe_slice sl_list (pv 0) po_none (po_some pe_int))) (pg_name (i := 2) sc.nd rfl (by first | exact Or.inl rfl | exact Or.inr rfl))
      (pss_one
      (ps_set (i := 1) sc.nd rfl (by first | exact Or.inl rfl | exact Or.inr rfl) (pe_op op_mod (pe_op op_add (pe_op op_add (pe_op op_mul (pv 1) pe_int) (pe_op op_mod (pv 2) pe_int)) pe_int) pe_int))))
    (pss_one
    (ps_ret (pe_lst (pa_cons (pe_lc (own := [("_law_cell", 2)]) (by rfl) sc.nd (pi_list (pe_slice sl_list (pv 0) po_none (po_some pe_int))) (blkOk_by (N := ["_law_script", "_law_stir", "_law_cell"]) (sc := defScope (top 64)) (own := [("_law_cell", 2)]) (by decide +kernel)) (fun _ _ _ _ _ => (pg_name (i := 2) sc.nd rfl (by first | exact Or.inl rfl | exact Or.inr rfl))) (fun _ _ _ _ _ => pts_nil) (fun _ _ _ _ _ => (pe_op op_mod (pe_callB call_abs (by rfl) T.b_abs bt_abs (pa_cons (pv 2) pa_nil)) (pe_op op_powB (pe_op op_pow pe_int pe_int) pe_int)))) (pa_cons pe_int (pa_cons pe_int (pa_cons (pv 1) (pa_cons pe_int pa_nil)))))))))), ?_⟩
  refine ⟨_, rfl, _, rfl, a, _, rfl, ha, fun p hp => ?_⟩
  have e63 : cutV (ns.map V.int) none (some 63) = (ns.take 63).map V.int := by rw [show ((63 : Int)) = ((63 : Nat) : Int) from rfl, cutV_take, List.map_take]
  rw [e63]
  have s1 : Same H (upd H p (.lst ((ns.take 63).map V.int))) := same_new hp
  have hp1 : (upd H p (.lst ((ns.take 63).map V.int))) p = some (.lst ((ns.take 63).map V.int)) := upd_same
  generalize (upd H p (.lst ((ns.take 63).map V.int))) = H1 at s1 hp1
  refine ⟨p, rfl, ⟨_, sqL hp1⟩, for_it walk_list (fun i σ G => G = H1 ∧ ∃ (st : Int) (o2 : Option V), 0 ≤ st ∧ st < 2 ^ 31 ∧ σ = [some (V.ref a), some (V.int st), o2]) ⟨rfl, 83, _, by decide, by decide, rfl⟩ (fun i σ G _ h => h.1 ▸ sqL hp1) ?_ ?_⟩
  · rintro i y σ G0 G hi ⟨rfl, st, o2, h0, h1, rfl⟩ ⟨rfl, hy⟩
    obtain ⟨z, hz, rfl⟩ := mapI hy
    refine ⟨_, rfl, _, _, rfl, rfl, .inr ⟨by decide, by decide⟩, _, rfl, _, _, rfl, rfl, (show (0 : Int) < 2147483629 by decide), _, _, rfl, rfl, _, _, rfl, rfl, _, _, rfl, rfl, (show (0 : Int) < 2147483647 by decide), ?_⟩
    exact ⟨rfl, _, _, Int.emod_nonneg _ (by decide), Int.lt_of_lt_of_le (Int.emod_lt_of_pos _ (by decide)) (by decide), rfl⟩
  · rintro σ G ⟨rfl, st, o2, h0, h1, rfl⟩
    have ha := s1.seq ha
    refine ⟨_, rfl, _, rfl, a, _, rfl, ha, fun p2 hp2 => ?_⟩
    rw [e63]
    have s2 := s1.trans (same_new (o := .lst ((ns.take 63).map V.int)) hp2)
    have hp3 : (upd G p2 (.lst ((ns.take 63).map V.int))) p2 = some (.lst ((ns.take 63).map V.int)) := upd_same
    generalize (upd G p2 (.lst ((ns.take 63).map V.int))) = H2 at s2 hp3
    refine ⟨p2, rfl, ⟨_, sqL hp3⟩, fun D hD => lc_map walk_list (((ns.take 63).map fun z : Int => (if z < 0 then -z else z) % ((10 ^ (60 : Int).toNat) ^ (10 : Int).toNat)).map V.int) (by simp) (by simp; omega) hD (fun H h => sqL (h _ _ hp3)) (fun i y H3 H' Ry hi h3 yy ky => ?_) (fun H3 s3 h3 => ?_)⟩
    · obtain ⟨rfl, hy⟩ := yy
      obtain ⟨z, hz, rfl⟩ := mapI hy
      refine ⟨rfl, _, rfl, z, rfl, _, _, rfl, rfl, ?_, _, _, rfl, rfl, ?_, _, _, rfl, rfl, ?_, ?_⟩
      · exact ⟨by decide, by decide, by decide⟩
      · exact ⟨by decide, by decide +kernel⟩
      · exact Int.pow_pos (Int.pow_pos (by decide))
      · exact ky _ _ (by rw [List.getElem?_map, List.getElem?_map, hz] <;> rfl) (Same.refl _)
    · refine ⟨_, rfl, by simp [sizeLine_eq], fun b hb => ?_⟩
      refine q _ _ D (s2.trans (s3.trans (same_new hb))) ((s2.trans s3).free hb) ⟨_, _, _, _, _, upd_same, (same_new hb) _ _ h3, by decide, h0, h1⟩

theorem sc_law_stirred : FnScope ["_law_bag_here", "_law_many", "_law_found", "_law_k"] ["_law_bag_here", "_law_many"] (defScope (top 65)) := ⟨rfl, rfl, rfl, by decide +kernel, rfl, by decide +kernel, by decide +kernel⟩
theorem R_law_stirred (T : Txt K mg) : FnR P w K mg base CX0 1 (ga K "_law_stirred") sp_draw := by
  obtain ⟨fd, F⟩ := T.law_stirred.F
  have sc := sc_law_stirred
  refine Fun.raw F sc (fun vs H Q E h => ?_) (fun _ _ _ _ _ _ us hl => match us, hl with | [_, _], _ => rfl) (fun cdv A outer s H vs Q E hr h => ?_)
  · obtain ⟨_, _, _, rfl, _⟩ := h
    rfl
  obtain ⟨b, c, m, rfl, m0, m1, hb, q⟩ := h
  refine ⟨_, (pss_cons
    (ps_set (i := 2) sc.nd rfl (by first | exact Or.inl rfl | exact Or.inr rfl) pe_int)
    (pss_cons
    (ps_for PassesOwn.never rfl (pi_range1 (by rfl) T.b_range (pa_cons (pe_op op_add pe_int (pe_op op_fdivW (pe_bits (pv 1)) pe_int)) pa_nil)) (pg_name (i := 3) sc.nd rfl (by first | exact Or.inl rfl | exact Or.inr rfl))
      (pss_cons
      (ps_asg (pe_op op_add (pe_ix ix_list (pv 0) pe_int (fun _ _ => rfl)) pe_int) (pg_sub (pv 0) pe_int set_list))
      (pss_cons
      (ps_asg (pe_op op_mod (pe_op op_add (pe_op op_add (pe_op op_add (pe_op op_pow (pe_ix ix_list (pv 0) pe_int (fun _ _ => rfl)) pe_int) (pe_op op_mul pe_int (pe_ix ix_list (pv 0) pe_int (fun _ _ => rfl)))) (pe_op op_mul pe_int (pe_ix ix_list (pv 0) pe_int (fun _ _ => rfl)))) pe_int) pe_int) (pg_sub (pv 0) pe_int set_list))
      (pss_one
      (ps_set (i := 2) sc.nd rfl (by first | exact Or.inl rfl | exact Or.inr rfl) (pe_op op_add (pe_op op_mul (pv 2) pe_int) (pe_op op_fdivW (pe_ix ix_list (pv 0) pe_int (fun _ _ => rfl)) pe_int)))))))
    (pss_one
    (ps_ret (pe_op op_mod (pv 2) (pv 1)))))), ?_⟩
  have hbits : Builtin.Int.intBits m ≤ 100 := PyProof.Rows.intBits_le (by omega)
  refine ⟨_, rfl, m, rfl, _, _, rfl, rfl, wide_div (b := 5) (by decide) (by decide) (by decide) (by decide), _, _, rfl, rfl, _, rfl, ?_, ?_, ?_⟩
  · omega
  · omega
  have hbH : ∃ o, H b = some o := by
    obtain ⟨cells, i, rest, stir, cnt, h1, _⟩ := hb
    exact ⟨_, h1⟩
  refine for_it (walk_range (lo := 0)) (fun i σ G => But b H G ∧ BagAt G b c ∧ ∃ (d : Int) (o3 : Option V), σ = [some (V.ref b), some (V.int m), some (V.int d), o3]) ⟨But.refl _ _, hb, 0, _, rfl⟩ (fun _ _ _ _ _ => True.intro) ?_ ?_
  · rintro i y σ G G' hi ⟨bt, hb, d, o3, rfl⟩ ⟨rfl, rfl⟩
    obtain ⟨cells, j, rest, stir, cnt, h1, h2, h3, h4, h5⟩ := hb
    have cb := cell_ne h1 h2
    refine ⟨_, rfl, b, _, _, _, rfl, rfl, sqL h1, rfl, _, _, rfl, rfl, _, rfl, b, _, _, 4, rfl, rfl, h1, by rfl, ?_⟩
    have k1 : (upd G' b (.lst ([V.ref c, V.int j, V.int rest, V.int stir, V.int cnt].set 4 (V.int (cnt + 1))))) b = some (.lst [V.ref c, V.int j, V.int rest, V.int stir, V.int (cnt + 1)]) := upd_same
    have bt1 : But b H (upd G' b (.lst ([V.ref c, V.int j, V.int rest, V.int stir, V.int cnt].set 4 (V.int (cnt + 1))))) := bt.put
    have k2 : (upd G' b (.lst ([V.ref c, V.int j, V.int rest, V.int stir, V.int cnt].set 4 (V.int (cnt + 1))))) c = some (.lst (cells.map V.int)) := by rw [upd_ne cb]; exact h2
    dsimp only
    generalize (upd G' b (.lst ([V.ref c, V.int j, V.int rest, V.int stir, V.int cnt].set 4 (V.int (cnt + 1))))) = G1 at k1 bt1 k2
    refine ⟨_, rfl, b, _, _, _, rfl, rfl, sqL k1, rfl, _, _, rfl, rfl, ⟨by decide, by decide, by omega⟩, _, rfl, b, _, _, _, rfl, rfl, sqL k1, rfl, _, _, rfl, rfl, .inl ⟨by decide, by decide⟩, _, _, rfl, rfl,
      _, rfl, b, _, _, _, rfl, rfl, sqL k1, rfl, _, _, rfl, rfl, .inl ⟨by decide, by decide⟩, _, _, rfl, rfl, _, _, rfl, rfl, _, _, rfl, rfl, (show (0 : Int) < 2147483647 by decide), _, rfl, b, _, _, 3, rfl, rfl, k1, by rfl, ?_⟩
    dsimp only
    generalize hst : (stir ^ (3 : Int).toNat + 69621 * stir + 1031 * (cnt + 1) + 1) % 2147483647 = st2
    have q0 : 0 ≤ st2 := by rw [← hst]; exact Int.emod_nonneg _ (by decide)
    have q1 : st2 < 2147483647 := by rw [← hst]; exact Int.emod_lt_of_pos _ (by decide)
    have k3 : (upd G1 b (.lst ([V.ref c, V.int j, V.int rest, V.int stir, V.int (cnt + 1)].set 3 (V.int st2)))) b = some (.lst [V.ref c, V.int j, V.int rest, V.int st2, V.int (cnt + 1)]) := upd_same
    have k4 : (upd G1 b (.lst ([V.ref c, V.int j, V.int rest, V.int stir, V.int (cnt + 1)].set 3 (V.int st2)))) c = some (.lst (cells.map V.int)) := by rw [upd_ne cb]; exact k2
    have bt2 : But b H (upd G1 b (.lst ([V.ref c, V.int j, V.int rest, V.int stir, V.int (cnt + 1)].set 3 (V.int st2)))) := bt1.put
    generalize (upd G1 b (.lst ([V.ref c, V.int j, V.int rest, V.int stir, V.int (cnt + 1)].set 3 (V.int st2)))) = G2 at k3 k4 bt2
    refine ⟨_, rfl, _, _, rfl, rfl, .inr ⟨by decide, by decide⟩, _, rfl, b, _, _, _, rfl, rfl, sqL k3, rfl, _, _, rfl, rfl, wide_div (b := 5) (by decide) (by decide) (by decide) (by decide), _, _, rfl, rfl, ?_⟩
    exact ⟨bt2, ⟨cells, j, rest, st2, _, k3, k4, h3, q0, by omega⟩, _, _, rfl⟩
  · rintro σ G ⟨bt, hb, d, o3, rfl⟩
    exact ⟨_, rfl, _, rfl, _, _, rfl, rfl, m0, q _ _ bt hb (Int.emod_nonneg _ (by omega)) (Int.emod_lt_of_pos _ m0)⟩
end
end K75R
set_option Elab.async false
set_option linter.all false
set_option maxRecDepth 100000
set_option maxHeartbeats 4000000
namespace K75R
open PySem PySem.Spec PyProof.Rows L2
section
variable {P : Program} {w : World} {K : PySem.W.Frag} {mg : Str → Option Value} {base : Heap}
open K75

theorem sc_law_draw : FnScope ["_law_bag_here", "_law_many", "_law_found"] ["_law_bag_here", "_law_many"] (defScope (top 66)) := ⟨rfl, rfl, rfl, by decide +kernel, rfl, by decide +kernel, by decide +kernel⟩
theorem R_law_draw (T : Txt K mg) : FnR P w K mg base CX0 2 (ga K "_law_draw") sp_draw := by
  obtain ⟨fd, F⟩ := T.law_draw.F
  have sc := sc_law_draw
  refine Fun.raw F sc (fun vs H Q E h => ?_) (fun _ _ _ _ _ _ us hl => match us, hl with | [_, _], _ => rfl) (fun cdv A outer s H vs Q E hr h => ?_)
  · obtain ⟨_, _, _, rfl, _⟩ := h
    rfl
  obtain ⟨b, c, m, rfl, m0, m1, hb, q⟩ := h
  refine ⟨_, (pss_cons
    (ps_if (PW.pt (pw_and (pt_cmpR op_eq (pe_ix ix_list (pv 0) pe_int (fun _ _ => rfl)) pe_int (nomark _)) (pw_and1 (pt_cmpR op_lt (pe_ix ix_list (pv 0) pe_int (fun _ _ => rfl)) (pe_callB call_len_seq (by rfl) T.b_len bt_len (pa_cons (pe_ix ix_list (pv 0) pe_int (fun _ _ => rfl)) pa_nil)) (nomark _)))))
      (pss_cons
      (ps_asg (pe_ix ix_list (pe_ix ix_list (pv 0) pe_int (fun _ _ => rfl)) (pe_ix ix_list (pv 0) pe_int (fun _ _ => rfl)) (fun _ _ => rfl)) (pg_sub (pv 0) pe_int set_list))
      (pss_one
      (ps_asg (pe_op op_add (pe_ix ix_list (pv 0) pe_int (fun _ _ => rfl)) pe_int) (pg_sub (pv 0) pe_int set_list))))
      (pss_one
      (ps_if (pt_cmpR op_eq (pe_ix ix_list (pv 0) pe_int (fun _ _ => rfl)) pe_int (nomark _))
        (pss_one
        (ps_ret (cR T.law_stirred (R_law_stirred T) hr pass0 (pa_cons (pv 0) (pa_cons (pv 1) pa_nil)))))
        pss_nil)))
    (pss_cons
    (ps_set (i := 2) sc.nd rfl (by first | exact Or.inl rfl | exact Or.inr rfl) (pe_op op_mod (pe_ix ix_list (pv 0) pe_int (fun _ _ => rfl)) (pv 1)))
    (pss_cons
    (ps_asg (pe_op op_fdivW (pe_ix ix_list (pv 0) pe_int (fun _ _ => rfl)) (pv 1)) (pg_sub (pv 0) pe_int set_list))
    (pss_one
    (ps_ret (pv 2)))))), ?_⟩
  obtain ⟨cells, i, rest, stir, cnt, h1, h2, h3, h4, h5⟩ := id hb
  have cb := cell_ne h1 h2
  have htop : m.natAbs < 2 ^ 100 := by omega
  -- what comes last
  have fin : ∀ (G : Hp) (i rest : Int), 0 ≤ i → But b H G → G b = some (.lst [.ref c, .int i, .int rest, .int stir, .int cnt]) → G c = some (.lst (cells.map V.int)) → 
      tSeq (tAsg (tOp (rI (fun x j => 0 < j) fun i j => V.int (i % j)) (tOp (rIxL K) (tVar 0) (tC (V.int 2))) (tVar 1)) (gName 2))
        (tSeq (tAsg (tOp (rI CDivW fun i j => V.int (i / j)) (tOp (rIxL K) (tVar 0) (tC (V.int 2))) (tVar 1)) (gSub (tVar 0) (tC (V.int 2)) L2.rSetL)) (tRet (tVar 2))) { nx := fun _ H' => Q .non H', rt := Q } [some (V.ref b), some (V.int m), none] G := fun G i rest i0 bt g1 g2 => by
    refine ⟨_, rfl, b, _, _, _, rfl, rfl, sqL g1, rfl, _, rfl, _, _, rfl, rfl, m0, ?_⟩
    refine ⟨_, rfl, b, _, _, _, rfl, rfl, sqL g1, rfl, _, rfl, _, _, rfl, rfl, wide_div (b := 100) m0 htop (by decide) (by decide), _, rfl, b, _, _, 2, rfl, rfl, g1, by rfl, ?_⟩
    refine ⟨_, rfl, q _ _ bt.put ⟨cells, i, rest / m, stir, cnt, upd_same, by rw [upd_ne cb]; exact g2, i0, h4, h5⟩ (Int.emod_nonneg _ (by omega)) (Int.emod_lt_of_pos _ m0)⟩
  refine ⟨_, rfl, b, _, _, _, rfl, rfl, sqL h1, rfl, rfl, _, rfl, ite2 (fun z => ?_) fun z => ?_⟩
  · refine ⟨_, rfl, b, _, _, _, rfl, rfl, sqL h1, rfl, _, rfl, b, _, _, _, rfl, rfl, sqL h1, rfl, c, _, rfl, .inl (sqL h2), _, _, rfl, rfl, _, rfl, ite2 (fun y => ?_) fun y => ?_⟩
    · have y := of_decide_eq_true y
      have hi : i.toNat < cells.length := by simp at y; omega
      have ei : cells[i.toNat]? = some cells[i.toNat] := List.getElem?_eq_getElem hi
      have at1 : atI (cells.map V.int) i = some (V.int cells[i.toNat]) := by
        have := atI_nat (xs := cells.map V.int) (j := i.toNat) (v := V.int cells[i.toNat]) (by rw [List.getElem?_map, ei] <;> rfl)
        rw [Int.toNat_of_nonneg h3] at this
        exact this
      refine ⟨_, rfl, b, _, _, _, rfl, rfl, sqL h1, rfl, _, rfl, b, _, _, _, rfl, rfl, sqL h1, rfl, c, _, _, _, rfl, rfl, sqL h2, at1, _, rfl, b, _, _, 2, rfl, rfl, h1, by rfl, ?_⟩
      have k1 : (upd H b (.lst ([V.ref c, V.int i, V.int rest, V.int stir, V.int cnt].set 2 (V.int cells[i.toNat])))) b = some (.lst [V.ref c, V.int i, V.int cells[i.toNat], V.int stir, V.int cnt]) := upd_same
      have k2 : (upd H b (.lst ([V.ref c, V.int i, V.int rest, V.int stir, V.int cnt].set 2 (V.int cells[i.toNat])))) c = some (.lst (cells.map V.int)) := by rw [upd_ne cb]; exact h2
      have bt : But b H (upd H b (.lst ([V.ref c, V.int i, V.int rest, V.int stir, V.int cnt].set 2 (V.int cells[i.toNat])))) := (But.refl b H).put
      dsimp only
      generalize (upd H b (.lst ([V.ref c, V.int i, V.int rest, V.int stir, V.int cnt].set 2 (V.int cells[i.toNat])))) = G1 at k1 k2 bt
      refine ⟨_, rfl, b, _, _, _, rfl, rfl, sqL k1, rfl, _, _, rfl, rfl, _, rfl, b, _, _, 1, rfl, rfl, k1, by rfl, ?_⟩
      exact fin _ (i + 1) cells[i.toNat] (by omega) bt.put upd_same (by rw [upd_ne cb]; exact k2)
    · refine ⟨_, rfl, b, _, _, _, rfl, rfl, sqL h1, rfl, rfl, _, rfl, ?_⟩
      rw [z]
      exact iteT ⟨_, rfl, _, rfl, b, c, m, rfl, m0, m1, hb, q⟩
  · refine ⟨_, rfl, b, _, _, _, rfl, rfl, sqL h1, rfl, rfl, _, rfl, ?_⟩
    have z : decide (V.int rest = V.int 0) = false := by simpa using z
    rw [z]
    exact iteF (fin _ i rest h3 (But.refl b H) h1 h2)
end
end K75R
set_option Elab.async false
set_option linter.all false
set_option maxRecDepth 100000
set_option maxHeartbeats 4000000
namespace K75R
open PySem PySem.Spec PyProof.Rows L2
section
variable {P : Program} {w : World} {K : PySem.W.Frag} {mg : Str → Option Value} {base : Heap}
open K75
def sp_lawrule : Sp := fun vs H Q _ => ∃ (b c : Addr), vs = [.ref b] ∧ BagAt H b c ∧ ∀ H' (r : Rl), But b H H' → BagAt H' b c → Q (.str r.nm) H'
def sp_lawrow : Sp := fun vs H Q _ => ∃ (b c : Addr) (m : Int), vs = [.ref b, .int m] ∧ 1 ≤ m ∧ m ≤ 60 ∧ BagAt H b c ∧ ∀ H' p xs, But b H H' → BagAt H' b c → H p = none → H' p = some (.lst (xs.map V.int)) → OkV xs → Q (.ref p) H'
theorem BagAt.some {H : Hp} {b c : Addr} (h : BagAt H b c) : ∃ o, H b = some o := by
  obtain ⟨cells, i, rest, stir, cnt, h1, _⟩ := h
  exact ⟨_, h1⟩
theorem But.free {b c p : Addr} {H H' : Hp} (h : But b H H') (hb' : BagAt H' b c) (e : H' p = none) : H p = none := by
  cases q : H p with
  | none => rfl
  | some o =>
    by_cases z : p = b
    · subst z
      obtain ⟨o', h'⟩ := hb'.some
      rw [h'] at e
      cases e
    · rw [h p o q z] at e
      cases e
/-- the values drawn, sorted, no more than six -/
theorem okV_take {zs ns : List Int} (hz : ∀ z ∈ zs, 1 ≤ z ∧ z ≤ 60) (hne : zs ≠ []) (pw : ns.Pairwise (· < ·)) (hm : ∀ k : Int, k ∈ ns ↔ decide (k ∈ zs) = true) : OkV (ns.take 6) := by
  have hm : ∀ k : Int, k ∈ ns ↔ k ∈ zs := fun k => by rw [hm k]; simp
  have ne : ns ≠ [] := fun e => by
    obtain ⟨z, l, rfl⟩ := List.exists_cons_of_ne_nil hne
    have := (hm z).mpr (by simp)
    rw [e] at this
    cases this
  refine ⟨fun e => ?_, by rw [List.length_take]; omega, fun v hv => hz v ((hm v).mp (List.mem_of_mem_take hv)), pw.sublist (List.take_sublist _ _)⟩
  obtain ⟨z, l, rfl⟩ := List.exists_cons_of_ne_nil ne
  cases e
theorem But.putNew {b D : Addr} {H H' : Hp} {o : HO} (h : But b H H') (e : H D = none) : But b H (upd H' D o) := fun x u z n => by rw [upd_ne (ne_of_none z e)]; exact h x u z n
theorem BagAt.put {H : Hp} {b c D : Addr} {o : HO} (h : BagAt H b c) (nb : D ≠ b) (nc : D ≠ c) : BagAt (upd H D o) b c := by
  obtain ⟨cells, i, rest, stir, cnt, h1, h2, h3⟩ := h
  exact ⟨cells, i, rest, stir, cnt, by rw [upd_ne nb.symm]; exact h1, by rw [upd_ne nc.symm]; exact h2, h3⟩
theorem BagAt.nec {H : Hp} {b c p : Addr} (h : BagAt H b c) (e : H p = none) : p ≠ c := fun z => by
  obtain ⟨cells, i, rest, stir, cnt, h1, h2, h3⟩ := h
  rw [z, h2] at e
  cases e
theorem But.keep {b p : Addr} {H H' : Hp} {o : HO} (h : But b H H') (e : H p = some o) (n : p ≠ b) : H' p = some o := h p o e n
theorem BagAt.ne {H : Hp} {b c p : Addr} (h : BagAt H b c) (e : H p = none) : p ≠ b := fun z => by
  obtain ⟨o, ho⟩ := h.some
  rw [z, ho] at e
  cases e

theorem sc_law_rule : FnScope ["_law_bag_here"] ["_law_bag_here"] (defScope (top 69)) := ⟨rfl, rfl, rfl, by decide +kernel, rfl, by decide +kernel, by decide +kernel⟩
theorem R_law_rule (T : Txt K mg) : FnR P w K mg base CX0 3 (ga K "_law_rule") sp_lawrule := by
  obtain ⟨fd, F⟩ := T.law_rule.F
  have sc := sc_law_rule
  refine Fun.raw F sc (fun vs H Q E h => ?_) (fun _ _ _ _ _ _ us hl => match us, hl with | [_], _ => rfl) (fun cdv A outer s H vs Q E hr h => ?_)
  · obtain ⟨_, _, rfl, _⟩ := h
    rfl
  obtain ⟨b, c, rfl, hb, q⟩ := h
  refine ⟨_, (pss_one
    (ps_ret (pe_ix ix_list (pe_lst (pa_cons pe_str (pa_cons pe_str (pa_cons pe_str (pa_cons pe_str (pa_cons pe_str pa_nil)))))) (cR T.law_draw (R_law_draw T) hr pass0 (pa_cons (pv 0) (pa_cons pe_int pa_nil))) (fun _ _ => rfl)))), ?_⟩
  refine ⟨by simp [sizeLine_eq], fun l hl => ?_⟩
  have lb := hb.ne hl
  refine ⟨_, rfl, b, c, 5, rfl, by decide, by decide, hb.same (same_new hl), fun H1 d bt hb1 d0 d5 => ?_⟩
  have h1 := bt.keep upd_same lb
  have bt0 : But b H H1 := (Same.but (same_new (o := .lst [V.str "plain", V.str "single", V.str "next", V.str "block", V.str "later"]) hl)).trans bt
  have cs : d = 0 ∨ d = 1 ∨ d = 2 ∨ d = 3 ∨ d = 4 := by omega
  rcases cs with rfl | rfl | rfl | rfl | rfl
  · exact ⟨l, _, _, _, rfl, rfl, sqL h1, rfl, q _ .plain bt0 hb1⟩
  · exact ⟨l, _, _, _, rfl, rfl, sqL h1, rfl, q _ .single bt0 hb1⟩
  · exact ⟨l, _, _, _, rfl, rfl, sqL h1, rfl, q _ .next bt0 hb1⟩
  · exact ⟨l, _, _, _, rfl, rfl, sqL h1, rfl, q _ .block bt0 hb1⟩
  · exact ⟨l, _, _, _, rfl, rfl, sqL h1, rfl, q _ .later bt0 hb1⟩

theorem sc_law_row : FnScope ["_law_bag_here", "_law_most", "_law_top", "_law_some", "_law_k"] ["_law_bag_here", "_law_most"] (defScope (top 68)) := ⟨rfl, rfl, rfl, by decide +kernel, rfl, by decide +kernel, by decide +kernel⟩
theorem R_law_row (T : Txt K mg) : FnR P w K mg base CX0 3 (ga K "_law_row") sp_lawrow := by
  obtain ⟨fd, F⟩ := T.law_row.F
  have sc := sc_law_row
  refine Fun.raw F sc (fun vs H Q E h => ?_) (fun _ _ _ _ _ _ us hl => match us, hl with | [_, _], _ => rfl) (fun cdv A outer s H vs Q E hr h => ?_)
  · obtain ⟨_, _, _, rfl, _⟩ := h
    rfl
  obtain ⟨b, c, m, rfl, m0, m1, hb, q⟩ := h
  refine ⟨_, (pss_cons
    (ps_set (i := 2) sc.nd rfl (by first | exact Or.inl rfl | exact Or.inr rfl) (pe_ix ix_list (pe_lst (pa_cons pe_int (pa_cons pe_int (pa_cons pe_int (pa_cons (pv 1) pa_nil))))) (cR T.law_draw (R_law_draw T) hr pass0 (pa_cons (pv 0) (pa_cons pe_int pa_nil))) (fun _ _ => rfl)))
    (pss_cons
    (ps_setLc (i := 3) (own := [("_law_k", 4)]) (by rfl) sc.nd rfl rfl (sw_true rfl rfl rfl (by decide +kernel)) (pi_range1 (by rfl) T.b_range (pa_cons (pe_op op_add pe_int (cR T.law_draw (R_law_draw T) hr pass0 (pa_cons (pv 0) (pa_cons (pe_ix ix_list (pe_lst (pa_cons pe_int (pa_cons pe_int (pa_cons pe_int pa_nil)))) (cR T.law_draw (R_law_draw T) hr pass0 (pa_cons (pv 0) (pa_cons pe_int pa_nil))) (fun _ _ => rfl)) pa_nil)))) pa_nil)) (blkOk_by (N := ["_law_bag_here", "_law_most", "_law_top", "_law_some", "_law_k"]) (sc := defScope (top 68)) (own := [("_law_k", 4)]) (by decide +kernel)) (fun _ _ _ _ _ => (pg_name (i := 4) sc.nd rfl (by first | exact Or.inl rfl | exact Or.inr rfl))) (fun _ _ _ _ _ => pts_nil) (fun _ _ _ _ _ => (pe_op op_add pe_int (cR T.law_draw (R_law_draw T) hr pass0 (pa_cons (pv 0) (pa_cons (pv 2) pa_nil))))))
    (pss_cons
    (ps_if (pt_cmpR op_eq (cR T.law_draw (R_law_draw T) hr pass0 (pa_cons (pv 0) (pa_cons pe_int pa_nil))) pe_int (nomark _))
      (pss_one
      (ps_expr (pe_bm PySem.F.plainAttrs_list PySem.F.slot_list_append PySem.F.type_list_append mt_append (pv 3) (pa_cons pe_int pa_nil))))
      pss_nil)
    (pss_one
    (ps_ret (pe_slice sl_list (pe_callB (cr_sortedSet rfl) (by rfl) T.b_sorted bt_sorted (pa_cons (pe_callTy (cr_setL rfl) (by rfl) T.b_set bt_set (pa_cons (pv 3) pa_nil)) pa_nil)) po_none (po_some pe_int))))))), ?_⟩
  refine ⟨_, rfl, by simp [sizeLine_eq], fun l hl => ?_⟩
  have lb := hb.ne hl
  refine ⟨_, rfl, b, c, 4, rfl, by decide, by decide, hb.same (same_new hl), fun H1 d bt hb1 d0 d5 => ?_⟩
  have h1 := bt.keep upd_same lb
  have bt0 : But b H H1 := (Same.but (same_new (o := .lst [V.int 6, V.int 12, V.int 12, V.int m]) hl)).trans bt
  obtain ⟨t, et, t0, t1⟩ : ∃ t : Int, atI [V.int 6, V.int 12, V.int 12, V.int m] d = some (.int t) ∧ 1 ≤ t ∧ t ≤ 60 := by
    have cs : d = 0 ∨ d = 1 ∨ d = 2 ∨ d = 3 := by omega
    rcases cs with rfl | rfl | rfl | rfl
    · exact ⟨6, rfl, by decide, by decide⟩
    · exact ⟨12, rfl, by decide, by decide⟩
    · exact ⟨12, rfl, by decide, by decide⟩
    · exact ⟨m, rfl, m0, m1⟩
  refine ⟨l, _, _, _, rfl, rfl, sqL h1, et, ?_⟩
  show gName 2 (V.int t) _ _ _
  have hbH := hb
  -- how many
  refine ⟨_, rfl, by simp [sizeLine_eq], fun l2 hl2 => ?_⟩
  have l2b := hb1.ne hl2
  refine ⟨_, rfl, b, c, 3, rfl, by decide, by decide, hb1.same (same_new hl2), fun H2 e bt2 hb2 e0 e3 => ?_⟩
  have h2 := bt2.keep upd_same l2b
  have bt3 : But b H H2 := bt0.trans ((Same.but (same_new (o := .lst [V.int 3, V.int 3, V.int 6]) hl2)).trans bt2)
  obtain ⟨u, eu, u0, u1⟩ : ∃ t : Int, atI [V.int 3, V.int 3, V.int 6] e = some (.int t) ∧ 1 ≤ t ∧ t ≤ 6 := by
    have cs : e = 0 ∨ e = 1 ∨ e = 2 := by omega
    rcases cs with rfl | rfl | rfl
    · exact ⟨3, rfl, by decide, by decide⟩
    · exact ⟨3, rfl, by decide, by decide⟩
    · exact ⟨6, rfl, by decide, by decide⟩
  refine ⟨l2, _, _, _, rfl, rfl, sqL h2, eu, b, c, u, rfl, by omega, by omega, hb2, fun H3 n bt4 hb3 n0 n1 => ?_⟩
  have bt5 := bt3.trans bt4
  refine ⟨_, _, rfl, rfl, _, rfl, by omega, by omega, fun D hD => lc_it (walk_range (lo := 0)) (Pv := fun i G => But b H G ∧ BagAt G b c ∧ ∃ zs : List Int, G D = some (.lst (zs.map V.int)) ∧ zs.length = i ∧ ∀ z ∈ zs, 1 ≤ z ∧ z ≤ 60) ⟨bt5.trans (Same.but (same_new hD)), hb3.same (same_new hD), [], upd_same, rfl, fun z hz => by cases hz⟩ (fun _ _ _ _ => True.intro) (fun i x G G' hi ⟨bt6, hb6, zs, hz, hzl, hzb⟩ yy => ?_) (fun G ⟨bt6, hb6, zs, hz, hzl, hzb⟩ => ?_)⟩
  · obtain ⟨rfl, rfl⟩ := yy
    refine ⟨rfl, _, rfl, _, rfl, b, c, t, rfl, by omega, by omega, hb6, fun G2 v bt7 hb7 v0 v1 => ?_⟩
    have Db := hb3.ne hD
    refine ⟨_, _, rfl, rfl, _, bt7.keep hz Db, by rw [List.length_map, hzl]; exact sz_lt (by omega), ?_⟩
    refine ⟨(bt6.trans bt7).putNew (bt5.free hb3 hD), hb7.put Db (hb3.nec hD), zs ++ [1 + v], by rw [upd_same, List.map_append] <;> rfl, by simp [hzl], fun z hz' => ?_⟩
    rcases List.mem_append.mp hz' with h1 | h1
    · exact hzb z h1
    · rw [List.mem_singleton.mp h1]
      omega
  · have Db := hb3.ne hD
    have Dc := hb3.nec hD
    have hDH := bt5.free hb3 hD
    have zl : zs.length ≤ 6 ∧ 1 ≤ zs.length := by omega
    -- the sorted set
    have fin : ∀ (G : Hp) (zs : List Int), But b H G → BagAt G b c → G D = some (.lst (zs.map V.int)) → zs.length ≤ 7 → zs ≠ [] → (∀ z ∈ zs, 1 ≤ z ∧ z ≤ 60) → ∀ o4, 
        tRet (tSl (rSlL K) (tCB (rSortedSet w) (tCons (tCB (rSetL K w) (tCons (tVar 3) tNil)) tNil)) tNoPart (tPart (tC (V.int 6)))) { nx := fun _ H' => Q .non H', rt := Q } [some (V.ref b), some (V.int m), some (V.int t), some (V.ref D), o4] G := fun G zs bt hb hz zl zn zb o4 => by
      refine ⟨_, rfl, D, zs, rfl, sqL hz, by omega, fun p k hk hp => ⟨p, _, k, rfl, upd_same, by omega, fun ns p2 pw hm hl hp2 => ⟨_, rfl, p2, _, rfl, sqL upd_same, fun p3 hp3 => ?_⟩⟩⟩
      have e6 : cutV (ns.map V.int) none (some 6) = (ns.take 6).map V.int := by rw [show ((6 : Int)) = ((6 : Nat) : Int) from rfl, cutV_take, List.map_take]
      rw [e6]
      have s1 := ((same_new (o := SetO w p (fun j => decide (j ∈ zs)) k) hp).trans (same_new (o := .lst (ns.map V.int)) hp2)).trans (same_new (o := .lst ((ns.take 6).map V.int)) hp3)
      have hb2 := (hb.same (same_new (o := SetO w p (fun j => decide (j ∈ zs)) k) hp)).same (same_new (o := .lst (ns.map V.int)) hp2)
      refine q _ p3 (ns.take 6) (bt.trans (Same.but s1)) (hb.same s1) ((bt.trans (Same.but ((same_new (o := SetO w p (fun j => decide (j ∈ zs)) k) hp).trans (same_new (o := .lst (ns.map V.int)) hp2)))).free hb2 hp3) upd_same (okV_take zb zn pw hm)
    refine ⟨_, rfl, b, c, 2, rfl, by decide, by decide, hb6, fun G2 v bt7 hb7 v0 v1 => ⟨rfl, _, rfl, ite2 (fun zz => ?_) fun zz => ?_⟩⟩
    · have hz2 := bt7.keep hz Db
      refine ⟨_, rfl, .inl ⟨rfl, _, sqL hz2⟩, D, _, _, rfl, rfl, hz2, by rw [List.length_map]; exact sz_lt (by omega), ?_⟩
      refine fin _ (zs ++ [1]) ((bt6.trans bt7).putNew hDH) (hb7.put Db Dc) (by rw [upd_same, List.map_append] <;> rfl) (by simp; omega) (by simp) (fun z hz' => ?_) _
      rcases List.mem_append.mp hz' with h1 | h1
      · exact hzb z h1
      · rw [List.mem_singleton.mp h1]
        decide
    · exact fin _ zs (bt6.trans bt7) hb7 (bt7.keep hz Db) (by omega) (fun e => by rw [e] at zl; simp at zl) hzb _
end
end K75R
set_option Elab.async false
set_option linter.all false
set_option maxRecDepth 100000
set_option maxHeartbeats 4000000
namespace K75R
open PySem PySem.Spec PyProof.Rows L2
section
variable {P : Program} {w : World} {K : PySem.W.Frag} {mg : Str → Option Value} {base : Heap}
open K75
theorem ka_int : PySem.W.kitAny K (.type "int") [.type "list", .type "tuple"] = some false := by rfl
theorem ka_non : PySem.W.kitAny K (.type "NoneType") [.type "list", .type "tuple"] = some false := by rfl
theorem ka_list : PySem.W.kitAny K (.type "list") [.type "list", .type "tuple"] = some true := by rfl
def sp_alike1 : Sp := fun vs H Q _ => ∃ o : Option Int, vs = [optV o, optV o] ∧ ∀ H', Same H H' → Q (.bl true) H'
def sp_alike : Sp := fun vs H Q _ => ∃ (a b : Addr) (os : List (Option Int)), vs = [.ref a, .ref b] ∧ H a = some (.lst (os.map optV)) ∧ H b = some (.lst (os.map optV)) ∧ os.length ≤ 1000 ∧ ∀ H', Same H H' → Q (.bl true) H'

theorem sc_law_alike1 : FnScope ["_law_found", "_law_due", "_law_k"] ["_law_found", "_law_due"] (defScope (top 67)) := ⟨rfl, rfl, rfl, by decide +kernel, rfl, by decide +kernel, by decide +kernel⟩
theorem R_law_alike1 (T : Txt K mg) : FnR P w K mg base CX0 1 (ga K "_law_alike") sp_alike1 := by
  obtain ⟨fd, F⟩ := T.law_alike.F
  have sc := sc_law_alike1
  refine Fun.raw F sc (fun vs H Q E h => ?_) (fun _ _ _ _ _ _ us hl => match us, hl with | [_, _], _ => rfl) (fun cdv A outer s H vs Q E hr h => ?_)
  · obtain ⟨_, rfl, _⟩ := h
    rfl
  obtain ⟨o, rfl, q⟩ := h
  refine ⟨_, (pss_cons
    (ps_if (pt_val (pe_callB call_isiT (by rfl) T.b_isinstance bt_isinstance (pa_cons (pv 1) (pa_cons (pe_tup (pa_cons (pe_ty "list" T.b_list bt_list) (pa_cons (pe_ty "tuple" T.b_tuple bt_tuple) pa_nil))) pa_nil))))
      (pss_cons
      (ps_if (PW.pt (pw_or (pt_not (pt_val (pe_callB call_isiT (by rfl) T.b_isinstance bt_isinstance (pa_cons (pv 0) (pa_cons (pe_tup (pa_cons (pe_ty "list" T.b_list bt_list) (pa_cons (pe_ty "tuple" T.b_tuple bt_tuple) pa_nil))) pa_nil))))) (pw_or1 (pt_cmpR op_ne (pe_callB call_isB (by rfl) T.b_isinstance bt_isinstance (pa_cons (pv 0) (pa_cons (pe_ty "list" T.b_list bt_list) pa_nil))) (pe_callB call_isB (by rfl) T.b_isinstance bt_isinstance (pa_cons (pv 1) (pa_cons (pe_ty "list" T.b_list bt_list) pa_nil))) (nomark _)))))
        (pss_one
        (ps_ret pe_bl))
        pss_nil)
      (pss_cons
      (ps_if (pt_cmpR op_ne (pe_callB call_len_seq (by rfl) T.b_len bt_len (pa_cons (pv 0) pa_nil)) (pe_callB call_len_seq (by rfl) T.b_len bt_len (pa_cons (pv 1) pa_nil)) (nomark _))
        (pss_one
        (ps_ret pe_bl))
        pss_nil)
      (pss_one
      (ps_ret (pe_callB (cr_all rfl) (by rfl) T.b_all bt_all (pa_cons (pe_lc (own := [("_law_k", 2)]) (by rfl) sc.nd (pi_range1 (by rfl) T.b_range (pa_cons (pe_callB call_len_seq (by rfl) T.b_len bt_len (pa_cons (pv 1) pa_nil)) pa_nil)) (blkOk_by (N := ["_law_found", "_law_due", "_law_k"]) (sc := defScope (top 67)) (own := [("_law_k", 2)]) (by decide +kernel)) (fun _ _ _ _ _ => (pg_name (i := 2) sc.nd rfl (by first | exact Or.inl rfl | exact Or.inr rfl))) (fun _ _ _ _ _ => pts_nil) (fun _ _ _ _ _ => pe_never)) pa_nil))))))
      pss_nil)
    (pss_cons
    (ps_if (PW.pt (pw_or (pt_cmpR op_ne (pe_callB call_isB (by rfl) T.b_isinstance bt_isinstance (pa_cons (pv 0) (pa_cons (pe_ty "bool" T.b_bool bt_bool) pa_nil))) (pe_callB call_isB (by rfl) T.b_isinstance bt_isinstance (pa_cons (pv 1) (pa_cons (pe_ty "bool" T.b_bool bt_bool) pa_nil))) (nomark _)) (pw_or1 (pt_cmpR op_ne (pe_callB call_isB (by rfl) T.b_isinstance bt_isinstance (pa_cons (pv 0) (pa_cons (pe_ty "int" T.b_int bt_int) pa_nil))) (pe_callB call_isB (by rfl) T.b_isinstance bt_isinstance (pa_cons (pv 1) (pa_cons (pe_ty "int" T.b_int bt_int) pa_nil))) (nomark _)))))
      (pss_one
      (ps_ret pe_bl))
      pss_nil)
    (pss_one
    (ps_ret (pe_and (pe_cmpR op_eq (pe_callB call_isB (by rfl) T.b_isinstance bt_isinstance (pa_cons (pv 0) (pa_cons (pe_ty "str" T.b_str bt_str) pa_nil))) (pe_callB call_isB (by rfl) T.b_isinstance bt_isinstance (pa_cons (pv 1) (pa_cons (pe_ty "str" T.b_str bt_str) pa_nil))) (nomark _)) (pe_one (pe_cmpR op_eq (pv 0) (pv 1) (nomark _)))))))), ?_⟩
  obtain ⟨t, b2, b3, b4, ty, k1, k2, k3, k4, sc0⟩ : ∃ (t : String) (b2 b3 b4 : Bool), (∀ G, TyX K G (optV o) (.type t)) ∧ PySem.W.kitAny K (.type t) [.type "list", .type "tuple"] = some false ∧ kitB t "bool" = some b2 ∧ kitB t "int" = some b3 ∧ kitB t "str" = some b4 ∧ scal (optV o) (optV o) = true := by
    cases o with
    | none => exact ⟨"NoneType", false, false, false, fun _ => .base .non, ka_non, knb, kni, kns, rfl⟩
    | some i => exact ⟨"int", false, true, false, fun _ => .base (.int _), ka_int, kib, kii, kis, rfl⟩
  refine ⟨_, rfl, by simp [sizeLine_eq], fun tp htp => ⟨_, tp, _, _, _, false, rfl, upd_same, .cons (.ty _) (.cons (.ty _) .nil), ty _, k1, false, rfl, iteF ?_⟩⟩
  have q := fun H' (s : Same (upd H tp (.tup [V.ty "list", V.ty "tuple"])) H') => q H' ((same_new htp).trans s)
  generalize (upd H tp (.tup [V.ty "list", V.ty "tuple"])) = G at q
  refine ⟨_, rfl, _, _, t, b2, rfl, ty _, k2, _, rfl, _, _, t, b2, rfl, ty _, k2, by cases b2 <;> rfl, _, rfl, ?_⟩
  rw [show (!decide (V.bl b2 = V.bl b2)) = false by simp]
  refine iteF ⟨_, rfl, _, _, t, b3, rfl, ty _, k3, _, rfl, _, _, t, b3, rfl, ty _, k3, by cases b3 <;> rfl, _, rfl, ?_⟩
  rw [show (!decide (V.bl b3 = V.bl b3)) = false by simp]
  refine iteF ⟨_, rfl, _, _, t, b4, rfl, ty _, k4, _, rfl, _, _, t, b4, rfl, ty _, k4, by cases b4 <;> rfl, ?_⟩
  rw [show decide (V.bl b4 = V.bl b4) = true by simp]
  refine ⟨true, rfl, iteT ⟨_, rfl, _, rfl, sc0, ?_⟩⟩
  rw [show decide (optV o = optV o) = true by simp]
  exact q _ (Same.refl _)

theorem sc_law_alike2 : FnScope ["_law_found", "_law_due", "_law_k"] ["_law_found", "_law_due"] (defScope (top 67)) := ⟨rfl, rfl, rfl, by decide +kernel, rfl, by decide +kernel, by decide +kernel⟩
theorem R_law_alike (T : Txt K mg) : FnR P w K mg base CX0 2 (ga K "_law_alike") sp_alike := by
  obtain ⟨fd, F⟩ := T.law_alike.F
  have sc := sc_law_alike2
  refine Fun.raw F sc (fun vs H Q E h => ?_) (fun _ _ _ _ _ _ us hl => match us, hl with | [_, _], _ => rfl) (fun cdv A outer s H vs Q E hr h => ?_)
  · obtain ⟨_, _, _, rfl, _⟩ := h
    rfl
  obtain ⟨a, b, os, rfl, ha, hb, hl, q⟩ := h
  refine ⟨_, (pss_cons
    (ps_if (pt_val (pe_callB call_isiT (by rfl) T.b_isinstance bt_isinstance (pa_cons (pv 1) (pa_cons (pe_tup (pa_cons (pe_ty "list" T.b_list bt_list) (pa_cons (pe_ty "tuple" T.b_tuple bt_tuple) pa_nil))) pa_nil))))
      (pss_cons
      (ps_if (PW.pt (pw_or (pt_not (pt_val (pe_callB call_isiT (by rfl) T.b_isinstance bt_isinstance (pa_cons (pv 0) (pa_cons (pe_tup (pa_cons (pe_ty "list" T.b_list bt_list) (pa_cons (pe_ty "tuple" T.b_tuple bt_tuple) pa_nil))) pa_nil))))) (pw_or1 (pt_cmpR op_ne (pe_callB call_isB (by rfl) T.b_isinstance bt_isinstance (pa_cons (pv 0) (pa_cons (pe_ty "list" T.b_list bt_list) pa_nil))) (pe_callB call_isB (by rfl) T.b_isinstance bt_isinstance (pa_cons (pv 1) (pa_cons (pe_ty "list" T.b_list bt_list) pa_nil))) (nomark _)))))
        (pss_one
        (ps_ret pe_bl))
        pss_nil)
      (pss_cons
      (ps_if (pt_cmpR op_ne (pe_callB call_len_seq (by rfl) T.b_len bt_len (pa_cons (pv 0) pa_nil)) (pe_callB call_len_seq (by rfl) T.b_len bt_len (pa_cons (pv 1) pa_nil)) (nomark _))
        (pss_one
        (ps_ret pe_bl))
        pss_nil)
      (pss_one
      (ps_ret (pe_callB (cr_all rfl) (by rfl) T.b_all bt_all (pa_cons (pe_lc (own := [("_law_k", 2)]) (by rfl) sc.nd (pi_range1 (by rfl) T.b_range (pa_cons (pe_callB call_len_seq (by rfl) T.b_len bt_len (pa_cons (pv 1) pa_nil)) pa_nil)) (blkOk_by (N := ["_law_found", "_law_due", "_law_k"]) (sc := defScope (top 67)) (own := [("_law_k", 2)]) (by decide +kernel)) (fun _ _ _ _ _ => (pg_name (i := 2) sc.nd rfl (by first | exact Or.inl rfl | exact Or.inr rfl))) (fun _ _ _ _ _ => pts_nil) (fun _ _ _ _ _ => (cR T.law_alike (R_law_alike1 T) hr pass0 (pa_cons (show PE _ _ (tOp (rIxL K) _ _) from pe_ix ix_list (pv 0) (pv 2) (fun _ _ => rfl)) (pa_cons (show PE _ _ (tOp (rIxL K) _ _) from pe_ix ix_list (pv 1) (pv 2) (fun _ _ => rfl)) pa_nil))))) pa_nil))))))
      pss_nil)
    (pss_cons
    (ps_if (PW.pt (pw_or (pt_cmpR op_ne (pe_callB call_isB (by rfl) T.b_isinstance bt_isinstance (pa_cons (pv 0) (pa_cons (pe_ty "bool" T.b_bool bt_bool) pa_nil))) (pe_callB call_isB (by rfl) T.b_isinstance bt_isinstance (pa_cons (pv 1) (pa_cons (pe_ty "bool" T.b_bool bt_bool) pa_nil))) (nomark _)) (pw_or1 (pt_cmpR op_ne (pe_callB call_isB (by rfl) T.b_isinstance bt_isinstance (pa_cons (pv 0) (pa_cons (pe_ty "int" T.b_int bt_int) pa_nil))) (pe_callB call_isB (by rfl) T.b_isinstance bt_isinstance (pa_cons (pv 1) (pa_cons (pe_ty "int" T.b_int bt_int) pa_nil))) (nomark _)))))
      (pss_one
      (ps_ret pe_bl))
      pss_nil)
    (pss_one
    (ps_ret (pe_and (pe_cmpR op_eq (pe_callB call_isB (by rfl) T.b_isinstance bt_isinstance (pa_cons (pv 0) (pa_cons (pe_ty "str" T.b_str bt_str) pa_nil))) (pe_callB call_isB (by rfl) T.b_isinstance bt_isinstance (pa_cons (pv 1) (pa_cons (pe_ty "str" T.b_str bt_str) pa_nil))) (nomark _)) (pe_one (pe_cmpR op_eq (pv 0) (pv 1) (nomark _)))))))), ?_⟩
  refine ⟨_, rfl, by simp [sizeLine_eq], fun tp htp => ⟨_, tp, _, _, _, true, rfl, upd_same, .cons (.ty _) (.cons (.ty _) .nil), .base (.lst ((same_new htp) _ _ hb)), ka_list, true, rfl, iteT ?_⟩⟩
  have ha := (same_new (o := .tup [V.ty "list", V.ty "tuple"]) htp) _ _ ha
  have hb := (same_new (o := .tup [V.ty "list", V.ty "tuple"]) htp) _ _ hb
  have q := fun H' (s : Same (upd H tp (.tup [V.ty "list", V.ty "tuple"])) H') => q H' ((same_new htp).trans s)
  generalize (upd H tp (.tup [V.ty "list", V.ty "tuple"])) = G at q ha hb
  refine ⟨_, rfl, by simp [sizeLine_eq], fun t2 ht2 => ⟨_, t2, _, _, _, true, rfl, upd_same, .cons (.ty _) (.cons (.ty _) .nil), .base (.lst ((same_new ht2) _ _ ha)), ka_list, true, rfl, iteF ?_⟩⟩
  have ha := (same_new (o := .tup [V.ty "list", V.ty "tuple"]) ht2) _ _ ha
  have hb := (same_new (o := .tup [V.ty "list", V.ty "tuple"]) ht2) _ _ hb
  have q := fun H' (s : Same (upd G t2 (.tup [V.ty "list", V.ty "tuple"])) H') => q H' ((same_new ht2).trans s)
  generalize (upd G t2 (.tup [V.ty "list", V.ty "tuple"])) = G at q ha hb
  refine ⟨_, rfl, _, _, "list", true, rfl, .base (.lst ha), kll, _, rfl, _, _, "list", true, rfl, .base (.lst hb), kll, rfl, false, by simp, iteF ?_⟩
  refine ⟨_, rfl, a, _, rfl, .inl (sqL ha), _, rfl, b, _, rfl, .inl (sqL hb), rfl, false, by simp, iteF ?_⟩
  refine ⟨_, rfl, b, _, rfl, .inl (sqL hb), _, rfl, (by simp only [List.length_map]; omega), (by simp only [List.length_map]; omega), fun D hD => lc_map (walk_range (lo := 0)) (os.map fun _ => V.bl true) (by simp) (by simp; omega) hD (fun _ _ => True.intro) (fun i x H1 H' Ry hi h1 y ky => ?_) (fun H1 s1 h1 => ?_)⟩
  · obtain ⟨rfl, rfl⟩ := y
    have hi' : i < os.length := by simpa using hi
    have ei : atI (os.map optV) (0 + (i : Int)) = some (optV os[i]) := by
      rw [Int.zero_add]
      exact atI_nat (by rw [List.getElem?_map, List.getElem?_eq_getElem hi'] <;> rfl)
    exact ⟨rfl, _, rfl, _, rfl, a, _, _, _, rfl, rfl, sqL (h1 _ _ ha), ei, _, rfl, _, rfl, b, _, _, _, rfl, rfl, sqL (h1 _ _ hb), ei, os[i], rfl, fun H4 s4 => ky _ _ (by rw [List.getElem?_map, List.getElem?_eq_getElem hi'] <;> rfl) s4⟩
  · refine ⟨D, os.map fun _ => true, rfl, sqL (by rw [h1, List.map_map] <;> rfl), ?_⟩
    rw [show (os.map fun _ => true).all id = true by simp]
    exact q _ s1
end
end K75R
set_option Elab.async false
set_option linter.all false
/-! The law's table: sweeps over all residues. -/
namespace K75R
open K75
def cL (cs : List (Option Int)) (i : Nat) : Option Int := (cs[i]?).join
theorem cL_get {cs : List (Option Int)} {i : Nat} {o : Option Int} (h : cs[i]? = some o) : cL cs i = o := by unfold cL; rw [h] <;> rfl
theorem cL_some {cs : List (Option Int)} {i : Nat} {x : Int} (h : cL cs i = some x) : cs[i]? = some (some x) := by
  unfold cL at h
  cases e : cs[i]? with
  | none => rw [e] at h; cases h
  | some o => rw [e] at h; rw [show o = some x from h]
theorem cL_set {cs : List (Option Int)} {j : Nat} {o : Option Int} (hj : j < cs.length) (i : Nat) : cL (cs.set j o) i = if i = j then o else cL cs i := by
  unfold cL
  by_cases h : i = j
  · subst h
    rw [List.getElem?_set_self hj, if_pos rfl]
    rfl
  · rw [List.getElem?_set_ne (fun e => h e.symm), if_neg h]
def Rel (V : Int) (c0 cs : List (Option Int)) (r : Nat) (s : K75.Step) : Prop := ∀ x, cL c0 r = some x → ∃ y, cL cs (spot V r s) = some y ∧ y ≤ x + s.2
structure Swp (L : List K75.Step) (V : Int) (c0 cs : List (Option Int)) (r k : Nat) (less : Bool) : Prop where
  len : cs.length = V.toNat
  snd : Sound L V (cL cs)
  mono : ∀ i x, cL c0 i = some x → ∃ y, cL cs i = some y ∧ y ≤ x
  done : ∀ r', r' < r → ∀ s ∈ L, Rel V c0 cs r' s
  now : ∀ s ∈ L.take k, Rel V c0 cs r s
  same : less = false → cs = c0
theorem Swp.init {L : List K75.Step} {V : Int} {c0 : List (Option Int)} (h : c0.length = V.toNat) (s : Sound L V (cL c0)) : Swp L V c0 c0 0 0 false :=
  ⟨h, s, fun _ x e => ⟨x, e, Int.le_refl _⟩, fun r' z => absurd z (Nat.not_lt_zero _), fun s z => by simp at z, fun _ => rfl⟩
theorem Swp.next {L : List K75.Step} {V : Int} {c0 cs : List (Option Int)} {r : Nat} {less : Bool} (h : Swp L V c0 cs r L.length less) : Swp L V c0 cs (r + 1) 0 less :=
  ⟨h.len, h.snd, h.mono, fun r' z s hs => by
    by_cases e : r' = r
    · subst e
      exact h.now s (by rw [List.take_length]; exact hs)
    · exact h.done r' (by omega) s hs, fun s z => by simp at z, h.same⟩
theorem Swp.now' {L : List K75.Step} {V : Int} {c0 cs : List (Option Int)} {r k : Nat} {less : Bool} {s : K75.Step} (h : Swp L V c0 cs r k less) (hs : L[k]? = some s) (rl : Rel V c0 cs r s) : Swp L V c0 cs r (k + 1) less :=
  ⟨h.len, h.snd, h.mono, h.done, fun t ht => by
    rw [List.take_add_one, hs] at ht
    rcases List.mem_append.mp ht with h1 | h1
    · exact h.now t h1
    · rw [show t = s by simpa using h1]
      exact rl, h.same⟩
theorem Swp.skip {L : List K75.Step} {V : Int} {c0 cs : List (Option Int)} {r k : Nat} {less : Bool} {s : K75.Step} (h : Swp L V c0 cs r k less) (hs : L[k]? = some s) (e : cL cs r = none) : Swp L V c0 cs r (k + 1) less :=
  h.now' hs fun x ex => by
    obtain ⟨y, ey, _⟩ := h.mono _ _ ex
    rw [e] at ey
    cases ey
theorem Swp.keep {L : List K75.Step} {V : Int} {c0 cs : List (Option Int)} {r k : Nat} {less : Bool} {s : K75.Step} {x z : Int} (h : Swp L V c0 cs r k less) (hs : L[k]? = some s) (e : cL cs r = some x) (ez : cL cs (spot V r s) = some z) (le : z ≤ x + s.2) : Swp L V c0 cs r (k + 1) less :=
  h.now' hs fun x0 ex => by
    obtain ⟨y, ey, ly⟩ := h.mono _ _ ex
    rw [e] at ey
    cases ey
    exact ⟨z, ez, by omega⟩
theorem Swp.put {L : List K75.Step} {V : Int} {c0 cs : List (Option Int)} {r k : Nat} {less : Bool} {s : K75.Step} {x : Int} (hV : 0 < V) (h : Swp L V c0 cs r k less) (hs : L[k]? = some s) (hr : r < V.toNat) (e : cL cs r = some x) (nr : spot V r s ≠ r) (b : ∀ z, cL cs (spot V r s) = some z → x + s.2 < z) :
    Swp L V c0 (cs.set (spot V r s) (some (x + s.2))) r (k + 1) true := by
  have hj : spot V r s < cs.length := by rw [h.len]; exact spot_lt hV r s
  have dec : ∀ i y, cL cs i = some y → ∃ z, cL (cs.set (spot V r s) (some (x + s.2))) i = some z ∧ z ≤ y := fun i y ey => by
    rw [cL_set hj]
    by_cases q : i = spot V r s
    · subst q
      rw [if_pos rfl]
      have := b y ey
      exact ⟨_, rfl, by omega⟩
    · rw [if_neg q]
      exact ⟨y, ey, Int.le_refl _⟩
  have rdec : ∀ r' t, Rel V c0 cs r' t → Rel V c0 (cs.set (spot V r s) (some (x + s.2))) r' t := fun r' t hr' x0 ex => by
    obtain ⟨y, ey, ly⟩ := hr' x0 ex
    obtain ⟨z, ez, lz⟩ := dec _ _ ey
    exact ⟨z, ez, by omega⟩
  have base : Swp L V c0 (cs.set (spot V r s) (some (x + s.2))) r k true := by
    refine ⟨by rw [List.length_set]; exact h.len, ?_, fun i x0 ex => ?_, fun r' z t ht => rdec _ _ (h.done r' z t ht), fun t ht => rdec _ _ (h.now t ht), fun z => by cases z⟩
    · have sd := h.snd
      refine ⟨fun r' x' hr' e' => ?_, ?_⟩
      · rw [cL_set hj] at e'
        by_cases q : r' = spot V r s
        · rw [if_pos q] at e'
          cases e'
          obtain ⟨w, hw, h1, h2⟩ := sd.walk r x hr e
          refine ⟨w ++ [s], hw.snoc (List.mem_of_getElem? hs), ?_, by rw [wcost_snoc, h2]⟩
          rw [q, spot_int hV, wsum_snoc, ← h1]
          simp
        · rw [if_neg q] at e'
          exact sd.walk r' x' hr' e'
      · obtain ⟨x0, e0, l0⟩ := sd.zero
        obtain ⟨z, ez, lz⟩ := dec _ _ e0
        exact ⟨z, ez, by omega⟩
    · obtain ⟨y, ey, ly⟩ := h.mono _ _ ex
      obtain ⟨z, ez, lz⟩ := dec _ _ ey
      exact ⟨z, ez, by omega⟩
  refine base.now' hs fun x0 ex => ?_
  obtain ⟨y, ey, ly⟩ := h.mono _ _ ex
  rw [e] at ey
  cases ey
  exact ⟨x + s.2, by rw [cL_set hj, if_pos rfl], by omega⟩
/-- a whole sweep -/
theorem Swp.upto {L : List K75.Step} {V : Int} {c0 cs : List (Option Int)} {less : Bool} {t : Nat} (hV : 0 < V) (h : Swp L V c0 cs V.toNat 0 less) (u : Upto L V t (cL c0)) : Upto L V (t + 1) (cL cs) := fun w hw hl => by
  by_cases e : w = []
  · subst e
    obtain ⟨y, ey, ly⟩ := u [] hw (by simp)
    obtain ⟨z, ez, lz⟩ := h.mono _ _ ey
    exact ⟨z, ez, by omega⟩
  · have e2 := List.dropLast_concat_getLast e
    generalize w.dropLast = w' at e2
    generalize w.getLast e = s at e2
    subst e2
    have hw' : In L w' := fun x hx => hw x (List.mem_append_left _ hx)
    obtain ⟨y, ey, ly⟩ := u w' hw' (by simp at hl; omega)
    obtain ⟨z, ez, lz⟩ := h.done _ (res_lt hV w') s (hw s (by simp)) y ey
    rw [res_snoc hV, wcost_snoc]
    exact ⟨z, ez, by omega⟩
theorem Swp.closed {L : List K75.Step} {V : Int} {c0 cs : List (Option Int)} (hV : 0 < V) (h : Swp L V c0 cs V.toNat 0 false) (h0 : ∃ x, cL c0 0 = some x ∧ x ≤ 0) : IsG L V (cL cs) := by
  have e := h.same rfl
  subst e
  refine isG_of_closed hV h.snd fun r hr x ex s hs => h.done r hr s hs x ex
/-- the law's steps -/
def lawSteps (xs : List Int) (V : Int) (p : Bool) : List K75.Step := (xs.map fun v => (v, V - v)) ++ (if p then [] else xs.map fun v => (-v, V + v))
theorem lawSteps_iff {xs : List Int} {V : Int} {p : Bool} (s : K75.Step) : s ∈ lawSteps xs V p ↔ s ∈ stepsF xs V p := by
  rw [mem_stepsF]
  unfold lawSteps
  rw [List.mem_append]
  constructor
  · rintro (h | h)
    · obtain ⟨v, hv, rfl⟩ := List.mem_map.mp h
      exact ⟨v, hv, .inl rfl⟩
    · cases p with
      | true => cases h
      | false =>
        obtain ⟨v, hv, rfl⟩ := List.mem_map.mp h
        exact ⟨v, hv, .inr ⟨rfl, by simp⟩⟩
  · rintro ⟨v, hv, rfl | ⟨rfl, rfl⟩⟩
    · exact .inl (List.mem_map.mpr ⟨v, hv, rfl⟩)
    · exact .inr (List.mem_map.mpr ⟨v, hv, by simp⟩)
def es0 (V : Int) : List (Option Int) := some 0 :: List.replicate (V - 1).toNat none
theorem es0_len {V : Int} (hV : 0 < V) : (es0 V).length = V.toNat := by
  unfold es0
  rw [List.length_cons, List.length_replicate]
  omega
theorem es0_get {V : Int} {i : Nat} {x : Int} (h : cL (es0 V) i = some x) : i = 0 ∧ x = 0 := by
  unfold cL es0 at h
  cases i with
  | zero => exact ⟨rfl, by cases h; rfl⟩
  | succ i =>
    rw [List.getElem?_cons_succ, List.getElem?_replicate] at h
    split at h <;> cases h
theorem es0_sound {L : List K75.Step} {V : Int} (hV : 0 < V) : Sound L V (cL (es0 V)) :=
  ⟨fun r x hr e => by
    obtain ⟨rfl, rfl⟩ := es0_get e
    exact ⟨[], In.nil, by simp, rfl⟩, 0, rfl, Int.le_refl _⟩
theorem es0_upto {L : List K75.Step} {V : Int} (hV : 0 < V) : Upto L V 0 (cL (es0 V)) := fun w hw hl => by
  have : w = [] := List.eq_nil_of_length_eq_zero (by omega)
  subst this
  exact ⟨0, by simp [res, cL, es0], by simp⟩
end K75R
set_option Elab.async false
set_option linter.all false
set_option maxRecDepth 100000
set_option maxHeartbeats 4000000
namespace K75R
open PySem PySem.Spec PyProof.Rows L2
section
variable {P : Program} {w : World} {K : PySem.W.Frag} {mg : Str → Option Value} {base : Heap}
open K75
theorem rep_flat (n : Nat) : (List.replicate n [V.non]).flatten = List.replicate n V.non := by
  induction n with
  | zero => rfl
  | succ n ih => rw [List.replicate_succ, List.flatten_cons, ih, List.replicate_succ] <;> rfl
theorem es0_v {V : Int} : (es0 V).map optV = L2.V.int 0 :: List.replicate (V - 1).toNat L2.V.non := by
  unfold es0
  rw [List.map_cons, List.map_replicate] <;> rfl
def sp_table : Sp := fun vs H Q _ => ∃ (p : Addr) (xs : List Int) (r : Rl), vs = [.ref p, .bl (plainB r)] ∧ H p = some (.lst (xs.map V.int)) ∧ OkV xs ∧ ∀ H' l es, Same H H' → H l = none → H' l = some (.lst (es.map optV)) → Tbl xs r es → Q (.ref l) H'
/-- what stands between the rounds -/
structure LtI (H H1 : Hp) (f : Addr) (cs : List (Option Int)) (G : Hp) : Prop where
  keep : ∀ x o, H1 x = some o → x ≠ f → G x = some o
  same : Same H G
  fnd : G f = some (.lst (cs.map optV))
def ltStep (K : PySem.W.Frag) : TS :=
  tSeq (tAsg (tOp (rI (fun _ j => 0 < j) fun i j => V.int (i % j)) (tOp (rI0 fun i j => V.int (i + j)) (tVar 7) (tVar 8)) (tVar 2)) (gName 10))
    (tIfS (tTest (tOp (fun x y H Q => y = V.non ∧ Q (V.bl (!decide (x = V.non))) H) (tOp (rIxL K) (tVar 3) (tVar 7)) (tC V.non)))
      (tIfS (tOr (tTest (tOp (fun x y H Q => y = V.non ∧ Q (V.bl (decide (x = V.non))) H) (tOp (rIxL K) (tVar 3) (tVar 10)) (tC V.non)))
          (tTest (tOp (rI0 fun i j => V.bl (decide (i < j))) (tOp (rI0 fun i j => V.int (i + j)) (tOp (rIxL K) (tVar 3) (tVar 7)) (tVar 9)) (tOp (rIxL K) (tVar 3) (tVar 10)))))
        (tAsg (tTup (tCons (tOp (rI0 fun i j => V.int (i + j)) (tOp (rIxL K) (tVar 3) (tVar 7)) (tVar 9)) (tCons (tC (V.bl true)) tNil))) (gTup K 2 (gCons (gSub (tVar 3) (tVar 10) L2.rSetL) (gCons (gName 6) gNil))))
        tNext)
      tNext)
def ltTail (K : PySem.W.Frag) : TS :=
  tSeq (tFor (iRng1 (tCons (tVar 2) tNil)) (gName 5)
      (tSeq (tAsg (tC (V.bl false)) (gName 6))
        (tSeq (tFor (iRng1 (tCons (tVar 2) tNil)) (gName 7) (tFor (iList K (tVar 4)) (gTup K 2 (gCons (gName 8) (gCons (gName 9) gNil))) (ltStep K)))
          (tIfS (tNot (tB (tVar 6))) (tRet (tVar 3)) tNext))))
    (tRet (tVar 3))
theorem lt_tail {H G0 : Hp} {f p l4 : Addr} {xs : List Int} {r : Rl} {Q : VK} {pl : V} {o5 o6 o7 o8 o9 o10 : Option V} (ok : OkV xs) (same : Same H G0) (hfH : H f = none) (hf : G0 f = some (.lst ((es0 (topOf xs)).map optV))) (hl : TupsAt G0 l4 ((lawSteps xs.dropLast (topOf xs) (plainB r)).map runV)) (hne : l4 ≠ f)
    (q : ∀ H' l es, Same H H' → H l = none → H' l = some (.lst (es.map optV)) → Tbl xs r es → Q (.ref l) H') :
    ltTail K { nx := fun _ H' => Q .non H', rt := Q } [some (V.ref p), some pl, some (V.int (topOf xs)), some (V.ref f), some (V.ref l4), o5, o6, o7, o8, o9, o10] G0 := by
  have tp := ok.top
  have hV : 0 < topOf xs := by omega
  generalize hL : lawSteps xs.dropLast (topOf xs) (plainB r) = L at hl
  have memL : ∀ s, s ∈ L ↔ s ∈ stepsOf xs r := fun s => by rw [← hL]; exact lawSteps_iff s
  have sp := steps_pos (r := r) ok
  have hp1 : ∀ s ∈ L, 1 ≤ s.2 := fun s h => (sp s ((memL s).mp h)).1
  obtain ⟨pp, hpp, hpl, hpi⟩ := hl
  have tup_ne : ∀ {x : Addr} {u : List V}, G0 x = some (.tup u) → x ≠ f := fun {x u} z e => by subst e; rw [hf] at z; cases z
  -- the end
  have done : ∀ (cs : List (Option Int)) G, cs.length = (topOf xs).toNat → IsG L (topOf xs) (cL cs) → LtI H G0 f cs G → Q (.ref f) G := fun cs G hl g I => q G f cs I.same hfH I.fnd ⟨hl, g.same memL⟩
  refine ⟨_, rfl, _, rfl, by omega, by omega, ?_⟩
  refine for_it (walk_range (lo := 0)) (fun t σ G => ∃ cs : List (Option Int), cs.length = (topOf xs).toNat ∧ Sound L (topOf xs) (cL cs) ∧ Upto L (topOf xs) t (cL cs) ∧ LtI H G0 f cs G ∧ ∃ o5 o6 o7 o8 o9 o10, σ = [some (V.ref p), some pl, some (V.int (topOf xs)), some (V.ref f), some (V.ref l4), o5, o6, o7, o8, o9, o10])
    ⟨es0 (topOf xs), es0_len hV, es0_sound hV, es0_upto hV, ⟨fun _ _ z _ => z, same, hf⟩, _, _, _, _, _, _, rfl⟩ (fun _ _ _ _ _ => True.intro) ?_ ?_
  · rintro t y σ G G' ht ⟨c0, c0l, c0s, c0u, I0, o5, o6, o7, o8, o9, o10, rfl⟩ ⟨rfl, rfl⟩
    refine ⟨_, rfl, _, rfl, by omega, by omega, ?_⟩
    refine for_it (walk_range (lo := 0)) (fun i σ G => ∃ (cs : List (Option Int)) (less : Bool), Swp L (topOf xs) c0 cs i 0 less ∧ LtI H G0 f cs G ∧ ∃ o7 o8 o9 o10, σ = [some (V.ref p), some pl, some (V.int (topOf xs)), some (V.ref f), some (V.ref l4), some (V.int (0 + (t : Int))), some (.bl less), o7, o8, o9, o10])
      ⟨c0, false, Swp.init c0l c0s, I0, _, _, _, _, rfl⟩ (fun _ _ _ _ _ => True.intro) ?_ ?_
    · rintro i y σ G G' hi ⟨cs, less, sw, I1, o7, o8, o9, o10, rfl⟩ ⟨rfl, rfl⟩
      have hi' : i < (topOf xs).toNat := by omega
      have hpp1 := I1.keep _ _ hpp hne
      refine ⟨_, rfl, l4, rfl, ⟨_, sqL hpp1⟩, for_it walk_list (fun k σ G => ∃ (cs : List (Option Int)) (less : Bool), Swp L (topOf xs) c0 cs i k less ∧ LtI H G0 f cs G ∧ ∃ o8 o9 o10, σ = [some (V.ref p), some pl, some (V.int (topOf xs)), some (V.ref f), some (V.ref l4), some (V.int (0 + (t : Int))), some (.bl less), some (V.int (0 + (i : Int))), o8, o9, o10])
        ⟨cs, less, sw, I1, _, _, _, rfl⟩ (fun k σ G _ ⟨cs, less, sw, I, _⟩ => sqL (I.keep _ _ hpp hne)) ?_ ?_⟩
      · rintro k y σ G2 G hk ⟨cs, less, sw, I, o8, o9, o10, rfl⟩ ⟨rfl, hy⟩
        obtain ⟨ps, s, rfl, hsk, hps⟩ := TupsAt.item hpl hpi hy
        have hsm : s ∈ stepsOf xs r := (memL s).mp (List.mem_of_getElem? hsk)
        have hps2 := I.keep _ _ hps (tup_ne hps)
        generalize hj : spot (topOf xs) i s = j
        have hji : ((j : Nat) : Int) = (0 + (i : Int) + s.1) % topOf xs := by rw [← hj, spot_int hV, Int.zero_add]
        have hjV : j < (topOf xs).toNat := by rw [← hj]; exact spot_lt hV i s
        have jr : spot (topOf xs) i s ≠ i := by
          obtain ⟨v, hv, e⟩ := mem_stepsF.mp hsm
          have b := ok.below hv
          rcases e with rfl | ⟨_, rfl⟩
          · exact spot_ne hV hi' (by dsimp; omega) (by dsimp; omega) (by dsimp; omega)
          · exact spot_ne hV hi' (by dsimp; omega) (by dsimp; omega) (by dsimp; omega)
        obtain ⟨oi, ei⟩ : ∃ o, cs[i]? = some o := ⟨_, List.getElem?_eq_getElem (by rw [sw.len]; exact hi')⟩
        obtain ⟨oj, ej⟩ : ∃ o, cs[j]? = some o := ⟨_, List.getElem?_eq_getElem (by rw [sw.len]; exact hjV)⟩
        have gi : atI (cs.map optV) (0 + (i : Int)) = some (optV oi) := by
          rw [Int.zero_add]
          exact atI_nat (by rw [List.getElem?_map, ei] <;> rfl)
        have gj : atI (cs.map optV) (j : Int) = some (optV oj) := atI_nat (by rw [List.getElem?_map, ej] <;> rfl)
        refine ⟨ps, _, rfl, sqT hps2, rfl, _, _, rfl, _, _, rfl, rfl, ?_⟩
        refine ⟨_, rfl, _, rfl, _, _, rfl, rfl, _, rfl, _, _, rfl, rfl, hV, ?_⟩
        show gName 10 (V.int ((0 + (i : Int) + s.1) % topOf xs)) _ _ _
        rw [← hji]
        refine ⟨_, rfl, _, rfl, f, _, _, _, rfl, rfl, sqL I.fnd, gi, ?_⟩
        cases oi with
        | none => exact ⟨rfl, false, rfl, iteF ⟨cs, less, sw.skip hsk (cL_get ei), I, _, _, _, rfl⟩⟩
        | some x =>
          refine ⟨rfl, true, rfl, iteT ⟨_, rfl, _, rfl, f, _, _, _, rfl, rfl, sqL I.fnd, gj, ?_⟩⟩
          have better : (∀ z, cL cs (spot (topOf xs) i s) = some z → x + s.2 < z) → ∀ D : Ends, D.nx = (fun σ G => ∃ (cs : List (Option Int)) (less : Bool), Swp L (topOf xs) c0 cs i (k + 1) less ∧ LtI H G0 f cs G ∧ ∃ o8 o9 o10, σ = [some (V.ref p), some pl, some (V.int (topOf xs)), some (V.ref f), some (V.ref l4), some (V.int (0 + (t : Int))), some (.bl less), some (V.int (0 + (i : Int))), o8, o9, o10]) →
              tAsg (tTup (tCons (tOp (rI0 fun i j => V.int (i + j)) (tOp (rIxL K) (tVar 3) (tVar 7)) (tVar 9)) (tCons (tC (V.bl true)) tNil))) (gTup K 2 (gCons (gSub (tVar 3) (tVar 10) L2.rSetL) (gCons (gName 6) gNil))) D
                [some (V.ref p), some pl, some (V.int (topOf xs)), some (V.ref f), some (V.ref l4), some (V.int (0 + (t : Int))), some (.bl less), some (V.int (0 + (i : Int))), some (V.int s.1), some (V.int s.2), some (V.int (j : Int))] G := fun hb D hD => by
            refine ⟨_, rfl, _, rfl, f, _, _, _, rfl, rfl, sqL I.fnd, gi, _, rfl, _, _, rfl, rfl, by simp [sizeLine_eq], fun u hu => ?_⟩
            have su := same_new (o := .tup [V.int (x + s.2), V.bl true]) hu
            refine ⟨u, _, rfl, sqT upd_same, rfl, _, _, rfl, ⟨_, rfl, _, rfl, f, _, _, j, rfl, rfl, su _ _ I.fnd, ixN_nat (by rw [List.length_map, sw.len]; exact hjV), ?_⟩⟩
            have pt := sw.put hV hsk hi' (cL_get ei) jr hb
            rw [hj] at pt
            have Ip : LtI H G0 f (cs.set j (some (x + s.2))) (upd (upd G u (.tup [V.int (x + s.2), V.bl true])) f (.lst ((cs.map optV).set j (V.int (x + s.2))))) :=
              ⟨fun y o z1 z2 => by rw [upd_ne z2]; exact su _ _ (I.keep y o z1 z2), same_put (I.same.trans su) hfH, by rw [upd_same, List.map_set] <;> rfl⟩
            refine ⟨_, _, rfl, ?_⟩
            refine ⟨rfl, ?_⟩
            rw [hD]
            exact ⟨_, true, pt, Ip, _, _, _, rfl⟩
          cases oj with
          | none => exact ⟨rfl, true, rfl, iteT (iteT (better (fun z e => by rw [hj, cL_get ej] at e; cases e) _ rfl))⟩
          | some z =>
            refine ⟨rfl, false, rfl, iteF ⟨_, rfl, _, rfl, f, _, _, _, rfl, rfl, sqL I.fnd, gi, _, rfl, _, _, rfl, rfl, _, rfl, _, rfl, f, _, _, _, rfl, rfl, sqL I.fnd, gj, _, _, rfl, rfl, _, rfl, ite2 (fun c => ?_) (fun c => ?_)⟩⟩
            · have c := of_decide_eq_true c
              exact better (fun z' e => by rw [hj, cL_get ej] at e; cases e; exact c) _ rfl
            · have c : ¬ x + s.2 < z := by simpa using c
              exact ⟨cs, less, sw.keep hsk (cL_get ei) (by rw [hj]; exact cL_get ej) (by omega), I, _, _, _, rfl⟩
      · rintro σ G ⟨cs, less, sw, I, o8, o9, o10, rfl⟩
        exact ⟨cs, less, Swp.next (by rw [List.length_map, hpl, List.length_map] at sw; exact sw), I, _, _, _, _, rfl⟩
    · rintro σ G ⟨cs, less, sw, I, o7, o8, o9, o10, rfl⟩
      have sw : Swp L (topOf xs) c0 cs (topOf xs).toNat 0 less := by simpa using sw
      refine ⟨_, rfl, less, rfl, ?_⟩
      cases less with
      | true => exact iteF ⟨cs, sw.len, sw.snd, sw.upto hV c0u, I, _, _, _, _, _, _, rfl⟩
      | false => exact iteT ⟨_, rfl, done cs G sw.len (sw.closed hV c0s.zero) I⟩
  · rintro σ G ⟨cs, cl, css, csu, I, o5, o6, o7, o8, o9, o10, rfl⟩
    exact ⟨_, rfl, done cs G cl (isG_of_upto hV hp1 css (by omega) csu) I⟩

theorem sc_law_table : FnScope ["_law_values", "_law_plain", "_law_top", "_law_found", "_law_steps", "_law_turn", "_law_less", "_law_r", "_law_one", "_law_cost", "_law_to"] ["_law_values", "_law_plain"] (defScope (top 75)) := ⟨rfl, rfl, rfl, by decide +kernel, rfl, by decide +kernel, by decide +kernel⟩
theorem R_law_table (T : Txt K mg) : FnR P w K mg base CX0 1 (ga K "_law_table") sp_table := by
  obtain ⟨fd, F⟩ := T.law_table.F
  have sc := sc_law_table
  refine Fun.raw F sc (fun vs H Q E h => ?_) (fun _ _ _ _ _ _ us hl => match us, hl with | [_, _], _ => rfl) (fun cdv A outer s H vs Q E hr h => ?_)
  · obtain ⟨_, _, _, rfl, _⟩ := h
    rfl
  obtain ⟨p, xs, r, rfl, hp, ok, q⟩ := h
  refine ⟨_, (pss_cons
    (ps_set (i := 2) sc.nd rfl (by first | exact Or.inl rfl | exact Or.inr rfl) (pe_ix ix_list (pv 0) (pe_un un_neg pe_int) (fun _ _ => rfl)))
    (pss_cons
    (ps_set (i := 3) sc.nd rfl (by first | exact Or.inl rfl | exact Or.inr rfl) (pe_op op_cat (pe_lst (pa_cons pe_int pa_nil)) (pe_op op_rep (pe_lst (pa_cons pe_non pa_nil)) (pe_op op_sub (pv 2) pe_int))))
    (pss_cons
    (ps_setLc (i := 4) (own := [("_law_one", 8)]) (by rfl) sc.nd rfl rfl (sw_true rfl rfl rfl (by decide +kernel)) (pi_list (pe_slice sl_list (pv 0) po_none (po_some (pe_un un_neg pe_int)))) (blkOk_by (N := ["_law_values", "_law_plain", "_law_top", "_law_found", "_law_steps", "_law_turn", "_law_less", "_law_r", "_law_one", "_law_cost", "_law_to"]) (sc := defScope (top 75)) (own := [("_law_one", 8)]) (by decide +kernel)) (fun _ _ _ _ _ => (pg_name (i := 8) sc.nd rfl (by first | exact Or.inl rfl | exact Or.inr rfl))) (fun _ _ _ _ _ => pts_nil) (fun _ _ _ _ _ => (pe_tup (pa_cons (pv 8) (pa_cons (pe_op op_sub (pv 2) (pv 8)) pa_nil)))))
    (pss_cons
    (ps_if (pt_not (pt_val (pv 1)))
      (pss_one
      (ps_set (i := 4) sc.nd rfl (by first | exact Or.inl rfl | exact Or.inr rfl) (pe_op op_cat (pv 4) (pe_lc (own := [("_law_one", 8)]) (by rfl) sc.nd (pi_list (pe_slice sl_list (pv 0) po_none (po_some (pe_un un_neg pe_int)))) (blkOk_by (N := ["_law_values", "_law_plain", "_law_top", "_law_found", "_law_steps", "_law_turn", "_law_less", "_law_r", "_law_one", "_law_cost", "_law_to"]) (sc := defScope (top 75)) (own := [("_law_one", 8)]) (by decide +kernel)) (fun _ _ _ _ _ => (pg_name (i := 8) sc.nd rfl (by first | exact Or.inl rfl | exact Or.inr rfl))) (fun _ _ _ _ _ => pts_nil) (fun _ _ _ _ _ => (pe_tup (pa_cons (pe_un un_neg (pv 8)) (pa_cons (pe_op op_add (pv 2) (pv 8)) pa_nil))))))))
      pss_nil)
    (pss_cons
    (ps_for PassesOwn.never rfl (pi_range1 (by rfl) T.b_range (pa_cons (pv 2) pa_nil)) (pg_name (i := 5) sc.nd rfl (by first | exact Or.inl rfl | exact Or.inr rfl))
      (pss_cons
      (ps_set (i := 6) sc.nd rfl (by first | exact Or.inl rfl | exact Or.inr rfl) pe_bl)
      (pss_cons
      (ps_for PassesOwn.never rfl (pi_range1 (by rfl) T.b_range (pa_cons (pv 2) pa_nil)) (pg_name (i := 7) sc.nd rfl (by first | exact Or.inl rfl | exact Or.inr rfl))
        (pss_one
        (ps_for PassesOwn.never rfl (pi_list (pv 4)) (pg_tup (by rfl) (pgs_cons (pg_name (i := 8) sc.nd rfl (by first | exact Or.inl rfl | exact Or.inr rfl)) (pgs_cons (pg_name (i := 9) sc.nd rfl (by first | exact Or.inl rfl | exact Or.inr rfl)) pgs_nil)))
          (pss_cons
          (ps_set (i := 10) sc.nd rfl (by first | exact Or.inl rfl | exact Or.inr rfl) (pe_op op_mod (pe_op op_add (pv 7) (pv 8)) (pv 2)))
          (pss_one
          (ps_if (pt_cmpR op_notN (pe_ix ix_list (pv 3) (pv 7) (fun _ _ => rfl)) pe_non (nomark _))
            (pss_one
            (ps_if (PW.pt (pw_or (pt_cmpR op_isN (pe_ix ix_list (pv 3) (pv 10) (fun _ _ => rfl)) pe_non (nomark _)) (pw_or1 (pt_cmpR op_lt (pe_op op_add (pe_ix ix_list (pv 3) (pv 7) (fun _ _ => rfl)) (pv 9)) (pe_ix ix_list (pv 3) (pv 10) (fun _ _ => rfl)) (nomark _)))))
              (pss_one
              (ps_asg (pe_tup (pa_cons (pe_op op_add (pe_ix ix_list (pv 3) (pv 7) (fun _ _ => rfl)) (pv 9)) (pa_cons pe_bl pa_nil))) (pg_tup (by rfl) (pgs_cons (pg_sub (pv 3) (pv 10) set_list) (pgs_cons (pg_name (i := 6) sc.nd rfl (by first | exact Or.inl rfl | exact Or.inr rfl)) pgs_nil)))))
              pss_nil))
            pss_nil))))))
      (pss_one
      (ps_if (pt_not (pt_val (pv 6)))
        (pss_one
        (ps_ret (pv 3)))
        pss_nil)))))
    (pss_one
    (ps_ret (pv 3)))))))), ?_⟩
  have tp := ok.top
  have hV : 0 < topOf xs := by omega
  have at0 : atI (xs.map V.int) (-1) = some (V.int (topOf xs)) := at_top ok.ne
  refine ⟨_, rfl, 1, rfl, p, _, _, _, rfl, rfl, sqL hp, at0, ?_⟩
  refine ⟨by simp [sizeLine_eq], fun l0 hl0 => ⟨by simp [sizeLine_eq], fun l1 hl1 => ⟨_, rfl, _, _, rfl, rfl, l1, _, [V.non], rfl, rfl, upd_same, by omega, by omega, by simp [sizeLine_eq]; omega, fun l2 hl2 => ?_⟩⟩⟩
  have s1 := ((same_new (o := .lst [V.int 0]) hl0).trans (same_new (o := .lst [V.non]) hl1)).trans (same_new (o := .lst (List.replicate (topOf xs - 1).toNat [V.non]).flatten) hl2)
  refine ⟨l0, l2, [V.int 0], _, rfl, rfl, ((same_new (o := .lst [V.non]) hl1).trans (same_new (o := .lst (List.replicate (topOf xs - 1).toNat [V.non]).flatten) hl2)) _ _ upd_same, upd_same, by rw [rep_flat, List.length_replicate]; simp [sizeLine_eq]; omega, fun f hf => ?_⟩
  have s2 := s1.trans (same_new (o := .lst ([V.int 0] ++ (List.replicate (topOf xs - 1).toNat [V.non]).flatten)) hf)
  have hfH : H f = none := s1.free hf
  have hff : (upd (upd (upd (upd H l0 (.lst [V.int 0])) l1 (.lst [V.non])) l2 (.lst (List.replicate (topOf xs - 1).toNat [V.non]).flatten)) f (.lst ([V.int 0] ++ (List.replicate (topOf xs - 1).toNat [V.non]).flatten))) f = some (.lst ((es0 (topOf xs)).map optV)) := by rw [upd_same, rep_flat, es0_v] <;> rfl
  generalize (upd (upd (upd (upd H l0 (.lst [V.int 0])) l1 (.lst [V.non])) l2 (.lst (List.replicate (topOf xs - 1).toNat [V.non]).flatten)) f (.lst ([V.int 0] ++ (List.replicate (topOf xs - 1).toNat [V.non]).flatten))) = H1 at s2 hff
  have hp1 := s2 _ _ hp
  have cf : cutV (xs.map V.int) none (some (-1)) = xs.dropLast.map V.int := by rw [cutV_front, List.map_dropLast]
  have xl := ok.len
  have dl : xs.dropLast.length ≤ 6 := by rw [List.length_dropLast]; omega
  refine ⟨_, rfl, 1, rfl, _, rfl, p, _, rfl, sqL hp1, fun p2 hp2 => ?_⟩
  rw [cf]
  have s3 := s2.trans (same_new (o := .lst (xs.dropLast.map V.int)) hp2)
  have hf3 := (same_new (o := .lst (xs.dropLast.map V.int)) hp2) _ _ hff
  have h3 : (upd H1 p2 (.lst (xs.dropLast.map V.int))) p2 = some (.lst (xs.dropLast.map V.int)) := upd_same
  generalize (upd H1 p2 (.lst (xs.dropLast.map V.int))) = H3 at s3 hf3 h3
  refine ⟨p2, rfl, ⟨_, sqL h3⟩, fun D hD => lc_tups walk_list ((xs.dropLast.map fun v => (v, topOf xs - v)).map runV) (by simp) (by simp; omega) hD (fun H h => sqL (h _ _ h3)) (fun i y H4 H' Ry hi h1 yy ky => ?_) (fun H4 s4 h4 => ?_)⟩
  · obtain ⟨rfl, hy⟩ := yy
    obtain ⟨v, hv, rfl⟩ := mapI hy
    exact ⟨rfl, _, rfl, _, rfl, _, rfl, _, _, rfl, rfl, by simp [sizeLine_eq], fun t ht => ky t _ _ (by rw [List.getElem?_map, List.getElem?_map, hv] <;> rfl) (same_new ht) upd_same⟩
  have hf4 := s4 _ _ hf3
  have Df : D ≠ f := (ne_of_none hf3 hD).symm
  have s14 := s3.trans s4
  refine ⟨_, rfl, plainB r, rfl, ?_⟩
  cases hpb : plainB r with
  | true =>
    refine iteF ?_
    show ltTail K _ _ _
    refine lt_tail (r := r) ok s14 hfH hf4 ?_ Df q
    rw [hpb]
    unfold lawSteps
    rw [if_pos rfl, List.append_nil]
    exact h4
  | false =>
    refine iteT ?_
    have hp4 := s14 _ _ hp
    refine ⟨_, rfl, _, rfl, 1, rfl, _, rfl, p, _, rfl, sqL hp4, fun p5 hp5 => ?_⟩
    rw [cf]
    have s5 := s14.trans (same_new (o := .lst (xs.dropLast.map V.int)) hp5)
    have hf5 := (same_new (o := .lst (xs.dropLast.map V.int)) hp5) _ _ hf4
    have h5 : (upd H4 p5 (.lst (xs.dropLast.map V.int))) p5 = some (.lst (xs.dropLast.map V.int)) := upd_same
    have t5 := h4.same (same_new (o := .lst (xs.dropLast.map V.int)) hp5)
    generalize (upd H4 p5 (.lst (xs.dropLast.map V.int))) = H5 at s5 hf5 h5 t5
    refine ⟨p5, rfl, ⟨_, sqL h5⟩, fun D2 hD2 => lc_tups walk_list ((xs.dropLast.map fun v => (-v, topOf xs + v)).map runV) (by simp) (by simp; omega) hD2 (fun H h => sqL (h _ _ h5)) (fun i y H6 H' Ry hi h1 yy ky => ?_) (fun H6 s6 h6 => ?_)⟩
    · obtain ⟨rfl, hy⟩ := yy
      obtain ⟨v, hv, rfl⟩ := mapI hy
      exact ⟨rfl, _, rfl, _, rfl, _, rfl, _, rfl, _, _, rfl, rfl, by simp [sizeLine_eq], fun t ht => ky t _ _ (by rw [List.getElem?_map, List.getElem?_map, hv] <;> rfl) (same_new ht) upd_same⟩
    obtain ⟨za, hza, lza⟩ := (t5.same s6).lst
    obtain ⟨zb, hzb, lzb⟩ := h6.lst
    refine ⟨D, D2, za, zb, rfl, rfl, hza, hzb, sz_le (by rw [lza, lzb]; simp only [List.length_map]; omega), fun D3 hD3 => ?_⟩
    have s7 := (s5.trans s6).trans (same_new (o := .lst (za ++ zb)) hD3)
    have t7 := (t5.same s6).catAt h6 hza hzb (q := D3) fun u z => by rw [hD3] at z; cases z
    have hf7 := (same_new (o := .lst (za ++ zb)) hD3) _ _ (s6 _ _ hf5)
    show ltTail K _ _ _
    refine lt_tail (r := r) ok s7 hfH hf7 ?_ (ne_of_none (s6 _ _ hf5) hD3).symm q
    rw [hpb]
    unfold lawSteps
    rw [if_neg (by decide), List.map_append]
    exact t7
end
end K75R
set_option Elab.async false
set_option linter.all false
set_option maxRecDepth 100000
set_option maxHeartbeats 4000000
namespace K75R
open PySem PySem.Spec PyProof.Rows L2
section
variable {P : Program} {w : World} {K : PySem.W.Frag} {mg : Str → Option Value} {base : Heap}
open K75
/-- f(e, ..) of a def of the module, what it lets out being taken at these slots -/
theorem cRS {X : Cx} {CX : CXT} {j k : Nat} {sp : Sp} {E : L2.St → XK} {x nm : Str} {st : Stmt} {p pos : Pos} {e : Expr} {es : List Expr} {t : TA} (G : GF X.K X.mg x nm st) (F : FnR X.prog X.w X.K X.mg X.base CX k (ga X.K x) sp) (hr : Room j X.A) (hx : ∀ σ, PassesAt CX X σ (E σ))
    (ha : PA X (e :: es) t) (hg : Gl X x := by rfl) (hk : k ≤ j := by decide) (hdb : (x == ("__debug__" : Str)) = false := by decide)
    (he : starEach (e :: es) X.env = (false, eval e X.env) :: starEach es X.env := by rfl) (hpl : (backTo pos (starEach es X.env)).any (·.1) = false := by rfl) : PE X (.Call (.Name x p) (e :: es) [] pos) (tCallS sp E t) := by
  obtain ⟨fd, Fd⟩ := G.F
  refine ⟨fun pins s σ H Q I h => wpAny_Call_Name_kw (ld_glob I hg G.g ?_ hdb)⟩
  refine PySem.W.callWith_K (h₀ := X.base) I.ok.mod.kin Fd.kp (thn (ha.run pos pins s σ H _ I h) fun us s1 ⟨vs, H1, I1, r, q⟩ => ⟨I1.kIn, ?_⟩) he hpl
  refine wpAny_call (codeAny_mono (F X.A X.stack s1 H1 us vs Q (E σ) (hr.mono hk) I1.env0 r q) fun z s2 hz => ?_)
  match z, hz with
  | .error u, hz => exact hx σ pins H1 s1 u s2 I1 hz
  | .ok (.ret u), hz => exact I1.after hz
  | .ok .next, hz => exact hz.elim
  | .ok .brk, hz => exact hz.elim
  | .ok .cont, hz => exact hz.elim
theorem tbl_uniq {xs : List Int} {r : Rl} {es es' : List (Option Int)} (h : Tbl xs r es) (k : Tbl xs r es') {i : Nat} (hi : i < (topOf xs).toNat) : (es[i]?).join = (es'[i]?).join := h.2.uniq k.2 hi
theorem few_far {xs : List Int} {r : Rl} {n : Int} {o : Option Int} {es : List (Option Int)} (hV : 0 < topOf xs) (f : FewIs xs r n o) (nb : (topOf xs - 1) * (topOf xs - 1) < n) (tb : Tbl xs r es) : o = ((es[(n % topOf xs).toNat]?).join).map fun c => (n + c) / topOf xs := by
  rcases f with ⟨_, es', tb', e⟩ | ⟨z, _⟩
  · have m0 := Int.emod_nonneg n (show topOf xs ≠ 0 by omega)
    have m1 := Int.emod_lt_of_pos n hV
    rw [e, tbl_uniq tb' tb (by omega)]
  · omega
theorem size_due {xs : List Int} {r : Rl} {es : List (Option Int)} {n c : Int} (hV : 0 < topOf xs) (ok : OkV xs) (tb : Tbl xs r es) (e : (es[(n % topOf xs).toNat]?).join = some c) : topOf xs * ((n + c) / topOf xs) = n + c ∧ 0 ≤ c ∧ c ≤ 7200 := by
  have m0 := Int.emod_nonneg n (show topOf xs ≠ 0 by omega)
  have m1 := Int.emod_lt_of_pos n hV
  obtain ⟨⟨w, hw, hr, hc⟩, hl⟩ := tb.2.some_ _ c (by omega) e
  rw [Int.toNat_of_nonneg m0] at hr
  have hp1 : ∀ s ∈ stepsOf xs r, 1 ≤ s.2 := fun s h => (steps_pos ok s h).1
  have wc : wcost w = w.length * topOf xs - wsum w := walk_cost hw
  have sh : w.length < (topOf xs).toNat := short_of_least hV hp1 hw fun w' hw' e' => by
    rw [hc]
    exact hl w' hw' (by rw [e', hr, Int.toNat_of_nonneg m0])
  have tp := ok.top
  refine ⟨?_, by rw [← hc]; exact cost_nonneg hp1 hw, ?_⟩
  · have dv : topOf xs ∣ n + c := by
      have h1 : topOf xs ∣ n - wsum w := Int.dvd_of_emod_eq_zero (by rw [Int.sub_emod, hr, Int.sub_self, Int.zero_emod])
      have h2 : n + c = n - wsum w + w.length * topOf xs := by rw [← hc, wc]; omega
      rw [h2]
      exact Int.dvd_add h1 (Int.dvd_mul_left _ _)
    exact Int.mul_ediv_cancel' dv
  · have : ∀ w : List K75.Step, In (stepsOf xs r) w → wcost w ≤ 120 * w.length := fun w => by
      induction w with
      | nil => intro _; simp
      | cons s w ih =>
        intro h
        have := ih fun t ht => h t (by simp [ht])
        have := (steps_pos ok s (h s (by simp))).2.1
        rw [wcost_cons, List.length_cons]
        omega
    have := this w hw
    omega
def sp_right (K : PySem.W.Frag) : Sp := fun vs H Q _ => ∃ (a t : Addr) (xs : List Int) (r : Rl) (n : Int) (es : List (Option Int)), vs = [.ref a, .ref t, .int n] ∧ SysAt K H a xs r ∧ Tbl xs r es ∧ H t = some (.lst (es.map optV)) ∧ (topOf xs - 1) * (topOf xs - 1) < n ∧ n ≤ 5 * 10 ^ 29 ∧ ∀ H', Same H H' → Q (.bl true) H'

theorem sc_law_number_right : FnScope ["_law_system", "_law_table_here", "_law_number", "_law_top", "_law_rest", "_law_due", "_law_more", "_law_word_here", "_law_caught"] ["_law_system", "_law_table_here", "_law_number"] (defScope (top 76)) := ⟨rfl, rfl, rfl, by decide +kernel, rfl, by decide +kernel, by decide +kernel⟩
theorem R_law_number_right (hP : PFile P) (T : Txt K mg) : FnR P w K mg base CX0 10 (ga K "_law_number_right") (sp_right K) := by
  obtain ⟨fd, F⟩ := T.law_number_right.F
  have sc := sc_law_number_right
  refine Fun.raw F sc (fun vs H Q E h => ?_) (fun _ _ _ _ _ _ us hl => match us, hl with | [_, _, _], _ => rfl) (fun cdv A outer s H vs Q E hr h => ?_)
  · obtain ⟨_, _, _, _, _, _, rfl, _⟩ := h
    rfl
  obtain ⟨a, t, xs, r, n, es, rfl, hs, tb, ht, nb, nt, q⟩ := h
  refine ⟨_, (pss_cons
    (ps_set (i := 3) sc.nd rfl (by first | exact Or.inl rfl | exact Or.inr rfl) (pe_top T hr (pv 0)))
    (pss_cons
    (ps_set (i := 4) sc.nd rfl (by first | exact Or.inl rfl | exact Or.inr rfl) (pe_ix ix_list (pv 1) (pe_op op_mod (pv 2) (pv 3)) (fun _ _ => rfl)))
    (pss_cons
    (ps_set (i := 5) sc.nd rfl (by first | exact Or.inl rfl | exact Or.inr rfl) (pe_ifExp (pt_cmpR op_isN (pv 4) pe_non (nomark _)) pe_non (pe_op op_fdivW (pe_op op_add (pv 2) (pv 4)) (pv 3))))
    (pss_cons
    (ps_set (i := 6) sc.nd rfl (by first | exact Or.inl rfl | exact Or.inr rfl) (pe_ifExp (pt_cmpR op_isN (pv 5) pe_non (nomark _)) pe_non (pe_op op_add (pv 5) pe_int)))
    (pss_cons
    (ps_if (pt_not (pt_val (cR T.law_alike (R_law_alike T) hr pass0 (pa_cons (pe_lst (pa_cons (cR T.fewest (R_fewest T) hr pass0 (pa_cons (pv 0) (pa_cons (pv 2) pa_nil))) (pa_cons (cR T.fewest (R_fewest T) hr pass0 (pa_cons (pv 0) (pa_cons (pe_op op_add (pv 2) (pv 3)) pa_nil))) pa_nil))) (pa_cons (pe_lst (pa_cons (pv 5) (pa_cons (pv 6) pa_nil))) pa_nil)))))
      (pss_one
      (ps_ret pe_bl))
      pss_nil)
    (pss_cons
    (ps_if (pt_cmpR op_isN (pv 5) pe_non (nomark _))
      (pss_cons
      (ps_set (i := 8) sc.nd rfl (by first | exact Or.inl rfl | exact Or.inr rfl) pe_bl)
      (pss_cons
      (ps_try_only (Wout := fun _ _ _ _ => False) (c := .ref (ga K "NoWord")) rfl rfl ⟨rfl, rfl, .inl T.NoWord.g⟩ (fun _ _ z => by obtain ⟨_, _, _, _, _, _, _, _, _, _, _, _, _, _, _, _, h⟩ := z; exact h.elim)
        (fun W pn xe tk ps => pss_one (ps_expr (cRS (E := WE W) T.shortest (R_shortest T) hr (passAt tk) (pa_cons (pv 0) (pa_cons (pv 2) pa_nil)))))
        (fun e oe cls d pn hz hd => pss_one (ps_set (i := 8) sc.nd rfl (by first | exact Or.inl rfl | exact Or.inr rfl) pe_bl)))
      (pss_one
      (ps_ret (pv 8)))))
      pss_nil)
    (pss_cons
    (ps_set (i := 7) sc.nd rfl (by first | exact Or.inl rfl | exact Or.inr rfl) (cR T.shortest (R_shortest T) (E := E0) hr passL (pa_cons (pv 0) (pa_cons (pv 2) pa_nil))))
    (pss_cons
    (ps_if (pt_not (pt_val (cR T.law_alike (R_law_alike T) hr pass0 (pa_cons (pe_lst (pa_cons (cR T.value_of (R_value_of hP T) hr pass0 (pa_cons (pv 0) (pa_cons (pv 7) pa_nil))) (pa_cons (cR T.size_of (R_size_of hP T) hr pass0 (pa_cons (pv 0) (pa_cons (pv 7) pa_nil))) pa_nil))) (pa_cons (pe_lst (pa_cons (pv 2) (pa_cons (pv 5) pa_nil))) pa_nil)))))
      (pss_one
      (ps_ret pe_bl))
      pss_nil)
    (pss_cons
    (ps_if (pt_not (pt_val (cR T.shows_bound (R_shows_bound T) hr pass0 (pa_cons (pv 0) (pa_cons (pv 2) (pa_cons (pv 5) (pa_cons (pv 1) pa_nil)))))))
      (pss_one
      (ps_ret pe_bl))
      pss_nil)
    (pss_one
    (ps_ret (pe_not (cR T.shows_bound (R_shows_bound T) hr pass0 (pa_cons (pv 0) (pa_cons (pv 2) (pa_cons (pe_op op_add (pv 5) pe_int) (pa_cons (pv 1) pa_nil))))))))))))))))), ?_⟩
  have tp := hs.ok.top
  have hV : 0 < topOf xs := by omega
  have nn : 0 ≤ (topOf xs - 1) * (topOf xs - 1) := Int.mul_nonneg (by omega) (by omega)
  have hel : es.length = (topOf xs).toNat := tb.1
  have m0 := Int.emod_nonneg n (show topOf xs ≠ 0 by omega)
  have m1 := Int.emod_lt_of_pos n hV
  have nat6 : (topOf xs).natAbs < 2 ^ 6 := by omega
  generalize hj : (n % topOf xs).toNat = j
  have hji : ((j : Nat) : Int) = n % topOf xs := by omega
  obtain ⟨o, eo⟩ : ∃ o, es[j]? = some o := ⟨_, List.getElem?_eq_getElem (by omega)⟩
  have ej : (es[j]?).join = o := by rw [eo] <;> rfl
  have gj : atI (es.map optV) (n % topOf xs) = some (optV o) := by
    rw [← hji]
    exact atI_nat (by rw [List.getElem?_map, eo] <;> rfl)
  have res2 : (n + topOf xs) % topOf xs = n % topOf xs := Int.add_emod_right n (topOf xs)
  have fw1 : ∀ o', FewIs xs r n o' → o' = o.map fun c => (n + c) / topOf xs := fun o' f => by rw [few_far hV f nb tb, hj, ej]
  have fw2 : ∀ o', FewIs xs r (n + topOf xs) o' → o' = o.map fun c => (n + c) / topOf xs + 1 := fun o' f => by
    rw [few_far hV f (by omega) tb, res2, hj, ej]
    congr 1
    funext c
    rw [show n + topOf xs + c = n + c + topOf xs by omega, Int.add_ediv_of_dvd_right (Int.dvd_refl _), Int.ediv_self (by omega)]
  -- a comparison of what two calls answer
  refine ⟨_, rfl, hs.tTop ⟨_, rfl, _, rfl, _, rfl, _, _, rfl, rfl, hV, t, _, _, _, rfl, rfl, sqL ht, gj, ?_⟩⟩
  cases o with
  | none =>
    refine ⟨_, rfl, rfl, true, rfl, iteT ⟨_, rfl, rfl, true, rfl, iteT ?_⟩⟩
    refine ⟨_, rfl, _, rfl, a, xs, r, n, rfl, hs, by omega, by omega, fun H1 o1 s1 f1 => ⟨_, rfl, _, rfl, _, rfl, _, _, rfl, rfl, a, xs, r, _, rfl, hs.same s1, by omega, by omega, fun H2 o2 s2 f2 => ⟨by simp [sizeLine_eq], fun l1 hl1 => ⟨_, rfl, _, rfl, by simp [sizeLine_eq], fun l2 hl2 => ⟨l1, l2, [none, none], rfl, ?_, upd_same, by decide, fun H3 s3 => ⟨true, rfl, iteF ?_⟩⟩⟩⟩⟩⟩
    · obtain rfl := fw1 o1 f1
      obtain rfl := fw2 o2 f2
      exact (same_new hl2) _ _ upd_same
    have s13 : Same H H3 := (s1.trans s2).trans (((same_new hl1).trans (same_new hl2)).trans s3)
    refine ⟨_, rfl, rfl, true, rfl, iteT ?_⟩
    refine ⟨_, rfl, _, rfl, a, xs, r, n, es, rfl, hs.same s13, tb, nb, by omega, fun _ H4 s4 => ⟨true, T.NoWord.self, fun _ e he => ?_, fun z => by cases z⟩, fun c' e' => by rw [hj, ej] at e'; cases e'⟩
    exact ⟨_, rfl, q _ (s13.trans s4)⟩
  | some c =>
    refine ⟨_, rfl, rfl, false, rfl, iteF ⟨_, rfl, _, rfl, _, _, rfl, rfl, _, rfl, _, _, rfl, rfl, wide_div (b := 6) hV nat6 (by decide) (by decide), ?_⟩⟩
    refine ⟨_, rfl, rfl, false, rfl, iteF ⟨_, rfl, _, _, rfl, rfl, ?_⟩⟩
    obtain ⟨dv, c0, c1⟩ := size_due hV hs.ok tb (by rw [hj]; exact ej)
    dsimp only
    generalize hd : (n + c) / topOf xs = d at *
    refine ⟨_, rfl, _, rfl, a, xs, r, n, rfl, hs, by omega, by omega, fun H1 o1 s1 f1 => ⟨_, rfl, _, rfl, _, rfl, _, _, rfl, rfl, a, xs, r, _, rfl, hs.same s1, by omega, by omega, fun H2 o2 s2 f2 => ⟨by simp [sizeLine_eq], fun l1 hl1 => ⟨_, rfl, _, rfl, by simp [sizeLine_eq], fun l2 hl2 => ⟨l1, l2, [some d, some (d + 1)], rfl, ?_, upd_same, by simp, fun H3 s3 => ⟨true, rfl, iteF ?_⟩⟩⟩⟩⟩⟩
    · obtain rfl : o1 = some d := by rw [fw1 o1 f1, ← hd] <;> rfl
      obtain rfl : o2 = some (d + 1) := by rw [fw2 o2 f2, ← hd] <;> rfl
      exact (same_new hl2) _ _ upd_same
    have s13 : Same H H3 := (s1.trans s2).trans (((same_new hl1).trans (same_new hl2)).trans s3)
    refine ⟨_, rfl, rfl, false, rfl, iteF ?_⟩
    refine ⟨_, rfl, _, rfl, a, xs, r, n, es, rfl, hs.same s13, tb, nb, by omega, fun e' => (by rw [hj, ej] at e'; cases e'), fun c' e' H4 wl ws s4 hwl hww g gv gs => ?_⟩
    have s14 := s13.trans s4
    obtain rfl : c = c' := by rw [hj, ej] at e'; cases e'; rfl
    rw [hd] at gs
    refine ⟨_, rfl, _, rfl, a, wl, xs, r, ws, rfl, hs.same s14, hww, g, fun H5 s5 => ⟨_, rfl, _, rfl, a, wl, xs, r, ws, rfl, (hs.same s14).same s5, hww.same s5, g, fun H6 s6 => ?_⟩⟩
    refine ⟨by simp [sizeLine_eq], fun l3 hl3 => ⟨_, rfl, _, rfl, by simp [sizeLine_eq], fun l4 hl4 => ⟨l3, l4, [some n, some d], rfl, ?_, upd_same, by simp, fun H7 s7 => ⟨true, rfl, iteF ?_⟩⟩⟩⟩
    · have := (same_new (o := .lst [V.int n, V.int d]) hl4) _ _ (upd_same (H := H6) (a := l3) (o := .lst [V.int (valF (signsF r ws)), V.int (szF (signsF r ws))]))
      rw [gv, gs] at this ⊢
      exact this
    have s17 : Same H H7 := ((s14.trans s5).trans s6).trans (((same_new hl3).trans (same_new hl4)).trans s7)
    have vd : topOf xs * (d - 1) = topOf xs * d - topOf xs := by rw [Int.mul_sub, Int.mul_one]
    have vd2 : topOf xs * (d + 1 - 1) = topOf xs * d := by rw [show d + 1 - 1 = d by omega]
    have d1 : 1 ≤ d := by
      by_cases z : 1 ≤ d
      · exact z
      · have : topOf xs * d ≤ 0 := Int.mul_nonpos_of_nonneg_of_nonpos (by omega) (by omega)
        omega
    have dn : d ≤ n + c := by
      have : 1 * d ≤ topOf xs * d := Int.mul_le_mul_of_nonneg_right (by omega) (by omega)
      omega
    refine ⟨_, rfl, _, rfl, _, rfl, _, rfl, a, t, xs, r, n, d, c, es, rfl, hs.same s17, tb, s17 _ _ ht, by omega, by omega, d1, by omega, by rw [hj]; exact ej, fun H8 s8 => ?_⟩
    rw [decide_eq_true (show topOf xs * (d - 1) - n + 1 ≤ c by omega)]
    refine ⟨true, rfl, iteF ?_⟩
    have s18 := s17.trans s8
    refine ⟨_, rfl, _, rfl, _, rfl, _, _, rfl, rfl, _, rfl, a, t, xs, r, n, d + 1, c, es, rfl, hs.same s18, tb, s18 _ _ ht, by omega, by omega, by omega, by omega, by rw [hj]; exact ej, fun H9 s9 => ?_⟩
    rw [decide_eq_false (show ¬ topOf xs * (d + 1 - 1) - n + 1 ≤ c by omega)]
    exact ⟨false, rfl, q _ (s18.trans s9)⟩
end
end K75R
set_option Elab.async false
set_option linter.all false
/-! What the law compares: rules among each other. -/
namespace K75R
open K75
theorem plainB_ne {r : Rl} (h : r ≠ .plain) : plainB r = false := by unfold plainB; exact decide_eq_false h
theorem stepsOf_sub {xs : List Int} {r r' : Rl} (h : r ≠ .plain) (h' : r' ≠ .plain) : stepsOf xs r = stepsOf xs r' := by
  unfold stepsOf
  rw [plainB_ne h, plainB_ne h']
theorem Tbl.sub {xs : List Int} {r r' : Rl} {es : List (Option Int)} (h : r ≠ .plain) (h' : r' ≠ .plain) (t : Tbl xs r es) : Tbl xs r' es := by
  unfold Tbl at *
  rw [stepsOf_sub h' h]
  exact t
/-- the subtracting rules need as many signs -/
theorem few_sub {xs : List Int} {r r' : Rl} {n : Int} {o o' : Option Int} (hV : 0 < topOf xs) (nb : (topOf xs - 1) * (topOf xs - 1) < n) (h : r ≠ .plain) (h' : r' ≠ .plain) (f : FewIs xs r n o) (f' : FewIs xs r' n o') : o = o' := by
  rcases id f with ⟨_, es, tb, _⟩ | ⟨z, _⟩
  · rw [few_far hV f nb tb, few_far hV f' nb (tb.sub h h')]
  · omega
theorem plain_steps {xs : List Int} {r : Rl} : ∀ s ∈ stepsOf xs .plain, s ∈ stepsOf xs r := fun s hs => by
  obtain ⟨v, hv, e⟩ := mem_stepsF.mp hs
  refine mem_stepsF.mpr ⟨v, hv, ?_⟩
  rcases e with e | ⟨z, _⟩
  · exact .inl e
  · cases z
/-- the plain rule never needs fewer -/
theorem few_plain {xs : List Int} {r : Rl} {n d : Int} {o : Option Int} (hV : 0 < topOf xs) (nb : (topOf xs - 1) * (topOf xs - 1) < n) (f : FewIs xs .plain n (some d)) (f' : FewIs xs r n o) : ∃ t, o = some t ∧ t ≤ d := by
  rcases id f with ⟨_, es, tb, e⟩ | ⟨z, _⟩
  · rcases id f' with ⟨_, es', tb', e'⟩ | ⟨z, _⟩
    · have m0 := Int.emod_nonneg n (show topOf xs ≠ 0 by omega)
      have m1 := Int.emod_lt_of_pos n hV
      cases q : (es[(n % topOf xs).toNat]?).join with
      | none => rw [q] at e; cases e
      | some c =>
        obtain ⟨c', e2, le⟩ := tb.2.le tb'.2 plain_steps (by omega) q
        rw [q] at e
        have e2 : (es'[(n % topOf xs).toNat]?).join = some c' := e2
        rw [e2] at e'
        refine ⟨_, e', ?_⟩
        have : d = (n + c) / topOf xs := by cases e; rfl
        rw [this]
        exact Int.ediv_le_ediv hV (by omega)
    · omega
  · omega
end K75R
set_option Elab.async false
set_option linter.all false
/-! Tables of small numbers, compared. -/
namespace K75R
open K75
def Dom (A A' : List Tri) : Prop := ∀ e ∈ A, ∃ e' ∈ A', e'.1 = e.1 ∧ e'.2.2.length ≤ e.2.2.length
theorem reach_dom {A A' : List Tri} {lo hi lo' hi' b n0 t n : Int} (d : Dom A A') (hl : lo' ≤ lo) (hh : hi ≤ hi') (h : Reach A lo hi b n0 t n) : ∃ m, Reach A' lo' hi' b n0 t m ∧ m ≤ n := by
  induction h with
  | base => exact ⟨n0, .base, Int.le_refl _⟩
  | step h he h1 h2 ih =>
    obtain ⟨m, hm, le⟩ := ih
    obtain ⟨e', he', e1, e2⟩ := d _ he
    have := Reach.step hm he' (by rw [e1]; omega) (by rw [e1]; omega)
    rw [e1] at this
    exact ⟨_, this, by omega⟩
theorem least_dom {A A' : List Tri} {lo hi lo' hi' b n0 t n : Int} {S S' : Int → Option Int} (d : Dom A A') (hl : lo' ≤ lo) (hh : hi ≤ hi') (h : LeastS A lo hi b n0 S) (h' : LeastS A' lo' hi' b n0 S') (e : S t = some n) : ∃ m, S' t = some m ∧ m ≤ n := by
  obtain ⟨m, hm, le⟩ := reach_dom d hl hh (h.sound t n e)
  obtain ⟨k, hk, lk⟩ := h'.all t m hm
  exact ⟨k, hk, by omega⟩
/-- the tables Ts' know nothing longer than Ts -/
def TabLe (Ts Ts' : List (Int × (Int → Option Int))) (n : Int) : Prop := ∀ T ∈ Ts, ∀ m, T.2 n = some m → ∃ T' ∈ Ts', ∃ k, T'.2 n = some k ∧ k ≤ m
theorem TabLe.min {Ts Ts' : List (Int × (Int → Option Int))} {n d : Int} {o : Option Int} (h : TabLe Ts Ts' n) (m : IsMin Ts n (some d)) (m' : IsMin Ts' n o) : ∃ t, o = some t ∧ t ≤ d := by
  obtain ⟨T, hT, e⟩ := m.1
  obtain ⟨T', hT', k, ek, le⟩ := h T hT d e
  cases o with
  | none =>
    have := m' T' hT'
    rw [this] at ek
    cases ek
  | some t => exact ⟨t, rfl, by have := m'.2 T' hT' k ek; omega⟩
theorem cbw_dom {zs zs' : List (List Int)} {A A' : List Tri} (h : Cbw zs A) (h' : Cbw zs' A') (sub : ∀ z ∈ zs, z ∈ zs') : Dom A A' := fun e he => by
  obtain ⟨h1, h2⟩ := h.src e he
  obtain ⟨e', he', e1, e2⟩ := h'.all _ (sub _ h1)
  exact ⟨e', he', by rw [e1, h2], e2⟩
theorem pair_dom {A A' : List Tri} (h : pairA A = pairA A') : Dom A A' := fun e he => by
  have : (e.1, e.2.2) ∈ pairA A := List.mem_map.mpr ⟨e, he, rfl⟩
  rw [h] at this
  obtain ⟨e', he', q⟩ := List.mem_map.mp this
  obtain ⟨q1, q2⟩ := Prod.mk.inj q
  exact ⟨e', he', q1, Nat.le_of_eq (congrArg List.length q2)⟩
theorem IsReach.le {A A' : List Tri} {R R' : Int} (d : Dom A A') (h : IsReach A R) (h' : IsReach A' R') : R ≤ R' := by
  obtain ⟨e, he, hR⟩ := h.some_
  obtain ⟨e', he', e1, _⟩ := d e he
  have := h'.all e' he'
  rw [e1] at this
  omega
/-- two runs of one system -/
theorem TabsOk.le {xs : List Int} {r : Rl} {lim n : Int} {Ts Ts' : List (Int × (Int → Option Int))} (h : TabsOk xs r lim Ts) (h' : TabsOk xs r lim Ts') : TabLe Ts Ts' n := by
  rcases h with ⟨o, A, R, S, c, hR, hS, rfl⟩ | ⟨o, hm, hT⟩
  · rcases h' with ⟨_, A', R', S', c', hR', hS', rfl⟩ | ⟨o', _⟩
    · have d := cbw_dom c c' fun z hz => hz
      have rl := hR.le d hR'
      intro T hT m e
      rw [List.mem_singleton.mp hT] at e
      obtain ⟨k, ek, le⟩ := least_dom d (by omega) (by omega) hS hS' e
      exact ⟨_, List.mem_singleton.mpr rfl, k, ek, le⟩
    · exact absurd o o'
  · rcases h' with ⟨o', _⟩ | ⟨_, hm', hT'⟩
    · exact absurd o' o
    · intro T hTm m e
      have : T.1 ∈ Ts'.map (·.1) := by rw [hm', ← hm]; exact List.mem_map.mpr ⟨T, hTm, rfl⟩
      obtain ⟨T', hTm', eg⟩ := List.mem_map.mp this
      obtain ⟨A, sg, hS⟩ := hT T hTm
      obtain ⟨A', sg', hS'⟩ := hT' T' hTm'
      have eg : T'.1 = T.1 := eg
      rw [eg] at sg' hS'
      obtain ⟨k, ek, le⟩ := least_dom (pair_dom (sg.trans sg'.symm)) (by omega) (by omega) hS hS' e
      exact ⟨T', hTm', k, ek, le⟩
theorem mostN_lt {xs : List Int} {n : Int} (h : ¬ n ≤ (mostN xs : Nat)) (ok : OkV xs) : (topOf xs - 1) * (topOf xs - 1) < n := by
  have := mostN_int (xs := xs) ok.top.1
  omega
/-- one system is not longer than itself -/
theorem notLonger_self {xs : List Int} {r : Rl} (ok : OkV xs) : NotLonger xs r r := fun os es os' es' f f' n n1 d e => by
  have hV : 0 < topOf xs := by have := ok.top; omega
  have m0 := Int.emod_nonneg n (show topOf xs ≠ 0 by omega)
  have m1 := Int.emod_lt_of_pos n hV
  unfold farV at *
  by_cases z : n ≤ (mostN xs : Nat)
  · rw [if_pos z] at *
    obtain ⟨Ts, hT, hk⟩ := f.small
    obtain ⟨Ts', hT', hk'⟩ := f'.small
    obtain ⟨o, eo, mo⟩ := hk n.toNat (by omega) (by omega)
    obtain ⟨o', eo', mo'⟩ := hk' n.toNat (by omega) (by omega)
    rw [eo'] at e
    obtain rfl : o' = some d := e
    rw [eo]
    exact (hT'.le hT).min mo' mo
  · rw [if_neg z] at *
    rw [tbl_uniq f.tbl f'.tbl (i := (n % topOf xs).toNat) (by omega), e]
    exact ⟨d, rfl, Int.le_refl _⟩
end K75R
set_option Elab.async false
set_option linter.all false
/-! A plain word is a word of every rule. -/
namespace K75R
open K75
theorem plain_form {xs : List Int} {z : List Int} (h : z ∈ stretchesF .plain xs) : ∃ v ∈ xs, z = [v] := by
  obtain ⟨l, v, rfl, hv, hb, _⟩ := stretch_form h
  rw [hb.2.1 rfl]
  exact ⟨v, hv, rfl⟩
theorem sgn_pos {xs : List Int} {g a : Int} {A : List Tri} (h : Sgn xs g (pairA A)) (ha : a ∈ xs) (le : a ≤ g) : ∃ e ∈ A, e.1 = a ∧ e.2.2 = [a] := by
  have : (a, [a]) ∈ pairA A := by
    rw [h]
    exact List.mem_append_left _ (List.mem_map.mpr ⟨a, List.mem_filter.mpr ⟨ha, decide_eq_true le⟩, rfl⟩)
  obtain ⟨e, he, q⟩ := List.mem_map.mp this
  obtain ⟨q1, q2⟩ := Prod.mk.inj q
  exact ⟨e, he, q1, q2⟩
theorem sgn_neg {xs : List Int} {g a : Int} {A : List Tri} (h : Sgn xs g (pairA A)) (ha : a ∈ xs) (lt : a < g) : ∃ e ∈ A, e.1 = 0 - a ∧ e.2.2 = [a] := by
  have : (0 - a, [a]) ∈ pairA A := by
    rw [h]
    exact List.mem_append_right _ (List.mem_map.mpr ⟨a, List.mem_filter.mpr ⟨ha, decide_eq_true lt⟩, rfl⟩)
  obtain ⟨e, he, q⟩ := List.mem_map.mp this
  obtain ⟨q1, q2⟩ := Prod.mk.inj q
  exact ⟨e, he, q1, q2⟩
/-- values added one by one -/
theorem reach_add {A : List Tri} {lo hi b n0 : Int} : ∀ (us : List Int) (t m : Int), (∀ u ∈ us, 1 ≤ u ∧ ∃ e ∈ A, e.1 = u ∧ (e.2.2.length : Int) ≤ 1) → Reach A lo hi b n0 t m → lo ≤ t → t + us.sum ≤ hi → ∃ k, Reach A lo hi b n0 (t + us.sum) k ∧ k ≤ m + us.length
  | [], t, m, _, h, _, _ => ⟨m, by simpa using h, by simp⟩
  | u :: us, t, m, hu, h, h0, h1 => by
    obtain ⟨u1, e, he, e1, e2⟩ := hu u (by simp)
    have pos : ∀ l : List Int, (∀ u ∈ l, 1 ≤ u) → 0 ≤ l.sum := fun l => by
      induction l with
      | nil => intro _; simp
      | cons a l ih =>
        intro h
        have := h a (by simp)
        have := ih fun z hz => h z (by simp [hz])
        simp only [List.sum_cons]
        omega
    have ps := pos us fun z hz => (hu z (by simp [hz])).1
    rw [List.sum_cons] at h1
    have st := Reach.step h he (by rw [e1]; omega) (by rw [e1]; omega)
    rw [e1] at st
    obtain ⟨k, hk, le⟩ := reach_add us _ _ (fun z hz => hu z (by simp [hz])) st (by omega) (by omega)
    refine ⟨k, ?_, by simp only [List.length_cons]; omega⟩
    rw [List.sum_cons, ← Int.add_assoc]
    exact hk
theorem plain_list {xs : List Int} {A : List Tri} {lo hi t n : Int} (c : Cbw (stretchesF .plain xs) A) (h : Reach A lo hi 0 0 t n) : ∃ us : List Int, (∀ u ∈ us, u ∈ xs) ∧ us.sum = t ∧ (us.length : Int) = n := by
  induction h with
  | base => exact ⟨[], by simp, by simp, by simp⟩
  | step h he h1 h2 ih =>
    obtain ⟨us, i1, i2, i3⟩ := ih
    obtain ⟨q1, q2⟩ := c.src _ he
    obtain ⟨v, hv, ez⟩ := plain_form q1
    rw [q2, ez]
    refine ⟨v :: us, fun u hu => ?_, ?_, ?_⟩
    · rcases List.mem_cons.mp hu with rfl | hu
      · exact hv
      · exact i1 u hu
    · rw [List.sum_cons, i2, show worthF [v] = v from by rw [show [v] = [] ++ [v] from rfl, worth_snoc]; simp]
      omega
    · simp [i3]
theorem max_of : ∀ us : List Int, us ≠ [] → ∃ g ∈ us, (∀ u ∈ us, u ≤ g) ∧ (us.erase g).sum + g = us.sum ∧ (us.erase g).length + 1 = us.length
  | us, h => by
    have : ∃ g ∈ us, ∀ u ∈ us, u ≤ g := by
      induction us with
      | nil => exact absurd rfl h
      | cons a l ih =>
        by_cases z : l = []
        · subst z
          exact ⟨a, by simp, fun u hu => by rw [List.mem_singleton.mp hu]; exact Int.le_refl _⟩
        · obtain ⟨g, hg, hm⟩ := ih z
          by_cases q : a ≤ g
          · refine ⟨g, by simp [hg], fun u hu => ?_⟩
            rcases List.mem_cons.mp hu with rfl | hu
            · exact q
            · exact hm u hu
          · refine ⟨a, by simp, fun u hu => ?_⟩
            rcases List.mem_cons.mp hu with rfl | hu
            · exact Int.le_refl _
            · have := hm u hu
              omega
    obtain ⟨g, hg, hm⟩ := this
    have pm := List.perm_cons_erase hg
    refine ⟨g, hg, hm, ?_, ?_⟩
    · rw [perm_sum pm, List.sum_cons, Int.add_comm]
    · rw [pm.length_eq, List.length_cons]
theorem plain_le {xs : List Int} {r : Rl} {lim n : Int} {Ts Ts' : List (Int × (Int → Option Int))} (ok : OkV xs) (h : TabsOk xs .plain lim Ts) (h' : TabsOk xs r lim Ts') (n1 : 1 ≤ n) (nl : n ≤ lim) : TabLe Ts Ts' n := by
  rcases h with ⟨_, A, R, S, c, hR, hS, rfl⟩ | ⟨o, _⟩
  · intro T hT m e
    rw [List.mem_singleton.mp hT] at e
    rcases h' with ⟨_, A', R', S', c', hR', hS', rfl⟩ | ⟨o', hm', hT'⟩
    · have d : Dom A A' := cbw_dom c c' fun z hz => by
        obtain ⟨v, hv, rfl⟩ := plain_form hz
        exact stretch_one hv
      have rl := hR.le d hR'
      obtain ⟨k, ek, le⟩ := least_dom d (by omega) (by omega) hS hS' e
      exact ⟨_, List.mem_singleton.mpr rfl, k, ek, le⟩
    · obtain ⟨us, u1, u2, u3⟩ := plain_list c (hS.sound _ _ e)
      have ne : us ≠ [] := fun z => by rw [z] at u2; simp at u2; omega
      obtain ⟨g, hg, hm, es, el⟩ := max_of us ne
      have : g ∈ Ts'.map (·.1) := by rw [hm']; exact u1 g hg
      obtain ⟨T', hTm', eg⟩ := List.mem_map.mp this
      have eg : T'.1 = g := eg
      obtain ⟨A', sg', hS'⟩ := hT' T' hTm'
      rw [eg] at sg' hS'
      have b0 := (ok.bd g (u1 g hg)).1
      obtain ⟨k, hk, le⟩ := reach_add (A := A') (lo := 1 - g) (hi := lim + g) (b := g) (n0 := 1) (us.erase g) g 1 (fun u hu => by
        have hu' := List.mem_of_mem_erase hu
        obtain ⟨e, he, e1, e2⟩ := sgn_pos sg' (u1 u hu') (hm u hu')
        exact ⟨(ok.bd u (u1 u hu')).1, e, he, e1, by rw [e2]; simp⟩) .base (by omega) (by omega)
      rw [show g + (us.erase g).sum = n by omega] at hk
      obtain ⟨k2, ek, l2⟩ := hS'.all _ _ hk
      exact ⟨T', hTm', k2, ek, by omega⟩
  · exact absurd (.inl rfl) o
theorem notLonger_plain {xs : List Int} {r : Rl} (ok : OkV xs) : NotLonger xs r .plain := fun os es os' es' f f' n n1 d e => by
  have hV : 0 < topOf xs := by have := ok.top; omega
  have m0 := Int.emod_nonneg n (show topOf xs ≠ 0 by omega)
  have m1 := Int.emod_lt_of_pos n hV
  unfold farV at *
  by_cases z : n ≤ (mostN xs : Nat)
  · rw [if_pos z] at *
    obtain ⟨Ts, hT, hk⟩ := f.small
    obtain ⟨Ts', hT', hk'⟩ := f'.small
    obtain ⟨o, eo, mo⟩ := hk n.toNat (by omega) (by omega)
    obtain ⟨o', eo', mo'⟩ := hk' n.toNat (by omega) (by omega)
    rw [eo'] at e
    obtain rfl : o' = some d := e
    rw [eo]
    exact (plain_le ok hT' hT (by omega) (by omega)).min mo' mo
  · rw [if_neg z] at *
    cases q : (es'[(n % topOf xs).toNat]?).join with
    | none => rw [q] at e; cases e
    | some c =>
      obtain ⟨c', e2, le⟩ := f'.tbl.2.le f.tbl.2 plain_steps (by omega) q
      have e2 : (es[(n % topOf xs).toNat]?).join = some c' := e2
      rw [q] at e
      rw [e2]
      refine ⟨_, rfl, ?_⟩
      have : d = (n + c) / topOf xs := by cases e; rfl
      rw [this]
      exact Int.ediv_le_ediv hV (by omega)
end K75R
set_option Elab.async false
set_option linter.all false
/-! The same system, all values three times as great. -/
namespace K75R
open K75
def tri (xs : List Int) : List Int := xs.map fun v => 3 * v
theorem tri_top {xs : List Int} (ok : OkV xs) : topOf (tri xs) = 3 * topOf xs := by
  have e := ok.split
  unfold tri
  conv => lhs; rw [e]
  rw [List.map_append]
  unfold topOf
  rw [List.map_singleton, List.getLastD_concat]
theorem tri_drop (xs : List Int) : (tri xs).dropLast = xs.dropLast.map fun v => 3 * v := by
  unfold tri
  rw [List.map_dropLast]
theorem tri_ok {xs : List Int} (ok : OkV xs) (h : topOf xs < 21) : OkV (tri xs) := by
  have e := ok.split
  refine ⟨by unfold tri; simpa using ok.ne, by unfold tri; rw [List.length_map]; exact ok.len, fun v hv => ?_, ?_⟩
  · obtain ⟨u, hu, rfl⟩ := List.mem_map.mp hv
    have := (ok.bd u hu).1
    have : u ≤ topOf xs := by
      rw [e] at hu
      rcases List.mem_append.mp hu with h1 | h1
      · have := (ok.below h1).2
        omega
      · rw [List.mem_singleton.mp h1]
        exact Int.le_refl _
    omega
  · unfold tri
    exact List.pairwise_map.mpr (ok.up.imp fun {a b} h => by omega)
def tri2 (s : K75.Step) : K75.Step := (3 * s.1, 3 * s.2)
theorem tri_steps {xs : List Int} {r : Rl} (ok : OkV xs) (s : K75.Step) : s ∈ stepsOf (tri xs) r ↔ ∃ t ∈ stepsOf xs r, s = tri2 t := by
  unfold stepsOf
  rw [tri_top ok, tri_drop, mem_stepsF]
  constructor
  · rintro ⟨v, hv, e⟩
    obtain ⟨u, hu, rfl⟩ := List.mem_map.mp hv
    rcases e with rfl | ⟨z, rfl⟩
    · exact ⟨_, mem_stepsF.mpr ⟨u, hu, .inl rfl⟩, by unfold tri2; ext <;> dsimp <;> omega⟩
    · exact ⟨_, mem_stepsF.mpr ⟨u, hu, .inr ⟨z, rfl⟩⟩, by unfold tri2; ext <;> dsimp <;> omega⟩
  · rintro ⟨t, ht, rfl⟩
    obtain ⟨u, hu, e⟩ := mem_stepsF.mp ht
    refine ⟨3 * u, List.mem_map.mpr ⟨u, hu, rfl⟩, ?_⟩
    rcases e with rfl | ⟨z, rfl⟩
    · exact .inl (by unfold tri2; ext <;> dsimp <;> omega)
    · exact .inr ⟨z, by unfold tri2; ext <;> dsimp <;> omega⟩
theorem tri_walk {xs : List Int} {r : Rl} (ok : OkV xs) : ∀ {w : List K75.Step}, In (stepsOf (tri xs) r) w → ∃ u, In (stepsOf xs r) u ∧ wsum w = 3 * wsum u ∧ wcost w = 3 * wcost u
  | [], _ => ⟨[], In.nil, by simp, by simp⟩
  | s :: w, h => by
    obtain ⟨u, hu, e1, e2⟩ := tri_walk ok (w := w) fun t ht => h t (by simp [ht])
    obtain ⟨t, ht, rfl⟩ := (tri_steps ok s).mp (h s (by simp))
    exact ⟨t :: u, hu.cons ht, by rw [wsum_cons, wsum_cons, e1]; unfold tri2; dsimp; omega, by rw [wcost_cons, wcost_cons, e2]; unfold tri2; dsimp; omega⟩
theorem tri_back {xs : List Int} {r : Rl} (ok : OkV xs) : ∀ {u : List K75.Step}, In (stepsOf xs r) u → ∃ w, In (stepsOf (tri xs) r) w ∧ wsum w = 3 * wsum u ∧ wcost w = 3 * wcost u
  | [], _ => ⟨[], In.nil, by simp, by simp⟩
  | s :: u, h => by
    obtain ⟨w, hw, e1, e2⟩ := tri_back ok (u := u) fun t ht => h t (by simp [ht])
    exact ⟨tri2 s :: w, hw.cons ((tri_steps ok _).mpr ⟨s, h s (by simp), rfl⟩), by rw [wsum_cons, wsum_cons, e1]; unfold tri2; dsimp; omega, by rw [wcost_cons, wcost_cons, e2]; unfold tri2; dsimp; omega⟩
end K75R
set_option Elab.async false
set_option linter.all false
namespace K75R
open K75
theorem tri_tbl {xs : List Int} {r : Rl} {es es' : List (Option Int)} (ok : OkV xs) (t : Tbl xs r es) (t' : Tbl (tri xs) r es') {i : Nat} (hi : i < (topOf xs).toNat) : (es'[3 * i]?).join = ((es[i]?).join).map fun c => 3 * c := by
  have hV : 0 < topOf xs := by have := ok.top; omega
  have tt := tri_top ok
  have hi' : 3 * i < (topOf (tri xs)).toNat := by rw [tt]; omega
  have md : ∀ a : Int, (3 * a) % (3 * topOf xs) = 3 * (a % topOf xs) := fun a => Int.mul_emod_mul_of_pos a (topOf xs) (by decide)
  have g := t.2
  have g' := t'.2
  rw [tt] at g'
  rw [tt] at hi'
  cases e : (es[i]?).join with
  | none =>
    cases e' : (es'[3 * i]?).join with
    | none => rfl
    | some c' =>
      obtain ⟨⟨w, hw, h1, h2⟩, _⟩ := g'.some_ (3 * i) c' hi' e'
      obtain ⟨u, hu, s1, s2⟩ := tri_walk ok hw
      rw [s1, md] at h1
      exact absurd (by omega) (g.none_ i hi e u hu)
  | some c =>
    obtain ⟨⟨u, hu, h1, h2⟩, hl⟩ := g.some_ i c hi e
    obtain ⟨w, hw, s1, s2⟩ := tri_back ok hu
    have hw1 : wsum w % (3 * topOf xs) = ((3 * i : Nat) : Int) := by rw [s1, md]; omega
    cases e' : (es'[3 * i]?).join with
    | none => exact absurd hw1 (g'.none_ (3 * i) hi' e' w hw)
    | some c' =>
      obtain ⟨⟨w', hw', k1, k2⟩, kl⟩ := g'.some_ (3 * i) c' hi' e'
      have a1 := kl w hw hw1
      obtain ⟨u', hu', s3, s4⟩ := tri_walk ok hw'
      rw [s3, md] at k1
      have a2 := hl u' hu' (by omega)
      show some c' = some (3 * c)
      congr 1
      omega
theorem tri_far {xs : List Int} {r : Rl} {n : Int} {o o' : Option Int} (ok : OkV xs) (f : FewIs (tri xs) r (3 * n) o) (f' : FewIs xs r n o') (nb : (topOf xs - 1) * (topOf xs - 1) < n) (nb' : (topOf (tri xs) - 1) * (topOf (tri xs) - 1) < 3 * n) : o = o' := by
  have hV : 0 < topOf xs := by have := ok.top; omega
  have tt := tri_top ok
  have m0 := Int.emod_nonneg n (show topOf xs ≠ 0 by omega)
  have m1 := Int.emod_lt_of_pos n hV
  rcases f with ⟨_, es', tb', e⟩ | ⟨z, _⟩
  · rcases f' with ⟨_, es, tb, e'⟩ | ⟨z, _⟩
    · have md : (3 * n) % (3 * topOf xs) = 3 * (n % topOf xs) := Int.mul_emod_mul_of_pos n (topOf xs) (by decide)
      have ix : ((3 * n) % (3 * topOf xs)).toNat = 3 * (n % topOf xs).toNat := by omega
      rw [e, e', tt, ix, tri_tbl ok tb tb' (by omega), Option.map_map]
      congr 1
      funext c
      show (3 * n + 3 * c) / (3 * topOf xs) = (n + c) / topOf xs
      rw [← Int.mul_add]
      exact Int.mul_ediv_mul_of_pos (n + c) (topOf xs) (by decide)
    · omega
  · omega
end K75R
set_option Elab.async false
set_option linter.all false
namespace K75R
open K75
/-- a walk of this sum and no greater cost -/
def WkTo (S : List K75.Step) (V t c : Int) : Prop := ∃ w, In S w ∧ wsum w % V = t % V ∧ wcost w ≤ c
theorem WkTo.add {S : List K75.Step} {V t c t' c' : Int} (h : WkTo S V t c) (k : WkTo S V t' c') : WkTo S V (t + t') (c + c') := by
  obtain ⟨w, h1, h2, h3⟩ := h
  obtain ⟨w', k1, k2, k3⟩ := k
  refine ⟨w ++ w', h1.append k1, ?_, by rw [wcost_append]; omega⟩
  rw [wsum_append, Int.add_emod, h2, k2, ← Int.add_emod]
theorem reach_walk {S : List K75.Step} {V lo hi b n0 t n : Int} {A : List Tri} (hb : WkTo S V b (n0 * V - b)) (hA : ∀ e ∈ A, WkTo S V e.1 (e.2.2.length * V - e.1)) (h : Reach A lo hi b n0 t n) : WkTo S V t (n * V - t) := by
  induction h with
  | base => exact hb
  | @step t n e h he h1 h2 ih =>
    have := ih.add (hA e he)
    obtain ⟨w, k1, k2, k3⟩ := this
    refine ⟨w, k1, k2, ?_⟩
    rw [Int.add_mul]
    omega
theorem wk_pos {xs : List Int} {r : Rl} (ok : OkV xs) {a : Int} (ha : a ∈ xs) : WkTo (stepsOf xs r) (topOf xs) a (1 * topOf xs - a) := by
  have e := ok.split
  rw [e] at ha
  rcases List.mem_append.mp ha with h | h
  · exact ⟨[(a, topOf xs - a)], In.nil.cons (mem_stepsF.mpr ⟨a, h, .inl rfl⟩), by simp [wsum], by simp [wcost]⟩
  · rw [List.mem_singleton.mp h]
    exact ⟨[], In.nil, by simp [Int.emod_self], by simp⟩
theorem wk_neg {xs : List Int} {r : Rl} (ok : OkV xs) (hr : r ≠ .plain) {a : Int} (ha : a ∈ xs) (lt : a < topOf xs) : WkTo (stepsOf xs r) (topOf xs) (0 - a) (1 * topOf xs + a) := by
  have e := ok.split
  rw [e] at ha
  rcases List.mem_append.mp ha with h | h
  · exact ⟨[(0 - a, topOf xs + a)], In.nil.cons (mem_stepsF.mpr ⟨a, h, .inr ⟨plainB_ne hr, rfl⟩⟩), by simp [wsum], by simp [wcost]⟩
  · rw [List.mem_singleton.mp h] at lt
    omega
theorem le_top {xs : List Int} (ok : OkV xs) {a : Int} (ha : a ∈ xs) : a ≤ topOf xs := by
  have e := ok.split
  rw [e] at ha
  rcases List.mem_append.mp ha with h | h
  · have := (ok.below h).2
    omega
  · rw [List.mem_singleton.mp h]
    exact Int.le_refl _
theorem wk_stretch {xs : List Int} {r : Rl} (ok : OkV xs) (ho : one r) {z : List Int} (hz : z ∈ stretchesF (kdOf r) xs) : WkTo (stepsOf xs r) (topOf xs) (worthF z) (z.length * topOf xs - worthF z) := by
  obtain ⟨l, v, rfl, hv, hb, lt, _⟩ := stretch_form hz
  have lt := lt ok.up
  have vt := le_top ok hv
  have neg : ∀ l : List Int, (∀ a ∈ l, a ∈ xs ∧ a < topOf xs) → (l ≠ [] → r ≠ .plain) → WkTo (stepsOf xs r) (topOf xs) (0 - l.sum) (l.length * topOf xs + l.sum) := fun l => by
    induction l with
    | nil => intro _ _; exact ⟨[], In.nil, by simp, by simp⟩
    | cons a l ih =>
      intro h hp
      have hr := hp (by simp)
      obtain ⟨w, k1, k2, k3⟩ := (wk_neg ok hr (h a (by simp)).1 (h a (by simp)).2).add (ih (fun b hb => h b (by simp [hb])) fun _ => hr)
      refine ⟨w, k1, ?_, ?_⟩
      · rw [k2, List.sum_cons]
        congr 1
        omega
      · rw [List.sum_cons, List.length_cons, Int.natCast_add, Int.add_mul]
        omega
  have hl := neg l (fun a ha => ⟨hb.1 a ha, by have := lt a ha; omega⟩) fun ne hp => by
    subst hp
    exact ne (hb.2.1 rfl)
  obtain ⟨w, k1, k2, k3⟩ := (wk_pos (r := r) ok hv).add hl
  refine ⟨w, k1, ?_, ?_⟩
  · rw [k2, worth_snoc]
    congr 1
    omega
  · rw [worth_snoc, List.length_append, List.length_singleton, Int.natCast_add, Int.add_mul]
    omega
theorem tabs_walk {xs : List Int} {r : Rl} {lim n m : Int} {Ts : List (Int × (Int → Option Int))} (ok : OkV xs) (h : TabsOk xs r lim Ts) {T : Int × (Int → Option Int)} (hT : T ∈ Ts) (e : T.2 n = some m) : WkTo (stepsOf xs r) (topOf xs) n (m * topOf xs - n) := by
  rcases h with ⟨o, A, R, S, c, hR, hS, rfl⟩ | ⟨o, hm, hk⟩
  · rw [List.mem_singleton.mp hT] at e
    refine reach_walk ⟨[], In.nil, by simp, by simp⟩ (fun x hx => ?_) (hS.sound _ _ e)
    obtain ⟨h1, h2⟩ := c.src x hx
    rw [h2]
    exact wk_stretch ok o h1
  · have hr : r ≠ .plain := fun z => o (.inl z)
    obtain ⟨A, sg, hS⟩ := hk T hT
    have hg : T.1 ∈ xs := by rw [← hm]; exact List.mem_map.mpr ⟨T, hT, rfl⟩
    have gt := le_top ok hg
    refine reach_walk (wk_pos ok hg) (fun x hx => ?_) (hS.sound _ _ e)
    have hp : (x.1, x.2.2) ∈ pairA A := List.mem_map.mpr ⟨x, hx, rfl⟩
    rw [sg] at hp
    rcases List.mem_append.mp hp with h1 | h1
    · obtain ⟨a, ha, q⟩ := List.mem_map.mp h1
      obtain ⟨q1, q2⟩ := Prod.mk.inj q
      rw [← q1, ← q2]
      exact wk_pos ok (List.mem_filter.mp ha).1
    · obtain ⟨a, ha, q⟩ := List.mem_map.mp h1
      obtain ⟨q1, q2⟩ := Prod.mk.inj q
      have lt := of_decide_eq_true (List.mem_filter.mp ha).2
      rw [← q1, ← q2]
      obtain ⟨w, k1, k2, k3⟩ := wk_neg ok hr (List.mem_filter.mp ha).1 (by omega)
      refine ⟨w, k1, k2, ?_⟩
      simp only [List.length_singleton]
      omega
end K75R
set_option Elab.async false
set_option linter.all false
namespace K75R
open K75
def sm1 (ps : List (Int × Int)) : Int := (ps.map (·.1)).sum
def sm2 (ps : List (Int × Int)) : Int := (ps.map (·.2)).sum
theorem sm1_nonneg : ∀ {ps : List (Int × Int)}, (∀ p ∈ ps, 0 ≤ p.1) → 0 ≤ sm1 ps
  | [], _ => by simp [sm1]
  | p :: ps, h => by
    have := sm1_nonneg (ps := ps) fun q hq => h q (by simp [hq])
    have := h p (by simp)
    unfold sm1 at *
    simp only [List.map_cons, List.sum_cons]
    omega
/-- pieces that only add -/
theorem reach_addL {A : List Tri} {lo hi b n0 : Int} : ∀ (ps : List (Int × Int)) (t m : Int), (∀ p ∈ ps, 0 ≤ p.1 ∧ ∃ e ∈ A, e.1 = p.1 ∧ (e.2.2.length : Int) ≤ p.2) → Reach A lo hi b n0 t m → lo ≤ t → t + sm1 ps ≤ hi → ∃ k, Reach A lo hi b n0 (t + sm1 ps) k ∧ k ≤ m + sm2 ps
  | [], t, m, _, h, _, _ => ⟨m, by simpa [sm1] using h, by simp [sm2]⟩
  | p :: ps, t, m, hp, h, h0, h1 => by
    obtain ⟨p0, e, he, e1, e2⟩ := hp p (by simp)
    have ps0 := sm1_nonneg (ps := ps) fun q hq => (hp q (by simp [hq])).1
    have c1 : sm1 (p :: ps) = p.1 + sm1 ps := by simp [sm1]
    have c2 : sm2 (p :: ps) = p.2 + sm2 ps := by simp [sm2]
    rw [c1] at h1
    have st := Reach.step h he (by rw [e1]; omega) (by rw [e1]; omega)
    rw [e1] at st
    obtain ⟨k, hk, le⟩ := reach_addL ps _ _ (fun q hq => hp q (by simp [hq])) st (by omega) (by omega)
    refine ⟨k, ?_, by rw [c2]; omega⟩
    rw [c1, ← Int.add_assoc]
    exact hk
/-- a subtracted value and the greatest behind it -/
theorem reach_pairs {A : List Tri} {lo hi b n0 V : Int} (hV : ∃ e ∈ A, e.1 = V ∧ (e.2.2.length : Int) ≤ 1) : ∀ (us : List Int) (t m : Int), (∀ u ∈ us, 0 ≤ u ∧ u ≤ V ∧ ∃ e ∈ A, e.1 = 0 - u ∧ (e.2.2.length : Int) ≤ 1) → Reach A lo hi b n0 t m → lo + V ≤ t → t + (us.length * V - us.sum) ≤ hi →
    ∃ k, Reach A lo hi b n0 (t + (us.length * V - us.sum)) k ∧ k ≤ m + 2 * us.length
  | [], t, m, _, h, _, _ => ⟨m, by simpa using h, by simp⟩
  | u :: us, t, m, hu, h, h0, h1 => by
    obtain ⟨u0, u1, e, he, e1, e2⟩ := hu u (by simp)
    obtain ⟨e', he', e1', e2'⟩ := hV
    have nn : ∀ us : List Int, (∀ u ∈ us, u ≤ V) → us.sum ≤ us.length * V := fun us => by
      induction us with
      | nil => intro _; simp
      | cons a l ih =>
        intro h
        have := h a (by simp)
        have := ih fun z hz => h z (by simp [hz])
        simp only [List.sum_cons, List.length_cons, Int.natCast_add, Int.add_mul]
        omega
    have n1 := nn us fun z hz => (hu z (by simp [hz])).2.1
    have c1 : (((u :: us).length : Nat) : Int) * V - (u :: us).sum = (V - u) + (us.length * V - us.sum) := by
      simp only [List.sum_cons, List.length_cons, Int.natCast_add, Int.add_mul]
      omega
    rw [c1] at h1 ⊢
    have s1 := Reach.step h he (by rw [e1]; omega) (by rw [e1]; omega)
    have s2 := Reach.step s1 he' (by rw [e1, e1']; omega) (by rw [e1, e1']; omega)
    rw [e1, e1'] at s2
    obtain ⟨k, hk, le⟩ := reach_pairs ⟨e', he', e1', e2'⟩ us _ _ (fun q hq => hu q (by simp [hq])) s2 (by omega) (by omega)
    refine ⟨k, ?_, by simp only [List.length_cons]; omega⟩
    rw [show t + (V - u + (us.length * V - us.sum)) = t + (0 - u) + V + (us.length * V - us.sum) by omega]
    exact hk
end K75R
set_option Elab.async false
set_option linter.all false
namespace K75R
open K75
theorem sm_app (a b : List (Int × Int)) : sm1 (a ++ b) = sm1 a + sm1 b ∧ sm2 (a ++ b) = sm2 a + sm2 b := by simp [sm1, sm2]
theorem sm_rep (V : Int) (n : Nat) : sm1 (List.replicate n (V, 1)) = n * V ∧ sm2 (List.replicate n (V, 1)) = n := by
  induction n with
  | zero => simp [sm1, sm2]
  | succ n ih =>
    obtain ⟨h1, h2⟩ := ih
    rw [List.replicate_succ]
    unfold sm1 sm2 at *
    simp only [List.map_cons, List.sum_cons, h1, h2, Int.natCast_add, Int.add_mul]
    omega
theorem sm_pos (us : List Int) : sm1 (us.map fun u => (u, (1 : Int))) = us.sum ∧ sm2 (us.map fun u => (u, (1 : Int))) = us.length := by
  induction us with
  | nil => simp [sm1, sm2]
  | cons u us ih =>
    obtain ⟨h1, h2⟩ := ih
    unfold sm1 sm2 at *
    simp only [List.map_cons, List.sum_cons, List.length_cons, h1, h2]
    exact ⟨trivial, by omega⟩
theorem sm_neg (V : Int) (us : List Int) : sm1 (us.map fun u => (V - u, (2 : Int))) = us.length * V - us.sum ∧ sm2 (us.map fun u => (V - u, (2 : Int))) = 2 * us.length := by
  induction us with
  | nil => simp [sm1, sm2]
  | cons u us ih =>
    obtain ⟨h1, h2⟩ := ih
    unfold sm1 sm2 at *
    simp only [List.map_cons, List.sum_cons, List.length_cons, h1, h2, Int.natCast_add, Int.add_mul]
    omega
end K75R
set_option Elab.async false
set_option linter.all false
namespace K75R
open K75
theorem top_mem {xs : List Int} (ok : OkV xs) : topOf xs ∈ xs := topOf_mem ok.ne
theorem cbw_has {zs : List (List Int)} {A : List Tri} {z : List Int} (c : Cbw zs A) (hz : z ∈ zs) {v k : Int} (hv : worthF z = v) (hk : (z.length : Int) ≤ k) : ∃ e ∈ A, e.1 = v ∧ (e.2.2.length : Int) ≤ k := by
  obtain ⟨e, he, e1, e2⟩ := c.all z hz
  exact ⟨e, he, by rw [e1, hv], by omega⟩
theorem way_form {xs : List Int} {r : Rl} (ok : OkV xs) {st : List K75.Step} (hst : In (stepsOf xs r) st) : (∀ v ∈ st.map Prod.fst, v ≠ 0) ∧ (∀ u ∈ posOf (st.map Prod.fst), u ∈ xs ∧ 1 ≤ u) ∧ (∀ u ∈ negOf (st.map Prod.fst), u ∈ xs.dropLast ∧ 1 ≤ u ∧ u < topOf xs ∧ r ≠ .plain) := by
  have form : ∀ v ∈ st.map Prod.fst, (v ∈ xs.dropLast ∧ 1 ≤ v) ∨ (0 - v ∈ xs.dropLast ∧ v ≤ -1 ∧ 0 - v < topOf xs ∧ r ≠ .plain) := fun v hv => by
    obtain ⟨s, hs, rfl⟩ := List.mem_map.mp hv
    obtain ⟨u, hu, e⟩ := mem_stepsF.mp (hst s hs)
    have b := ok.below hu
    rcases e with rfl | ⟨z, rfl⟩
    · exact .inl ⟨hu, b.1⟩
    · refine .inr ⟨by simpa using hu, by dsimp; omega, by dsimp; omega, fun z2 => ?_⟩
      subst z2
      cases z
  refine ⟨fun v hv => ?_, fun u hu => ?_, fun u hu => ?_⟩
  · rcases form v hv with ⟨_, h⟩ | ⟨_, h, _⟩ <;> omega
  · unfold posOf at hu
    obtain ⟨h1, h2⟩ := List.mem_filter.mp hu
    have h2 := of_decide_eq_true h2
    rcases form u h1 with ⟨h, h'⟩ | ⟨_, h, _⟩
    · exact ⟨List.dropLast_subset _ h, h'⟩
    · omega
  · unfold negOf at hu
    obtain ⟨v, h1, rfl⟩ := List.mem_map.mp hu
    obtain ⟨h1, h2⟩ := List.mem_filter.mp h1
    have h2 := of_decide_eq_true h2
    rcases form v h1 with ⟨_, h⟩ | ⟨h, h', h'', h3⟩
    · omega
    · exact ⟨h, by omega, h'', h3⟩
theorem stretch_pair {xs : List Int} {k : Kd} (hk : k ≠ .plain) (ok : OkV xs) {u : Int} (hu : u ∈ xs.dropLast) : [u, topOf xs] ∈ stretchesF k xs := by
  have e := ok.split
  obtain ⟨i, hi, e1⟩ := List.mem_iff_getElem.mp hu
  refine stretch_two hk (i := i) (j := xs.dropLast.length) hi ?_ ?_
  · have h : xs.dropLast[i]? = some u := by rw [List.getElem?_eq_getElem hi, e1]
    rw [List.getElem?_dropLast] at h
    split at h
    · exact h
    · cases h
  · conv => lhs; rw [e]
    rw [List.getElem?_append_right (by simp)]
    simp
end K75R
set_option Elab.async false
set_option linter.all false
namespace K75R
open K75
/-- the tables know the far word -/
theorem tabs_word {xs : List Int} {r : Rl} {lim N : Int} {Ts : List (Int × (Int → Option Int))} (ok : OkV xs) (h : TabsOk xs r lim Ts) (N0 : 0 ≤ N) (Nl : N ≤ lim) {st : List K75.Step} (hst : In (stepsOf xs r) st) (hres : wsum st % topOf xs = N % topOf xs)
    (hq : wsum st + topOf xs * (negOf (st.map Prod.fst)).length < N) : ∃ T ∈ Ts, ∃ k, T.2 N = some k ∧ k * topOf xs ≤ N + wcost st := by
  obtain ⟨nz, fp, fn⟩ := way_form ok hst
  obtain ⟨sp1, sp2⟩ := split_sum _ nz
  have wc : wcost st = st.length * topOf xs - wsum st := walk_cost hst
  have ws : wsum st = (st.map Prod.fst).sum := rfl
  rw [List.length_map] at sp2
  have tp := ok.top
  generalize posOf (st.map Prod.fst) = ps at *
  generalize negOf (st.map Prod.fst) = ns at *
  generalize hV : topOf xs = V at *
  obtain ⟨q, hqe⟩ : V ∣ N - wsum st - V * ns.length := by
    have h1 : V ∣ N - wsum st := Int.dvd_of_emod_eq_zero (by rw [Int.sub_emod, hres, Int.sub_self, Int.zero_emod])
    exact Int.dvd_sub h1 (Int.dvd_mul_right _ _)
  have q1 : 1 ≤ q := by
    by_cases z : 1 ≤ q
    · exact z
    · have : V * q ≤ 0 := Int.mul_nonpos_of_nonneg_of_nonpos (by omega) (by omega)
      omega
  have qc : V * q = q * V := Int.mul_comm _ _
  have nc : V * (ns.length : Int) = ns.length * V := Int.mul_comm _ _
  have nsb : ∀ u ∈ ns, 1 ≤ u ∧ u < V := fun u hu => ⟨(fn u hu).2.1, (fn u hu).2.2.1⟩
  have lenQ : (q + 2 * ns.length + ps.length) * V = N + wcost st := by
    rw [Int.add_mul, Int.add_mul, wc, sp2, Int.natCast_add, Int.add_mul, Int.mul_assoc]
    omega
  have hVm : V ∈ xs := by rw [← hV]; exact top_mem ok
  have e1 : sm1 (List.replicate q.toNat (V, 1) ++ ns.map (fun u => (V - u, (2 : Int))) ++ ps.map fun u => (u, (1 : Int))) = N := by
    rw [(sm_app _ _).1, (sm_app _ _).1, (sm_rep V _).1, (sm_neg V ns).1, (sm_pos ps).1, Int.toNat_of_nonneg (by omega)]
    omega
  have e2 : sm2 (List.replicate q.toNat (V, 1) ++ ns.map (fun u => (V - u, (2 : Int))) ++ ps.map fun u => (u, (1 : Int))) = q + 2 * ns.length + ps.length := by
    rw [(sm_app _ _).2, (sm_app _ _).2, (sm_rep V _).2, (sm_neg V ns).2, (sm_pos ps).2, Int.toNat_of_nonneg (by omega)]
  rcases h with ⟨o, A, R, S, c, hR, hS, rfl⟩ | ⟨o, hm, hk⟩
  · have hR0 : V ≤ R := by
      obtain ⟨e, he, e1, _⟩ := cbw_has c (stretch_one hVm) (v := V) (k := 1) (by rw [show [V] = [] ++ [V] from rfl, worth_snoc]; simp) (by simp)
      have := hR.all e he
      rw [e1] at this
      split at this <;> omega
    obtain ⟨k, hk, le⟩ := reach_addL (A := A) (lo := 1 - R) (hi := lim + R) (b := 0) (n0 := 0) (List.replicate q.toNat (V, 1) ++ ns.map (fun u => (V - u, (2 : Int))) ++ ps.map fun u => (u, (1 : Int))) 0 0 (fun p hp => by
      rcases List.mem_append.mp hp with hp | hp
      · rcases List.mem_append.mp hp with hp | hp
        · rw [List.eq_of_mem_replicate hp]
          exact ⟨by dsimp; omega, cbw_has c (stretch_one hVm) (by rw [show [V] = [] ++ [V] from rfl, worth_snoc]; simp) (by simp)⟩
        · obtain ⟨u, hu, rfl⟩ := List.mem_map.mp hp
          obtain ⟨f1, f2, f3, f4⟩ := fn u hu
          have hkd : kdOf r ≠ .plain := by
            rcases o with rfl | rfl | rfl
            · exact absurd rfl f4
            · exact fun z => by cases z
            · exact fun z => by cases z
          have := stretch_pair hkd ok f1
          rw [hV] at this
          exact ⟨by dsimp; omega, cbw_has c this (by rw [show [u, V] = [u] ++ [V] from rfl, worth_snoc]; simp) (by simp)⟩
      · obtain ⟨u, hu, rfl⟩ := List.mem_map.mp hp
        obtain ⟨f1, f2⟩ := fp u hu
        exact ⟨by dsimp; omega, cbw_has c (stretch_one f1) (by rw [show [u] = [] ++ [u] from rfl, worth_snoc]; simp) (by simp)⟩) .base (by omega) (by rw [e1]; omega)
    rw [e1, Int.zero_add] at hk
    rw [e2] at le
    obtain ⟨k2, ek, l2⟩ := hS.all _ _ hk
    refine ⟨_, List.mem_singleton.mpr rfl, k2, ek, ?_⟩
    rw [← lenQ]
    exact Int.mul_le_mul_of_nonneg_right (by omega) (by omega)
  · have : V ∈ Ts.map (·.1) := by rw [hm]; exact hVm
    obtain ⟨T, hT, eg⟩ := List.mem_map.mp this
    have eg : T.1 = V := eg
    obtain ⟨A, sg, hS⟩ := hk T hT
    rw [eg] at sg hS
    have one1 : ∀ u : Int, u ∈ xs → u ≤ V → ∃ e ∈ A, e.1 = u ∧ (e.2.2.length : Int) ≤ 1 := fun u hu le => by
      obtain ⟨e, he, a1, a2⟩ := sgn_pos sg hu le
      exact ⟨e, he, a1, by rw [a2]; simp⟩
    have psn : 0 ≤ sm1 (ps.map fun u => (u, (1 : Int))) := sm1_nonneg fun p hp => by
      obtain ⟨u, hu, rfl⟩ := List.mem_map.mp hp
      have := (fp u hu).2
      dsimp
      omega
    rw [(sm_pos ps).1] at psn
    have q1V : (q - 1) * V = q * V - V := by rw [Int.sub_mul, Int.one_mul]
    have q1n : 0 ≤ (q - 1) * V := Int.mul_nonneg (by omega) (by omega)
    obtain ⟨k, hk1, le1⟩ := reach_pairs (A := A) (lo := 1 - V) (hi := lim + V) (b := V) (n0 := 1) (V := V) (one1 V hVm (Int.le_refl _)) ns V 1 (fun u hu => by
      obtain ⟨f1, f2, f3, f4⟩ := fn u hu
      obtain ⟨e, he, a1, a2⟩ := sgn_neg sg (List.dropLast_subset _ f1) f3
      exact ⟨by omega, by omega, e, he, a1, by rw [a2]; simp⟩) .base (by omega) (by omega)
    have e3 : sm1 (List.replicate (q - 1).toNat (V, 1) ++ ps.map fun u => (u, (1 : Int))) = (q - 1) * V + ps.sum := by
      rw [(sm_app _ _).1, (sm_rep V _).1, (sm_pos ps).1, Int.toNat_of_nonneg (by omega)]
    have e4 : sm2 (List.replicate (q - 1).toNat (V, 1) ++ ps.map fun u => (u, (1 : Int))) = (q - 1) + ps.length := by
      rw [(sm_app _ _).2, (sm_rep V _).2, (sm_pos ps).2, Int.toNat_of_nonneg (by omega)]
    have nsn : 0 ≤ (ns.length : Int) * V - ns.sum := by
      have := sum_le (l := ns) (b := V) fun a ha => ⟨(nsb a ha).1, by have := (nsb a ha).2; omega⟩
      omega
    obtain ⟨k2, hk2, le2⟩ := reach_addL (A := A) (List.replicate (q - 1).toNat (V, 1) ++ ps.map fun u => (u, (1 : Int))) _ _ (fun p hp => by
      rcases List.mem_append.mp hp with hp | hp
      · rw [List.eq_of_mem_replicate hp]
        exact ⟨by dsimp; omega, one1 V hVm (Int.le_refl _)⟩
      · obtain ⟨u, hu, rfl⟩ := List.mem_map.mp hp
        obtain ⟨f1, f2⟩ := fp u hu
        exact ⟨by dsimp; omega, one1 u f1 (by have := le_top ok f1; omega)⟩) hk1 (by omega) (by rw [e3]; omega)
    rw [e3, show V + ((ns.length : Int) * V - ns.sum) + ((q - 1) * V + ps.sum) = N by omega] at hk2
    rw [e4] at le2
    obtain ⟨k3, ek, l3⟩ := hS.all _ _ hk2
    refine ⟨T, hT, k3, ek, ?_⟩
    rw [← lenQ]
    exact Int.mul_le_mul_of_nonneg_right (by omega) (by omega)
end K75R
set_option Elab.async false
set_option linter.all false
namespace K75R
open K75
theorem map_tri {xs : List Int} {r : Rl} (ok : OkV xs) {u : List K75.Step} (hu : In (stepsOf xs r) u) : In (stepsOf (tri xs) r) (u.map tri2) := fun s hs => by
  obtain ⟨t, ht, rfl⟩ := List.mem_map.mp hs
  exact (tri_steps ok _).mpr ⟨t, hu t ht, rfl⟩
theorem map_sums : ∀ u : List K75.Step, wsum (u.map tri2) = 3 * wsum u ∧ wcost (u.map tri2) = 3 * wcost u ∧ (negOf ((u.map tri2).map Prod.fst)).length = (negOf (u.map Prod.fst)).length
  | [] => ⟨by simp, by simp, rfl⟩
  | s :: u => by
    obtain ⟨h1, h2, h3⟩ := map_sums u
    refine ⟨?_, ?_, ?_⟩
    · rw [List.map_cons, wsum_cons, wsum_cons, h1]
      unfold tri2
      dsimp
      omega
    · rw [List.map_cons, wcost_cons, wcost_cons, h2]
      unfold tri2
      dsimp
      omega
    · unfold negOf at *
      simp only [List.map_cons, List.length_map] at *
      by_cases z : s.1 < 0
      · rw [List.filter_cons_of_pos (by unfold tri2; simp; omega), List.filter_cons_of_pos (by simpa using z)]
        rw [List.length_cons, List.length_cons, h3]
      · rw [List.filter_cons_of_neg (by unfold tri2; simp; omega), List.filter_cons_of_neg (by simpa using z)]
        exact h3
theorem walk_room {xs : List Int} {r : Rl} (ok : OkV xs) {u : List K75.Step} (hu : In (stepsOf xs r) u) : wsum u + topOf xs * (negOf (u.map Prod.fst)).length ≤ u.length * (topOf xs - 1) := by
  induction u with
  | nil => simp [negOf]
  | cons s u ih =>
    have ih := ih fun t ht => hu t (by simp [ht])
    obtain ⟨v, hv, e⟩ := mem_stepsF.mp (hu s (by simp))
    have b := ok.below hv
    unfold negOf at *
    rw [List.length_map] at *
    rw [List.map_cons, wsum_cons, List.length_cons, Int.natCast_add, Int.add_mul]
    rcases e with rfl | ⟨_, rfl⟩
    · rw [List.filter_cons_of_neg (by simp; omega)]
      dsimp
      omega
    · rw [List.filter_cons_of_pos (by simp; omega), List.length_cons, Int.natCast_add, Int.mul_add]
      dsimp
      omega
theorem tri_few {xs : List Int} {r : Rl} {n : Int} {o o' : Option Int} (ok : OkV xs) (h21 : topOf xs < 21) (f : FewIs (tri xs) r (3 * n) o) (f' : FewIs xs r n o') (nb : (topOf xs - 1) * (topOf xs - 1) < n) : o = o' := by
  by_cases nb' : (topOf (tri xs) - 1) * (topOf (tri xs) - 1) < 3 * n
  · exact tri_far ok f f' nb nb'
  rcases f with ⟨z, _⟩ | ⟨_, Ts, hT, mn⟩
  · exact absurd z nb'
  have hV : 0 < topOf xs := by have := ok.top; omega
  have ok' := tri_ok ok h21
  have tt := tri_top ok
  have m0 := Int.emod_nonneg n (show topOf xs ≠ 0 by omega)
  have m1 := Int.emod_lt_of_pos n hV
  have nn : 0 ≤ (topOf xs - 1) * (topOf xs - 1) := Int.mul_nonneg (by omega) (by omega)
  have md : ∀ a : Int, (3 * a) % (3 * topOf xs) = 3 * (a % topOf xs) := fun a => Int.mul_emod_mul_of_pos a (topOf xs) (by decide)
  -- what a table knows costs no less than the walk
  have low : ∀ T ∈ Ts, ∀ m, T.2 (3 * n) = some m → ∃ u, In (stepsOf xs r) u ∧ wsum u % topOf xs = n % topOf xs ∧ wcost u ≤ m * topOf xs - n := fun T hTm m e => by
    obtain ⟨w, k1, k2, k3⟩ := tabs_walk ok' hT hTm e
    obtain ⟨u, hu, s1, s2⟩ := tri_walk ok k1
    rw [tt, s1, md, md] at k2
    rw [tt, s2, Int.mul_left_comm] at k3
    exact ⟨u, hu, by omega, by omega⟩
  rcases id f' with ⟨_, es, tb, e'⟩ | ⟨z, _⟩
  · cases q : (es[(n % topOf xs).toNat]?).join with
    | none =>
      rw [q] at e'
      rw [e']
      cases o with
      | none => rfl
      | some m =>
        obtain ⟨T, hTm, e⟩ := mn.1
        obtain ⟨u, hu, k, _⟩ := low T hTm m e
        exact absurd (by omega) (tb.2.none_ _ (by omega) q u hu)
    | some c =>
      obtain ⟨dv, c0, c1⟩ := size_due hV ok tb q
      rw [q] at e'
      have e' : o' = some ((n + c) / topOf xs) := e'
      rw [e']
      generalize (n + c) / topOf xs = d at *
      obtain ⟨⟨u, hu, h1, h2⟩, hl⟩ := tb.2.some_ _ c (by omega) q
      rw [Int.toNat_of_nonneg m0] at h1
      have hp1 : ∀ s ∈ stepsOf xs r, 1 ≤ s.2 := fun s h => (steps_pos ok s h).1
      have sh : u.length < (topOf xs).toNat := short_of_least hV hp1 hu fun w' hw' e' => by
        rw [h2]
        exact hl w' hw' (by rw [e', h1, Int.toNat_of_nonneg m0])
      have room := walk_room ok hu
      have r2 : (u.length : Int) * (topOf xs - 1) ≤ (topOf xs - 1) * (topOf xs - 1) := Int.mul_le_mul_of_nonneg_right (by omega) (by omega)
      obtain ⟨s1, s2, s3⟩ := map_sums u
      obtain ⟨T, hTm, k, ek, lk⟩ := tabs_word (N := 3 * n) ok' hT (by omega) (Int.le_refl _) (map_tri ok hu) (by rw [tt, s1, md, md, h1]) (by rw [tt, s1, s3, Int.mul_assoc]; omega)
      rw [tt, s2, Int.mul_left_comm] at lk
      have kd : k * topOf xs ≤ d * topOf xs := by rw [Int.mul_comm d]; omega
      have kd := Int.le_of_mul_le_mul_right kd hV
      cases o with
      | none =>
        have := mn T hTm
        rw [this] at ek
        cases ek
      | some m =>
        have mk := mn.2 T hTm k ek
        obtain ⟨T2, hT2, e2⟩ := mn.1
        obtain ⟨u', hu', k1, k2⟩ := low T2 hT2 m e2
        have := hl u' hu' (by rw [k1, Int.toNat_of_nonneg m0])
        have dm : d * topOf xs ≤ m * topOf xs := by rw [Int.mul_comm d]; omega
        have dm := Int.le_of_mul_le_mul_right dm hV
        congr 1
        omega
  · omega
end K75R
set_option Elab.async false
set_option linter.all false
set_option maxRecDepth 100000
set_option maxHeartbeats 4000000
namespace K75R
open PySem PySem.Spec PyProof.Rows L2
section
variable {P : Program} {w : World} {K : PySem.W.Frag} {mg : Str → Option Value} {base : Heap}
open K75
/-- what the law holds -/
structure LawI (K : PySem.W.Frag) (b c sa t p : Addr) (xs : List Int) (r : Rl) (es : List (Option Int)) (G : Hp) : Prop where
  bag : BagAt G b c
  sys : SysAt K G sa xs r
  tbl : G t = some (.lst (es.map optV))
  vals : G p = some (.lst (xs.map V.int))
theorem LawI.same {b c sa t p : Addr} {xs : List Int} {r : Rl} {es : List (Option Int)} {G G' : Hp} (h : LawI K b c sa t p xs r es G) (s : Same G G') : LawI K b c sa t p xs r es G' := ⟨h.bag.same s, h.sys.same s, s _ _ h.tbl, s _ _ h.vals⟩
theorem bag_ne {G : Hp} {b c l : Addr} {xs : List V} (h : BagAt G b c) (e : G l = some (.lst xs)) (n : ∀ d ys, xs ≠ V.ref d :: ys) : l ≠ b := fun z => by
  obtain ⟨cells, i, rest, stir, cnt, h1, _⟩ := h
  rw [z, h1] at e
  cases e
  exact n _ _ rfl
theorem ints_ne (xs : List Int) (d : Addr) (ys : List V) : xs.map V.int ≠ V.ref d :: ys := fun e => by cases xs with | nil => cases e | cons a l => cases e
theorem opts_ne (xs : List (Option Int)) (d : Addr) (ys : List V) : xs.map optV ≠ V.ref d :: ys := fun e => by
  cases xs with
  | nil => cases e
  | cons a l =>
    cases a with
    | none => cases e
    | some a => cases e
theorem SysAt.but {G G' : Hp} {b c a : Addr} {xs : List Int} {r : Rl} (h : SysAt K G a xs r) (hb : BagAt G b c) (bt : But b G G') : SysAt K G' a xs r := by
  obtain ⟨dx, l, h1, h2, h3⟩ := h
  refine ⟨dx, l, bt _ _ h1 fun z => ?_, bt _ _ h2 (bag_ne hb h2 (ints_ne xs)), h3⟩
  obtain ⟨cells, i, rest, stir, cnt, k1, _⟩ := hb
  rw [z, k1] at h1
  cases h1
theorem LawI.but {b c sa t p : Addr} {xs : List Int} {r : Rl} {es : List (Option Int)} {G G' : Hp} (h : LawI K b c sa t p xs r es G) (bt : But b G G') (hb : BagAt G' b c) : LawI K b c sa t p xs r es G' :=
  ⟨hb, h.sys.but h.bag bt, bt _ _ h.tbl (bag_ne h.bag h.tbl (opts_ne es)), bt _ _ h.vals (bag_ne h.bag h.vals (ints_ne xs))⟩
/-- what the law draws and makes of a number -/
def SubFew (xs : List Int) (n : Int) (o : Option Int) : Prop := ∃ r' : Rl, r' ≠ .plain ∧ FewIs xs r' n o
theorem SubFew.eq {xs : List Int} {n : Int} {o o' : Option Int} (hV : 0 < topOf xs) (nb : (topOf xs - 1) * (topOf xs - 1) < n) (h : SubFew xs n o) (h' : SubFew xs n o') : o = o' := by
  obtain ⟨r, h1, h2⟩ := h
  obtain ⟨r', h3, h4⟩ := h'
  exact few_sub hV nb h1 h3 h2 h4
def subsL : List Rl := [.single, .next, .block, .later]
theorem subs_ne {r : Rl} (h : r ∈ subsL) : r ≠ .plain := fun e => by
  subst e
  exact absurd h (by decide)
theorem four {os : List (Option Int)} (h : os.length = 4) : ∃ o0 o1 o2 o3, os = [o0, o1, o2, o3] := by
  match os, h with
  | [o0, o1, o2, o3], _ => exact ⟨_, _, _, _, rfl⟩
theorem tbl_eq {xs : List Int} {r : Rl} {es es' : List (Option Int)} (h : Tbl xs r es) (h' : Tbl xs r es') : es = es' := by
  apply List.ext_getElem
  · rw [h.1, h'.1]
  · intro i h1 h2
    have := tbl_uniq h h' (i := i) (by rw [h.1] at h1; exact h1)
    rw [List.getElem?_eq_getElem h1, List.getElem?_eq_getElem h2] at this
    exact this
theorem few_any {xs : List Int} {r : Rl} {n : Int} {o o' : Option Int} (hV : 0 < topOf xs) (nb : (topOf xs - 1) * (topOf xs - 1) < n) (f : FewIs xs r n o) (f' : FewIs xs r n o') : o = o' := by
  rcases id f with ⟨_, es, tb, _⟩ | ⟨z, _⟩
  · rw [few_far hV f nb tb, few_far hV f' nb tb]
  · omega
theorem andF {b : Bool} {t2 : TT} {σ : L2.St} {H : Hp} {k : Bool → Hp → Prop} (h2 : b = true → ∀ k : Bool → Hp → Prop, k false H → t2 σ H k) (hk : k false H) : if b = true then t2 σ H k else k false H := by
  cases b with
  | true => exact iteT (h2 rfl k hk)
  | false => exact iteF hk
def slots (a b p : Addr) (r : Rl) (sa t : Addr) (V0 : Int) (o7 o8 o9 o10 o11 : Option V) : L2.St := [some (.ref a), some (.ref b), some (.ref p), some (.str r.nm), some (.ref sa), some (.ref t), some (.int V0), o7, o8, o9, o10, o11, none]
def sp_law (K : PySem.W.Frag) : Sp := fun vs H Q _ => ∃ (a : Addr) (ns : List Int), vs = [.ref a] ∧ SqL K H a (ns.map V.int) ∧ ∀ H', Q (.bl true) H'

theorem sc_law : FnScope ["_law_script", "_law_bag_here", "_law_values", "_law_rule_here", "_law_system", "_law_table_here", "_law_top", "_law_turn", "_law_number", "_law_some", "_law_plain", "_law_wider", "_law_one"] ["_law_script"] (defScope (top 77)) := ⟨rfl, rfl, rfl, by decide +kernel, rfl, by decide +kernel, by decide +kernel⟩
theorem ok_law (hP : PFile P) (T : Txt K mg) {fd : FuncData} (F : Fun K "law" "law" (top 77) (ga K "law") fd) : FnOk P w K mg base CX0 11 (ga K "law") fd ["_law_script"] (sp_law K) := by
  have sc := sc_law
  refine F.ok sc (fun vs H Q E h => ?_) (fun cdv A outer s H vs Q E hr h => ?_)
  · obtain ⟨_, _, rfl, _⟩ := h
    rfl
  obtain ⟨a, ns, rfl, ha, q⟩ := h
  refine ⟨_, (pss_cons
    (ps_set (i := 1) sc.nd rfl (by first | exact Or.inl rfl | exact Or.inr rfl) (cR T.law_bag (R_law_bag T) hr pass0 (pa_cons (pv 0) pa_nil)))
    (pss_cons
    (ps_set (i := 2) sc.nd rfl (by first | exact Or.inl rfl | exact Or.inr rfl) (cR T.law_row (R_law_row T) hr pass0 (pa_cons (pv 1) (pa_cons (pe_ix ix_list (pe_lst (pa_cons pe_int (pa_cons pe_int (pa_cons pe_int pa_nil)))) (cR T.law_draw (R_law_draw T) hr pass0 (pa_cons (pv 1) (pa_cons pe_int pa_nil))) (fun _ _ => rfl)) pa_nil))))
    (pss_cons
    (ps_set (i := 3) sc.nd rfl (by first | exact Or.inl rfl | exact Or.inr rfl) (cR T.law_rule (R_law_rule T) hr pass0 (pa_cons (pv 1) pa_nil)))
    (pss_cons
    (ps_set (i := 4) sc.nd rfl (by first | exact Or.inl rfl | exact Or.inr rfl) (ClX.pe_cmeth (pe_gref T.System.g) T.sys_read T.sys_of (R_of T) (hr.mono (by decide)) (E := E0) pass0 (pa_cons (pv 2) (pa_cons (pv 3) pa_nil))))
    (pss_cons
    (ps_set (i := 5) sc.nd rfl (by first | exact Or.inl rfl | exact Or.inr rfl) (cR T.law_table (R_law_table T) hr pass0 (pa_cons (pv 2) (pa_cons (pe_cmpR op_eq (pv 3) pe_str (nomark _)) pa_nil))))
    (pss_cons
    (ps_if (pt_not (pt_val (cR T.law_alike (R_law_alike T) hr pass0 (pa_cons (cR T.excesses (R_excesses T) hr pass0 (pa_cons (pv 4) pa_nil)) (pa_cons (pv 5) pa_nil)))))
      (pss_one
      (ps_ret pe_bl))
      pss_nil)
    (pss_cons
    (ps_set (i := 6) sc.nd rfl (by first | exact Or.inl rfl | exact Or.inr rfl) (pe_ix ix_list (pv 2) (pe_un un_neg pe_int) (fun _ _ => rfl)))
    (pss_cons
    (ps_for PassesOwn.never rfl (pi_range1 (by rfl) T.b_range (pa_cons pe_int pa_nil)) (pg_name (i := 7) sc.nd rfl (by first | exact Or.inl rfl | exact Or.inr rfl))
      (pss_cons
      (ps_set (i := 8) sc.nd rfl (by first | exact Or.inl rfl | exact Or.inr rfl) (pe_op op_add (pe_op op_add (pe_op op_mul (pe_op op_sub (pv 6) pe_int) (pe_op op_sub (pv 6) pe_int)) pe_int) (cR T.law_draw (R_law_draw T) hr pass0 (pa_cons (pv 1) (pa_cons (pe_ix ix_list (pe_lst (pa_cons (pv 6) (pa_cons pe_int (pa_cons (pe_op op_pow pe_int pe_int) pa_nil)))) (cR T.law_draw (R_law_draw T) hr pass0 (pa_cons (pv 1) (pa_cons pe_int pa_nil))) (fun _ _ => rfl)) pa_nil)))))
      (pss_cons
      (ps_if (pt_not (pt_val (cR T.law_number_right (R_law_number_right hP T) hr pass0 (pa_cons (pv 4) (pa_cons (pv 5) (pa_cons (pv 8) pa_nil))))))
        (pss_one
        (ps_ret pe_bl))
        pss_nil)
      (pss_cons
      (ps_set (i := 9) sc.nd rfl (by first | exact Or.inl rfl | exact Or.inr rfl) <| pe_lc (own := [("_law_one", 12)]) (by rfl) sc.nd (pi_list (pe_lst (pa_cons pe_str (pa_cons pe_str (pa_cons pe_str (pa_cons pe_str pa_nil)))))) (blkOk_by (N := ["_law_script", "_law_bag_here", "_law_values", "_law_rule_here", "_law_system", "_law_table_here", "_law_top", "_law_turn", "_law_number", "_law_some", "_law_plain", "_law_wider", "_law_one"]) (sc := defScope (top 77)) (own := [("_law_one", 12)]) (by decide +kernel)) (fun _ _ _ _ _ => (pg_name (i := 12) sc.nd rfl (by first | exact Or.inl rfl | exact Or.inr rfl))) (fun _ _ _ _ _ => pts_nil) (fun _ _ _ _ _ => (cR T.fewest (R_fewest T) hr pass0 (pa_cons (pe_methI (ι := Unit) (pv 4) (fun _ => T.System.c) (fun _ => T.with_rule.at_) (fun _ => R_with_rule T) (hr.mono (by decide)) (E := E0) pass0 (pa_cons (pv 12) pa_nil)) (pa_cons (pv 8) pa_nil)))))
      (pss_cons
      (ps_if (pt_cmpR (op_neD hr.units) (pe_lc (own := [("_law_one", 12)]) (by rfl) sc.nd (pi_list (pv 9)) (blkOk_by (N := ["_law_script", "_law_bag_here", "_law_values", "_law_rule_here", "_law_system", "_law_table_here", "_law_top", "_law_turn", "_law_number", "_law_some", "_law_plain", "_law_wider", "_law_one"]) (sc := defScope (top 77)) (own := [("_law_one", 12)]) (by decide +kernel)) (fun _ _ _ _ _ => (pg_name (i := 12) sc.nd rfl (by first | exact Or.inl rfl | exact Or.inr rfl))) (fun _ _ _ _ _ => (pts_one (pt_cmpR op_ne (pv 12) (show PE _ _ (tOp (rIxL K) _ _) from pe_ix ix_list (pv 9) pe_int (fun _ _ => rfl)) (nomark _)))) (fun _ _ _ _ _ => (pv 12))) (pe_lst pa_nil) (nomark _))
        (pss_one
        (ps_ret pe_bl))
        pss_nil)
      (pss_cons
      (ps_set (i := 10) sc.nd rfl (by first | exact Or.inl rfl | exact Or.inr rfl) (cR T.fewest (R_fewest T) hr pass0 (pa_cons (pe_methI (ι := Unit) (pv 4) (fun _ => T.System.c) (fun _ => T.with_rule.at_) (fun _ => R_with_rule T) (hr.mono (by decide)) (E := E0) pass0 (pa_cons pe_str pa_nil)) (pa_cons (pv 8) pa_nil))))
      (pss_cons
      (ps_if (PW.pt (pw_and (pt_cmpR op_notN (pv 10) pe_non (nomark _)) (pw_and1 (PW.pt (pw_or (pt_cmpR op_isN (pe_ix ix_list (pv 9) pe_int (fun _ _ => rfl)) pe_non (nomark _)) (pw_or1 (pt_cmpR op_gt (pe_ix ix_list (pv 9) pe_int (fun _ _ => rfl)) (pv 10) (nomark _))))))))
        (pss_one
        (ps_ret pe_bl))
        pss_nil)
      (pss_one
      (ps_if (pt_cmpR op_lt (pv 6) pe_int (nomark _))
        (pss_cons
        (ps_set (i := 11) sc.nd rfl (by first | exact Or.inl rfl | exact Or.inr rfl) (ClX.pe_cmeth (pe_gref T.System.g) T.sys_read T.sys_of (R_of T) (hr.mono (by decide)) (E := E0) pass0 (pa_cons (pe_lc (own := [("_law_one", 12)]) (by rfl) sc.nd (pi_list (pv 2)) (blkOk_by (N := ["_law_script", "_law_bag_here", "_law_values", "_law_rule_here", "_law_system", "_law_table_here", "_law_top", "_law_turn", "_law_number", "_law_some", "_law_plain", "_law_wider", "_law_one"]) (sc := defScope (top 77)) (own := [("_law_one", 12)]) (by decide +kernel)) (fun _ _ _ _ _ => (pg_name (i := 12) sc.nd rfl (by first | exact Or.inl rfl | exact Or.inr rfl))) (fun _ _ _ _ _ => pts_nil) (fun _ _ _ _ _ => (pe_op op_mul pe_int (pv 12)))) (pa_cons (pv 3) pa_nil))))
        (pss_one
        (ps_if (pt_not (pt_val (cR T.law_alike (R_law_alike1 T) hr pass0 (pa_cons (cR T.fewest (R_fewest T) hr pass0 (pa_cons (pv 11) (pa_cons (pe_op op_mul pe_int (pv 8)) pa_nil))) (pa_cons (cR T.fewest (R_fewest T) hr pass0 (pa_cons (pv 4) (pa_cons (pv 8) pa_nil))) pa_nil)))))
          (pss_one
          (ps_ret pe_bl))
          pss_nil)))
        pss_nil)))))))))
    (pss_cons
    (ps_if (pt_cmpR op_gt (pv 6) pe_int (nomark _))
      (pss_one
      (ps_ret pe_bl))
      pss_nil)
    (pss_cons
    (ps_if (pt_cmpR op_notN (cR T.first_longer (R_first_longer T) hr pass0 (pa_cons (pv 4) (pa_cons (pv 4) pa_nil))) pe_non (nomark _))
      (pss_one
      (ps_ret pe_bl))
      pss_nil)
    (pss_one
    (ps_ret (pe_cmpR op_isN (cR T.first_longer (R_first_longer T) hr pass0 (pa_cons (pv 4) (pa_cons (pe_methI (ι := Unit) (pv 4) (fun _ => T.System.c) (fun _ => T.with_rule.at_) (fun _ => R_with_rule T) (hr.mono (by decide)) (E := E0) pass0 (pa_cons pe_str pa_nil)) pa_nil))) pe_non (nomark _)))))))))))))), ?_⟩
  refine ⟨_, rfl, a, ns, rfl, ha, fun H1 b c s1 hb0 hb1 => ?_⟩
  -- the values
  refine ⟨_, rfl, by simp [sizeLine_eq], fun l hl => ?_⟩
  have lb := hb1.ne hl
  refine ⟨_, rfl, b, c, 3, rfl, by decide, by decide, hb1.same (same_new hl), fun H2 d bt2 hb2 d0 d3 => ?_⟩
  have h2 := bt2.keep upd_same lb
  obtain ⟨m, em, m0, m1⟩ : ∃ t : Int, atI [V.int 20, V.int 20, V.int 60] d = some (.int t) ∧ 1 ≤ t ∧ t ≤ 60 := by
    have cs : d = 0 ∨ d = 1 ∨ d = 2 := by omega
    rcases cs with rfl | rfl | rfl
    · exact ⟨20, rfl, by decide, by decide⟩
    · exact ⟨20, rfl, by decide, by decide⟩
    · exact ⟨60, rfl, by decide, by decide⟩
  refine ⟨l, _, _, _, rfl, rfl, sqL h2, em, b, c, m, rfl, m0, m1, hb2, fun H3 p xs bt3 hb3 hp0 hp ok => ?_⟩
  have tp := ok.top
  have hV : 0 < topOf xs := by omega
  -- the rule, the system, the table
  refine ⟨_, rfl, b, c, rfl, hb3, fun H4 r bt4 hb4 => ?_⟩
  have hp4 := bt4.keep hp (bag_ne hb3 hp (ints_ne xs))
  refine ⟨rfl, _, rfl, _, rfl, p, xs, r, rfl, hp4, ok, fun H5 sa s5 hs5 => ?_⟩
  have hp5 := s5 _ _ hp4
  refine ⟨_, rfl, _, rfl, rfl, ?_⟩
  rw [show decide (V.str r.nm = V.str "plain") = plainB r by cases r <;> decide]
  refine ⟨p, xs, r, rfl, hp5, ok, fun H6 t es s6 ht0 ht tb => ?_⟩
  have I6 : LawI K b c sa t p xs r es H6 := ⟨hb4.same (s5.trans s6), hs5.same s6, ht, s6 _ _ hp5⟩
  refine ⟨_, rfl, sa, xs, r, rfl, I6.sys, fun H7 l7 es7 s7 hl7 h7 tb7 => ⟨_, rfl, l7, t, es, rfl, ?_, s7 _ _ ht, ?_, fun H8 s8 => ⟨true, rfl, iteF ?_⟩⟩⟩
  · rw [tbl_eq tb tb7]
    exact h7
  · rw [tb.1]
    omega
  have I8 := (I6.same s7).same s8
  refine ⟨_, rfl, 1, rfl, p, _, _, _, rfl, rfl, sqL I8.vals, at_top ok.ne, ?_⟩
  -- three numbers
  refine ⟨3, rfl, by decide, by decide, for_it (walk_range (lo := 0)) (fun _ σ G => LawI K b c sa t p xs r es G ∧ ∃ o7 o8 o9 o10 o11, σ = slots a b p r sa t (topOf xs) o7 o8 o9 o10 o11) ⟨I8, none, none, none, none, none, rfl⟩ (fun _ _ _ _ _ => True.intro) ?_ ?_⟩
  · rintro i y σ G0 G hi ⟨I, o7, o8, o9, o10, o11, rfl⟩ ⟨rfl, rfl⟩
    have sq : (topOf xs - 1) * (topOf xs - 1) ≤ 4000 := sq_le tp.1 tp.2
    have sq0 : 0 ≤ (topOf xs - 1) * (topOf xs - 1) := Int.mul_nonneg (by omega) (by omega)
    refine ⟨_, rfl, _, _, rfl, rfl, _, rfl, _, _, rfl, rfl, _, _, rfl, rfl, .inl ⟨by omega, by omega⟩, _, _, rfl, rfl, ?_⟩
    refine ⟨_, rfl, _, rfl, _, _, rfl, rfl, ⟨by decide, by decide, by decide⟩, by simp [sizeLine_eq], fun l1 hl1 => ?_⟩
    have lb1 := I.bag.ne hl1
    have I1 := I.same (same_new (o := .lst [V.int (topOf xs), V.int 1000, V.int (10 ^ (29 : Int).toNat)]) hl1)
    refine ⟨_, rfl, b, c, 3, rfl, by decide, by decide, I1.bag, fun H9 d9 bt9 hb9 e0 e3 => ?_⟩
    have h9 := bt9.keep upd_same lb1
    have I9 := I1.but bt9 hb9
    obtain ⟨m9, em9, m90, m91⟩ : ∃ m : Int, atI [V.int (topOf xs), V.int 1000, V.int (10 ^ (29 : Int).toNat)] d9 = some (.int m) ∧ 0 < m ∧ m ≤ 10 ^ 29 := by
      have cs : d9 = 0 ∨ d9 = 1 ∨ d9 = 2 := by omega
      rcases cs with rfl | rfl | rfl
      · exact ⟨topOf xs, rfl, hV, by omega⟩
      · exact ⟨1000, rfl, by decide, by decide⟩
      · exact ⟨10 ^ (29 : Int).toNat, rfl, by decide, by decide⟩
    refine ⟨l1, _, _, _, rfl, rfl, sqL h9, em9, b, c, m9, rfl, m90, by omega, hb9, fun H10 v bt10 hb10 v0 v1 => ?_⟩
    have I10 := I9.but bt10 hb10
    refine ⟨_, _, rfl, rfl, ?_⟩
    dsimp only
    generalize hn : (topOf xs - 1) * (topOf xs - 1) + 1 + v = n
    have nb : (topOf xs - 1) * (topOf xs - 1) < n := by omega
    have n1 : 1 ≤ n := by omega
    have nt : n ≤ 2 * 10 ^ 29 := by omega
    clear hn
    clear em9 h9 lb1 I1 I9 bt9 bt10 hb9 hb10 I hl1
    -- it is right
    refine ⟨_, rfl, _, rfl, _, rfl, sa, t, xs, r, n, es, rfl, I10.sys, tb, I10.tbl, nb, by omega, fun H11 s11 => ⟨true, rfl, iteF ?_⟩⟩
    have I11 := I10.same s11
    clear I10 s11
    -- the four rules
    refine ⟨by simp [sizeLine_eq], fun u hu => ⟨u, rfl, ⟨_, sqL upd_same⟩, fun D hD => ?_⟩⟩
    have I12 := I11.same (same_new (o := .lst [V.str "single", V.str "next", V.str "block", V.str "later"]) hu)
    have hu2 : (upd H11 u (.lst [V.str "single", V.str "next", V.str "block", V.str "later"])) u = some (.lst (subsL.map fun r => V.str r.nm)) := upd_same
    generalize (upd H11 u (.lst [V.str "single", V.str "next", V.str "block", V.str "later"])) = H12 at I12 hu2 hD
    refine lc_it (walk_list (xs := subsL.map fun r => V.str r.nm)) (Pv := fun i G => Same H12 G ∧ ∃ os : List (Option Int), G D = some (.lst (os.map optV)) ∧ os.length = i ∧ ∀ o ∈ os, SubFew xs n o) ⟨same_new hD, [], upd_same, rfl, fun o ho => by cases ho⟩ (fun _ _ _ h => sqL (h.1 _ _ hu2)) (fun j y G G' hj ⟨sg, os, ho, hol, hof⟩ yy => ?_) (fun H13 ⟨s13, os, ho, hol, hof⟩ => ?_)
    · obtain ⟨rfl, hy⟩ := yy
      obtain ⟨r', hr', rfl⟩ := mapI hy
      have IG := I12.same sg
      obtain ⟨dx, ls, hx, _⟩ := id IG.sys
      refine ⟨rfl, _, rfl, (), sa, dx, _, rfl, hx, by rfl, _, rfl, sa, xs, r, r', rfl, IG.sys, fun G2 x2 sg2 hx2 => ⟨_, rfl, x2, xs, r', n, rfl, hx2, n1, by omega, fun G3 o sg3 f3 => ⟨os.map optV, sg3 _ _ (sg2 _ _ ho), ?_, ?_, ?_⟩⟩⟩
      · rw [List.length_map, hol]
        exact sz_lt (by simp [subsL] at hj; omega)
      · exact fun z o e => by rw [upd_ne (fun e2 => by rw [e2, hD] at e; cases e)]; exact sg3 _ _ (sg2 _ _ (sg _ _ e))
      · refine ⟨os ++ [o], by rw [upd_same, List.map_append] <;> rfl, by simp [hol], fun o' ho' => ?_⟩
        rcases List.mem_append.mp ho' with h1 | h1
        · exact hof o' h1
        · rw [List.mem_singleton.mp h1]
          exact ⟨r', subs_ne (List.mem_of_getElem? hr'), f3⟩
    obtain ⟨o, o1, o2, o3, rfl⟩ := four (show os.length = 4 by rw [hol] <;> rfl)
    have so := hof o (by simp)
    obtain rfl := so.eq hV nb (hof o1 (by simp))
    obtain rfl := so.eq hV nb (hof o2 (by simp))
    obtain rfl := so.eq hV nb (hof o3 (by simp))
    clear hol hof
    have I13 := I12.same s13
    clear I12 s13 hu2 hD
    -- none unlike
    refine ⟨_, rfl, D, rfl, ⟨_, sqL ho⟩, fun D2 hD2 => lc_fm walk_list (fun _ => none) (by simp) hD2 (fun G h => sqL (h _ _ ho)) (fun j y G G' Ry Rn hj sg yy ky kn => ?_) (fun H14 s14 h14 => ?_)⟩
    · obtain ⟨rfl, hy⟩ := yy
      obtain ⟨z, hz, rfl⟩ := mapI hy
      have ez : z = o := by
        have := List.mem_of_getElem? hz
        simpa using this
      subst ez
      refine ⟨rfl, _, rfl, _, rfl, D, _, _, _, rfl, rfl, sqL (sg _ _ ho), rfl, by cases z <;> rfl, _, rfl, ?_⟩
      rw [show (!decide (optV z = optV z)) = false by simp]
      exact iteF (kn _ rfl (Same.refl _))
    have I14 := I13.same s14
    have ho14 := s14 _ _ ho
    have h14 : H14 D2 = some (.lst []) := by rw [h14]; simp
    refine ⟨by simp [sizeLine_eq], fun e1 he1 => neD_ints (zs := []) (sqL ((same_new he1) _ _ h14)) (sqL upd_same) ⟨_, rfl, iteF ?_⟩⟩
    have I15 := I14.same (same_new (o := .lst []) he1)
    have ho15 := (same_new (o := .lst []) he1) _ _ ho14
    generalize (upd H14 e1 (.lst [])) = H15 at I15 ho15
    clear I14 I13 ho14 h14 s14 ho hD2
    -- plain
    obtain ⟨dx, ls, hx, _⟩ := id I15.sys
    refine ⟨_, rfl, (), sa, dx, _, rfl, hx, by rfl, sa, xs, r, .plain, rfl, I15.sys, fun H16 x16 s16 hx16 => ⟨_, rfl, x16, xs, .plain, n, rfl, hx16, n1, by omega, fun H17 od s17 f17 => ?_⟩⟩
    have I17 := (I15.same s16).same s17
    have ho17 := s17 _ _ (s16 _ _ ho15)
    have a0 : atI ([o, o, o, o].map optV) 0 = some (optV o) := rfl
    refine ⟨_, rfl, rfl, _, rfl, andF (fun hb Q' q' => ?_) (iteF ?_)⟩
    · cases od with
      | none => cases hb
      | some d =>
        obtain ⟨r', hr', fo⟩ := so
        obtain ⟨t', rfl, le⟩ := few_plain hV nb f17 fo
        refine ⟨_, rfl, D, _, _, _, rfl, rfl, sqL ho17, a0, rfl, false, rfl, iteF ⟨_, rfl, D, _, _, _, rfl, rfl, sqL ho17, a0, _, rfl, _, _, rfl, rfl, _, rfl, ?_⟩⟩
        rw [decide_eq_false (show ¬ d < t' by omega)]
        exact q'
    clear ho17 ho15 f17 so a0
    refine ⟨_, rfl, _, _, rfl, rfl, _, rfl, ite2 (fun z => ?_) fun z => ⟨I17, _, _, _, _, _, rfl⟩⟩
    have h21 : topOf xs < 21 := of_decide_eq_true z
    have okT := tri_ok ok h21
    refine ⟨rfl, _, rfl, p, rfl, ⟨_, sqL I17.vals⟩, fun D3 hD3 => lc_map walk_list ((tri xs).map V.int) (by simp [tri]) (by have := ok.len; simp [tri]; omega) hD3 (fun G h => sqL (h _ _ I17.vals)) (fun j y G G' Ry hj sg yy ky => ?_) (fun H18 s18 h18 => ?_)⟩
    · obtain ⟨rfl, hy⟩ := yy
      obtain ⟨z, hz, rfl⟩ := mapI hy
      exact ⟨rfl, _, rfl, _, _, rfl, rfl, .inl ⟨by decide, by decide⟩, ky _ _ (by unfold tri; rw [List.getElem?_map, List.getElem?_map, hz] <;> rfl) (Same.refl _)⟩
    have I18 := I17.same s18
    refine ⟨_, rfl, D3, tri xs, r, rfl, h18, okT, fun H19 xw s19 hxw => ?_⟩
    have I19 := I18.same s19
    refine ⟨_, rfl, _, rfl, _, _, rfl, rfl, .inl ⟨by decide, by decide⟩, xw, tri xs, r, 3 * n, rfl, hxw, by omega, by omega, fun H20 ow s20 fw => ⟨_, rfl, _, rfl, sa, xs, r, n, rfl, I19.sys.same s20, n1, by omega, fun H21 ox s21 fx => ?_⟩⟩
    obtain rfl := tri_few ok h21 fw fx nb
    exact ⟨ow, rfl, fun H22 s22 => ⟨true, rfl, iteF ⟨((I19.same s20).same s21).same s22, _, _, _, _, _, rfl⟩⟩⟩
  · rintro σ G ⟨I, o7, o8, o9, o10, o11, rfl⟩
    refine ⟨_, rfl, _, _, rfl, rfl, _, rfl, ite2 (fun z => ?_) fun z => ?_⟩
    · exact q _
    · refine ⟨_, rfl, _, rfl, sa, sa, xs, r, r, rfl, I.sys, I.sys, notLonger_self ok, fun H9 s9 => ⟨rfl, false, rfl, iteF ?_⟩⟩
      have I9 := I.same s9
      obtain ⟨dx9, l9, h9, _⟩ := id I9.sys
      exact ⟨_, rfl, _, rfl, (), sa, dx9, _, rfl, h9, by rfl, sa, xs, r, .plain, rfl, I9.sys, fun H10 x s10 hx => ⟨sa, x, xs, r, .plain, rfl, I9.sys.same s10, hx, notLonger_plain ok, fun H11 s11 => ⟨rfl, q _⟩⟩⟩
end
end K75R
set_option Elab.async false
set_option linter.all false
set_option maxRecDepth 100000
set_option maxHeartbeats 0
/-! The end: the facts of the head, the law's promise. -/
namespace K75R
open PySem PySem.Spec PyProof.Rows L2
theorem pfile : PFile (PySem.Challenge.rw_signsheets_k75_whole_far_numbers).prog := ⟨by decide +kernel, by decide +kernel⟩
theorem law_at {w : World} {K : PySem.W.Frag} {h : Heap} {mg : Str → Option Value} {f : Addr} (X : K.In h) (G : h.Ns mainGlobals mg) (hfa : mg ("law" : Str) = some (.ref f)) (c : SaysK K) :
    ∃ fd : FuncData, (∀ (s : Shared) (v : Value), BindsTo s fd ⟨[v], []⟩ [("_law_script", v)]) ∧ ∀ base : Heap, K.In base → base.Ns mainGlobals mg → FnOk (PySem.Challenge.rw_signsheets_k75_whole_far_numbers).prog w K mg base CX0 11 f fd ["_law_script"] (sp_law K) := by
  have T := txt_of X G c
  obtain ⟨fd, FD⟩ := c.df 38 (d := mkD (fun K => ga K "law") "law" "law" (top 77) []) rfl
  have e := hfa.symm.trans T.law.g
  cases e
  have b := FunD.bindsA (ps := ["_law_script"]) FD fun _ _ _ _ _ _ us hl => match us, hl with | [_], _ => rfl
  exact ⟨fd, fun s v => b s [v] rfl, fun base _ _ => ok_law pfile T (He5.fun_of FD)⟩
end K75R
open PySem PySem.W PySem.Calls PyProof.Rows
set_option maxRecDepth 100000 in
theorem PySem.Challenge.cw_signsheets_k75_whole_far_numbers_holds : PySem.Challenge.rw_signsheets_k75_whole_far_numbers.Holds := by
  w_on; o_law
  refine HandSHeadRun.head_any (r := OpenLaw.row PySem.Challenge.rw_signsheets_k75_whole_far_numbers) (q := view (OpenLaw.row PySem.Challenge.rw_signsheets_k75_whole_far_numbers).prog [77]) (H := K75R.hk) (ob := K75R.ob) (M := 8000) (loose := K75R.nms)
    (d := HandSHeadRun.topDef (OpenLaw.row PySem.Challenge.rw_signsheets_k75_whole_far_numbers).prog 77) (kwd := []) K75R.ob_eq
    (by kernel_rfl) (fun s => by kernel_rfl) K75R.runR (by kernel_rfl) (by kernel_rfl) (by kernel_rfl) (by rfl) (by first | assumption | decide +kernel) (by decide +kernel) ⟨rfl, rfl, rfl, rfl, rfl, by decide +kernel⟩ ?hw ?hc
  case hw => w_witness2
  case hc =>
    refine L2.walk_ofE (l := PySem.Challenge.rw_signsheets_k75_whole_far_numbers) (n := 63) (k := 11) (x := "_law_script") (CX := L2.CX0) rfl (by decide) (by kernel_rfl) ⟨rfl, by decide, by decide⟩ ?F (fun _ _ _ _ z => z)
    intro w mg fa h Y G hmg0
    obtain ⟨K, KX, c⟩ := Y
    have hmg : mg ("law" : PySem.Str) = some (.ref fa) := by
      have e : (HandSHeadRun.topDef (OpenLaw.row PySem.Challenge.rw_signsheets_k75_whole_far_numbers).prog 77).name = ("law" : PySem.Str) := by kernel_rfl
      rw [← e]
      exact hmg0
    obtain ⟨fd, hb, hF⟩ := K75R.law_at (w := w) KX G hmg c
    exact ⟨K, fd, K75R.sp_law K, KX, hb, fun H a ns hl _ hS => ⟨a, ns, rfl, hS, fun _ => rfl⟩, hF⟩
