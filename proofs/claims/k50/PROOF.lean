import PyProof.Rows.All
import Wide.All
import OpenK.AllK
import Wide.FinOn
import Lean
import KE.SortData
import PyProof.MaxThree
import KE.KCallOwn
import KE.KDictLaws
import KE.KSuper
import HandS.ForMost
import HandS.Exc
import HandS.TryOnly
import HandS.ExcInit
import HandS.ExcField
import HandS.ExcIs
import HandS.Defaults
import HandS.Star
import HandS.IsInst
import HandS.Conv
import HandS.DictComp
import HandS.FStr
import HandS.Lambda
import HandS.SortRule
import HandS.SortInts
import PySem.Challenge.RW_ringbars_k50_whole_lineups_by_nets
import HandS.Nested
import KE.KExcIs
import HandS.Evl
import HandS.HeadHook4
import HandS.HeadWalk
import HandS.Head4
-- part KA
set_option Elab.async false
set_option linter.all false
set_option maxRecDepth 100000
set_option maxHeartbeats 4000000
namespace KB
open PySem PySem.Spec PyProof.Rows L2

/-! ### names -/
section
variable {X : Cx} {x : Str} {pos : Pos}
theorem pe_gint {i : Int} (h : ∃ t, X.mg x = some (.int i t)) (hg : Gl X x) (hd : (x == ("__debug__" : Str)) = false := by decide) : PE X (.Name x pos) (tC (.int i)) := by
  obtain ⟨t, e⟩ := h
  exact pe_glob hg e ⟨t, rfl⟩ hd
theorem pe_gstr {i : Str} (h : ∃ t, X.mg x = some (.str i t)) (hg : Gl X x) (hd : (x == ("__debug__" : Str)) = false := by decide) : PE X (.Name x pos) (tC (.str i)) := by
  obtain ⟨t, e⟩ := h
  exact pe_glob hg e ⟨t, rfl⟩ hd
theorem pe_gref {a : Addr} (h : X.mg x = some (.ref a)) (hg : Gl X x) (hd : (x == ("__debug__" : Str)) = false := by decide) : PE X (.Name x pos) (tC (.ref a)) :=
  pe_glob hg h rfl hd
theorem pe_bty {n : String} (hg : Gl X x) (hm : X.mg x = none) (hv : bootBuiltins x = some (.type n)) (hn : x ≠ "__name__" := by decide) (hd : (x == ("__debug__" : Str)) = false := by decide) : PE X (.Name x pos) (tC (.ty n)) :=
  pe_bltn hg hm hv rfl hn hd
end

/-! ### a def by its name, a class by its name -/
structure DefOk (P : Program) (w : World) (K : PySem.W.Frag) (mg : Str → Option Value) (base : Heap) (CX : CXT) (k : Nat) (x : Str) (sp : Sp) : Prop where
  ex : ∃ (f : Addr) (fd : FuncData) (ps : List Str), mg x = some (.ref f) ∧ PySem.W.keepIn K (.ref f) = true ∧ Binds K fd ps [] ∧ FnOk P w K mg base CX k f fd ps sp
structure MakeOk (P : Program) (w : World) (K : PySem.W.Frag) (mg : Str → Option Value) (base : Heap) (CX : CXT) (k : Nat) (x : Str) (C : Addr) (sp : Sp) : Prop where
  ex : ∃ (f : Addr) (fd : FuncData) (ps : List Str), mg x = some (.ref C) ∧ Mk K C f ∧ Binds K fd ps [] ∧ FnOk P w K mg base CX k f fd ps sp
section
variable {X : Cx} {CX : CXT} {k : Nat} {C : Addr} {sp : Sp} {E : XK} {x : Str} {p pos : Pos} {e : Expr} {es : List Expr} {t : TA}
theorem pe_callD (G : DefOk X.prog X.w X.K X.mg X.base CX k x sp) (hr : Room k X.A) (hg : Gl X x) (hx : Passes CX X E) (ha : PA X (e :: es) t) (hdb : (x == ("__debug__" : Str)) = false := by decide)
    (he : starEach (e :: es) X.env = (false, eval e X.env) :: starEach es X.env := by rfl) (hpl : (backTo pos (starEach es X.env)).any (·.1) = false := by rfl) : PE X (.Call (.Name x p) (e :: es) [] pos) (tCall sp [] E t) := by
  obtain ⟨f, fd, ps, hm, hk, hb, F⟩ := G.ex
  exact pe_call F hr hg hm hk hb .nil hx ha hdb he hpl
theorem pe_makeD (G : MakeOk X.prog X.w X.K X.mg X.base CX k x C sp) (hr : Room (k + 1) X.A) (hg : Gl X x) (hx : Passes CX X E) (ha : PA X (e :: es) t) (hdb : (x == ("__debug__" : Str)) = false := by decide)
    (he : starEach (e :: es) X.env = (false, eval e X.env) :: starEach es X.env := by rfl) (hpl : (backTo pos (starEach es X.env)).any (·.1) = false := by rfl) : PE X (.Call (.Name x p) (e :: es) [] pos) (tMake C sp [] E t) := by
  obtain ⟨f, fd, ps, hm, hk, hb, F⟩ := G.ex
  exact pe_make hk F hr hg hm hb .nil hx ha hdb he hpl
end

/-! ### list(range(..)) -/
theorem pe_listRange {X : Cx} {a : Expr} {ta : TE} {p p2 pos pos2 : Pos} (hg : Gl X "list") (hg2 : Gl X "range") (hc : X.calm = true) (hm : X.mg "list" = none) (hm2 : X.mg "range" = none) (ha : PE X a ta)
    (na : starEach [a] X.env = (false, eval a X.env) :: starEach [] X.env := by rfl)
    (nb : starEach [.Call (.Name "range" p2) [a] [] pos2] X.env = (false, eval (.Call (.Name "range" p2) [a] [] pos2) X.env) :: starEach [] X.env := by rfl) :
    PE X (.Call (.Name "list" p) [.Call (.Name "range" p2) [a] [] pos2] [] pos) (tLstRg (tRg1 ta)) :=
  pe_listRg hc hg hm (prg_1 hg2 hm2 ha na) nb

/-! ### max of three ints -/
section
variable {X : Cx}
theorem vals3 {x y z : V} {us : List Value} (r : Vals [x, y, z] us) : ∃ u v w', us = [u, v, w'] ∧ RelV x u ∧ RelV y v ∧ RelV z w' := by
  cases r with
  | cons r1 r2 =>
    obtain ⟨v, w', rfl, a, b⟩ := vals2 r2
    exact ⟨_, _, _, rfl, r1, a, b⟩
theorem call_max3 (hc : X.calm = true) : CallR X (.builtin "max") (fun xs H Q => ∃ i j k, xs = [.int i, .int j, .int k] ∧ Q (.int (if j > i then (if k > j then k else j) else (if k > i then k else i))) H) := by
  intro pins s σ H xs us Q I r h
  obtain ⟨i, j, k, rfl, q⟩ := h
  obtain ⟨u, v, w', rfl, ⟨t, rfl⟩, ⟨t', rfl⟩, ⟨t2, rfl⟩⟩ := vals3 r
  refine max_three_ints (I.ok.hd hc) fun h' tk kp => ⟨_, H, I.kept kp, ?_, q⟩
  by_cases h1 : j > i
  · rw [if_pos h1, if_pos h1]
    by_cases h2 : k > j
    · rw [if_pos h2, if_pos h2]; exact ⟨_, rfl⟩
    · rw [if_neg h2, if_neg h2]; exact ⟨_, rfl⟩
  · rw [if_neg h1, if_neg h1]
    by_cases h2 : k > i
    · rw [if_pos h2, if_pos h2]; exact ⟨_, rfl⟩
    · rw [if_neg h2, if_neg h2]; exact ⟨_, rfl⟩

/-! ### d.update(e), two dicts -/
def rDUpd : V → List V → Hp → VK → Prop := fun x vs H Q => ∃ a b kvs more, x = .ref a ∧ vs = [.ref b] ∧ H a = some (.dK kvs) ∧ H b = some (.dK more) ∧ a ≠ b ∧ kvs.length + more.length ≤ sizeLine ∧ Q .non (upd H a (.dK (mergeK kvs more)))
theorem mt_dupdate : MtR X "dict.update" rDUpd := by
  intro pins s σ H x vs v us Q I rx rv h
  obtain ⟨a, b, kvs, more, rfl, rfl, ha, hb, hne, hz, q⟩ := h
  cases (show v = Value.ref a from rx)
  obtain ⟨u, rfl, ru⟩ := vals1 rv
  cases (show u = Value.ref b from ru)
  obtain ⟨za, ya, va, ra, da⟩ := dk_of I.hok ha
  obtain ⟨zb, yb, vb, rb, db⟩ := dk_of I.hok hb
  refine call_meetsIn PySem.F.slot_dict_update da.typeIs PySem.F.entry_dict_update (PySem.F.args_dict_update_2 _ _) (meets_dict_update (mixKind X.prog X.w) a b hne yb) ⟨va, vb, da, db, ?_, fun h' hm _ hs => ?_⟩
  · rw [← ra.length, ← rb.length]
    exact hz
  · refine ⟨.non, _, ?_, rfl, q⟩
    refine d_write (t' := s.toks) I (by rw [ha]; exact True.intro) hs ?_ (dk_new (vs := merged va vb) ?_ ya (KV.merge rb ra) hm)
    · obtain ⟨o, _, _, e, _⟩ := hm
      exact ⟨o, e⟩
    · exact Nat.le_trans (length_mergeK _ _) hz
end

/-! ### sorted(xs), xs a list that reads as alike data -/
def pairV (bs : List (V × PyData)) : List V := bs.map (·.1)
def rSortedD (K : PySem.W.Frag) : List V → Hp → VK → Prop := fun vs H Q => ∃ (a : Addr) (bs : List (V × PyData)), vs = [V.ref a] ∧ SqL K H a (pairV bs) ∧ (∀ b ∈ bs, Dp K H b.1 b.2) ∧ PySem.W.AllAlike (bs.map (·.2)) ∧ PySem.W.Sortable (bs.map (·.2)) ∧
  (∀ b ∈ bs, b.2.depth ≤ 60) ∧ ∀ p, H p = none → Q (.ref p) (upd H p (.lst (pairV (bs.mergeSort (PySem.W.dataLe false (·.2))))))
end KB

-- part KA2
namespace KB
open PySem PySem.Spec PyProof.Rows L2

/-! ### sorted of data -/
theorem each_of_vals : ∀ {bs : List (V × PyData)} {us : List Value}, Vals (pairV bs) us → PySem.W.EachIs (fun u (b : V × PyData) => RelV b.1 u) us bs
  | [], _, r => by
    have r' : Vals [] _ := r
    cases r'
    exact .nil
  | b :: bs, _, r => by
    have r' : Vals (b.1 :: pairV bs) _ := r
    cases r' with
    | cons h t => exact .cons h (each_of_vals t)
theorem vals_of_each : ∀ {bs : List (V × PyData)} {us : List Value}, PySem.W.EachIs (fun u (b : V × PyData) => RelV b.1 u) us bs → Vals (pairV bs) us
  | _, _, .nil => .nil
  | _, _, .cons h t => .cons h (vals_of_each t)
section
variable {X : Cx} {pins : List (Addr × Obj)} {σ : L2.St} {H : Hp} {s : Shared}
theorem each_reads (I : Inv X pins σ H s) : ∀ {bs : List (V × PyData)} {us : List Value}, (∀ b ∈ bs, Dp X.K H b.1 b.2) → Vals (pairV bs) us → PySem.W.EachIs (fun u (b : V × PyData) => ∃ as, Reads s.heap u b.2 as) us bs
  | [], _, _, r => by
    have r' : Vals [] _ := r
    cases r'
    exact .nil
  | b :: bs, _, hd, r => by
    have r' : Vals (b.1 :: pairV bs) _ := r
    cases r' with
    | cons h t => exact .cons (Dp.reads I b.2 b.1 _ (hd b List.mem_cons_self) h) (each_reads I (fun c hc => hd c (List.mem_cons_of_mem _ hc)) t)
theorem cr_sortedD (hu : X.A.units + 64 < cLine) : CallR X (.builtin "sorted") (rSortedD X.K) := by
  intro pins s σ H vs us Q I r h
  obtain ⟨a, bs, rfl, hs, hd, hal, hk, hdep, q⟩ := h
  obtain ⟨its, rv, hl, hz⟩ := I.list hs
  obtain rfl := Vals.ref1 r
  have hlen : bs.length ≤ sizeLine := by
    have : (pairV bs).length = bs.length := List.length_map _
    omega
  refine PySem.W.sorted_data (enc := fun b : V × PyData => b.2) (vs := its) (bs := bs) (R := fun u b => RelV b.1 u) hl.isList (each_of_vals rv) (each_reads I hd rv) hal hk hlen (fun b hb => ?_) fun out ho hout => ?_
  · have := hdep b hb
    omega
  · obtain ⟨n, hn⟩ := PyProof.Rows.sortedAll_at s.heap its out.toArray
    refine ⟨.ref (s.heap.objs.size + 1), _, I.laid (t' := s.toks) (a := s.heap.objs.size + 1) (o := .lst (pairV (bs.mergeSort (PySem.W.dataLe false (·.2))))) (fun b o e => PyProof.Rows.sortedAll_old e) (Nat.le_succ _) ⟨?_, out, n, vals_of_each hout, hn⟩, rfl, q _ (I.hok.fresh (Nat.le_succ _))⟩
    have e1 : (pairV (bs.mergeSort (PySem.W.dataLe false (·.2)))).length = bs.length := by
      unfold pairV
      rw [List.length_map, List.length_mergeSort]
    rw [e1]
    exact hlen
end

/-! ### a call of a def of CX0, at any around that stands where the body stands -/
section
variable {X : Cx} {k : Nat} {f : Addr} {fd : FuncData} {ps : List Str} {sp : Sp}
theorem run_at {pins : List (Addr × Obj)} {σ : L2.St} {H : Hp} {s : Shared} {A : Around} {Q : VK} {us : List Value} {vs : List V} {E : Value → Shared → Prop} (F : FnOk X.prog X.w X.K X.mg X.base CX0 k f fd ps sp) (hr : Room k A) (hA : Env0 X.prog X.w X.K X.mg X.base A X.stack s H) (hb : Binds X.K fd ps [])
    (I : Inv X pins σ H s) (r : Vals vs us) (h : sp vs H Q E0) : wpAny (model X.prog X.w) A (call (.ref f) us) (EP X pins σ Q) E s := by
  have hl : us.length = ps.length := by rw [← r.length]; exact F.len _ _ _ _ h
  have hb' : BindsTo s fd ⟨us, []⟩ (ps.zip us) := by
    have z := hb s us I.kIn (by rw [List.append_nil]; exact hl)
    rw [List.append_nil] at z
    exact z
  refine wpAny_call (codeAny_mono (F.run A X.stack s H ⟨us, []⟩ us vs Q E0 hr hA hb' r h) fun r s' hq => ?_)
  cases r with
  | error e => exact False.elim hq
  | ok fl =>
    cases fl with
    | ret u => exact I.after hq
    | next => exact False.elim hq
    | brk => exact False.elim hq
    | cont => exact False.elim hq
end

/-! ### truth by an own __bool__ -/
/-- the class at C has a __bool__ that answers b -/
structure BoolM (P : Program) (w : World) (K : PySem.W.Frag) (mg : Str → Option Value) (base : Heap) (k : Nat) (C : Addr) (b : Bool) : Prop where
  ex : ∃ (f : Addr) (fd : FuncData) (ps : List Str), PySem.W.findIn K (.ref C) "__bool__" = some (some (.ref f)) ∧ PySem.W.isFn K (.ref f) = true ∧ Binds K fd ps [] ∧ FnOk P w K mg base CX0 k f fd ps (fun vs H Q _ => ∃ a, vs = [.ref a] ∧ Q (.bl b) H)
section
variable {X : Cx} {k : Nat}
def rTruB (X : Cx) (k : Nat) : V → Hp → (Bool → Hp → Prop) → Prop := fun x H Q => ∃ a C dx fs b, x = .ref a ∧ H a = some (.ins C dx fs) ∧ BoolM X.prog X.w X.K X.mg X.base k C b ∧ Q b H
theorem tru_at {A : Around} {E : Value → Shared → Prop} (hr : Room k A) (hA : ∀ {s : Shared} {H : Hp}, Env0 X.prog X.w X.K X.mg X.base X.A X.stack s H → Env0 X.prog X.w X.K X.mg X.base A X.stack s H) {pins : List (Addr × Obj)} {s : Shared} {σ : L2.St} {H : Hp} {x : V} {v : Value} {Q : Bool → Hp → Prop}
    (I : Inv X pins σ H s) (rx : RelV x v) (h : rTruB X k x H Q) : wpAny (model X.prog X.w) A (truthy v) (TP X pins σ Q) E s := by
  obtain ⟨a, C, dx, fs, b, rfl, ha, ⟨f, fd, ps, hf, hfn, hb, F⟩, q⟩ := h
  cases (show v = Value.ref a from rx)
  obtain ⟨mA, O, _⟩ := ins_get I.hok ha
  obtain ⟨od, J, _⟩ := O.look
  unfold truthy
  refine wpAny_bind (m := callSpecial? (.ref a) (Str.ofString "__bool__")) (PySem.W.special_fn I.kIn J hf (beq_iff_eq.mp hfn) ?_)
  refine wpAny_mono (run_at (E := E) (us := [.ref a]) (vs := [.ref a]) F hr (hA I.env0) hb I (.cons rfl .nil) (Q := fun v H' => v = .bl b ∧ Q b H') ⟨a, rfl, rfl, q⟩) (fun u s' hq => ?_) fun _ _ z => z
  obtain ⟨v, H', I', rv, ev, q'⟩ := hq
  subst ev
  cases (show u = Value.bool b from rv)
  exact wpAny_pure ⟨H', I', q'⟩
theorem pt_truthB {a : Expr} {ta : TE} (hr : Room k X.A) (ha : PE X a ta) (he : ∀ whole, isTrue a X.env whole = (do let v ← whole; standAt a.pos; holding [v] (truthy v))) :
    PT X a (fun σ H Q => ta σ H fun x H' => rTruB X k x H' Q) := by
  refine ⟨fun pins s σ H Q I h => ?_⟩
  exact isTrue_plain (thn (ha.run pins s σ H _ I h) fun v s1 ⟨x, H1, I1, r1, q1⟩ => tru_at hr (fun e => e) I1 r1 q1) (he _)
/-- bool(o) -/
theorem call_boolB (hr : Room (k + 2) X.A) : CallR X (.type "bool") (fun xs H Q => ∃ x, xs = [x] ∧ rTruB X k x H fun b H' => Q (.bl b) H') := by
  intro pins s σ H xs us Q I r h
  obtain ⟨x, rfl, h⟩ := h
  obtain ⟨u, rfl, ru⟩ := vals1 r
  have hx : ∃ a, u = Value.ref a := by
    obtain ⟨a, _, _, _, _, rfl, _⟩ := h
    exact ⟨a, ru⟩
  obtain ⟨a, rfl⟩ := hx
  refine callType_codes (T := "bool") (Bi := Builtin.«object.__init__») (Q₁ := fun r s₁ => ∃ b, r = .bool b ∧ EP X pins σ Q r s₁) PySem.F.called_bool (PySem.F.typeCall_bool_1 _) PySem.F.entry_object_init ?_ ?_
  · refine codeAny_of_tree ?_
    show wpAny _ X.A.in1.in1 (do checkBuiltinCall "bool.__new__" ⟨[.type "bool", .ref a], []⟩; again (.builtin "bool.__new__" ⟨[.type "bool", .ref a], []⟩)) _ _ s
    refine wpAny_bind (wpAny_of_eq (PySem.F.newCall_bool_1 _) (wpAny_pure ⟨plainId_quiet (by decide +kernel) _, codeAny_builtin PySem.F.entry_bool_new ?_⟩))
    rw [Around.under_plainId (by decide +kernel) _]
    unfold Builtin.«bool.__new__»
    refine wpAny_bind (m := isType (.type "bool")) (wpAny_pure ?_)
    show wpAny _ _ (isSubtype (.type "bool") (.type "bool") >>= _) _ _ _
    refine wpAny_bind (wpAny_of_eq PySem.F.conv_sub_bool ?_)
    show wpAny _ _ (truthy (.ref a) >>= _) _ _ _
    refine wpAny_bind (wpAny_mono (tru_at (k := k) (E := fun e s' => wants (fun r s₁ => ∃ b, r = .bool b ∧ EP X pins σ Q r s₁) X.xe (.error e) s') hr.in1.in1 (fun e => e.in1.in1) I ru h) (fun b s1 hb => ?_) fun _ _ z => z)
    obtain ⟨H', I', q⟩ := hb
    exact wpAny_pure ⟨b, rfl, .bl b, H', I', rfl, q⟩
  · rintro obj s₁ ⟨b, rfl, hq⟩
    exact ⟨PySem.typeIs_bool _ _, PySem.F.args_object_init_2 _ _, object_init_meets PySem.F.called_bool.init.lookup PySem.F.called_bool.made (by decide) X.prog X.w X.A.in1 _ s₁ ⟨PySem.typeIs_bool _ _, rfl, hq⟩⟩
end
end KB

-- part KA3
namespace KB
open PySem PySem.Spec PyProof.Rows L2

/-! ### str(o) by an own __str__ -/
structure StrM (P : Program) (w : World) (K : PySem.W.Frag) (mg : Str → Option Value) (base : Heap) (k : Nat) (C : Addr) (sp : Sp) : Prop where
  ex : ∃ (f : Addr) (fd : FuncData) (ps : List Str), PySem.W.findIn K (.ref C) "__str__" = some (some (.ref f)) ∧ PySem.W.isFn K (.ref f) = true ∧ Binds K fd ps [] ∧ FnOk P w K mg base CX0 k f fd ps sp
section
variable {X : Cx} {k : Nat}
theorem call_strB {C : Addr} {sp : Sp} (hr : Room (k + 2) X.A) (S : StrM X.prog X.w X.K X.mg X.base k C sp) : CallR X (.type "str") (fun xs H Q => ∃ a dx fs, xs = [.ref a] ∧ H a = some (.ins C dx fs) ∧ sp [.ref a] H (fun v H' => ∃ z, v = .str z ∧ Q v H') E0) := by
  intro pins s σ H xs us Q I r h
  obtain ⟨a, dx, fs, rfl, ha, h⟩ := h
  obtain rfl := Vals.ref1 r
  obtain ⟨f, fd, ps, hf, hfn, hb, F⟩ := S.ex
  obtain ⟨mA, O, _⟩ := ins_get I.hok ha
  obtain ⟨od, J, _⟩ := O.look
  have hu : X.A.in1.in1.units < cLine := hr.in1.in1.units0
  refine PySem.W.kso_call hu I.kIn J hf hfn ?_
  refine wpAny_mono (run_at (E := X.xe) (us := [.ref a]) (vs := [.ref a]) F hr.in1.in1 I.env0.in1.in1 hb I (.cons rfl .nil) h) (fun u s' hq => ?_) fun _ _ z => z
  obtain ⟨v, H', I', rv, z, ev, q⟩ := hq
  subst ev
  obtain ⟨t, rfl⟩ := rv
  exact ⟨.str z, H', I', ⟨t, rfl⟩, q⟩
end

/-! ### o.f as a target -/
def gFld (K : PySem.W.Frag) (f : Str) (to : TE) : TG := fun y σ H Q => to σ H fun x H2 => ∃ a C dx fs, x = .ref a ∧ H2 a = some (.ins C dx fs) ∧ Cls K C ∧ NoAttr K C f ∧ fs.length < 1000 ∧ Q σ (upd H2 a (.ins C dx (putF f y fs)))
section
variable {X : Cx} {o : Expr} {f : Str} {pos : Pos} {to : TE}
theorem pg_fld (ho : PE X o to) : PG X (.Attribute o f pos) (gFld X.K f to) := by
  refine ⟨fun pins s σ H v u Q I r h => ?_⟩
  rw [assign_Attribute]
  refine wpAny_bind (wpAny_holding (thn (ho.run pins s σ H _ I h) fun ov s1 ⟨x, H1, I1, rx, a, C, dx, fs, ex, ea, c, n, l, q⟩ => ?_))
  subst ex
  obtain rfl : ov = Value.ref a := rx
  refine wpAny_bind (wpAny_standAt (wpAny_bind (wpAny_holding ?_)))
  exact setattr_ok I1 ea c n l r fun s3 I3 => wpAny_release ⟨σ, _, I3, q⟩
end
end KB

-- part KA4
namespace KB
open PySem PySem.Spec PyProof.Rows L2

/-! ### a method whose first statement is super().__init__(..) -/
/-- what K says of such a method at f (F: its words; D: the class in its cell cc) -/
structure SupF (P : Program) (K : PySem.W.Frag) (F : NdefX.NF) (f cc D : Addr) : Prop where
  cl : F.cl = [(("__class__" : Str), cc)]
  at_ : ∃ (oc : Value) (od : Option Addr) (kV doc pm : Value) (an : Option Addr) (ct : Value) (osl : Array (Option Value)), K.lookup f = some ⟨oc, od, .func (PySem.W.ksFn F.name F.qual F.params F.body F.scope .none kV doc pm an (.ref F.c) ct cc), osl⟩
  code : PySem.W.codeIn K (.ref F.c) F.qual = true
  file : ∃ (ccl : Value) (cdd : Option Addr) (vs : Array Value) (ccs : Array (Option Value)) (fl : Str) (tf : Tok), K.lookup F.c = some ⟨ccl, cdd, .fields vs, ccs⟩ ∧ vs[2]? = some (.str fl tf) ∧ ((P.main.file : Str) == fl) = true
  cell : ∃ (cl : Value) (cld : Option Addr) (csl : Array (Option Value)), K.lookup cc = some ⟨cl, cld, .cell (some (.ref D)), csl⟩
  clsD : ∃ cd, PySem.W.clsIn K D = some cd
  top : (P.main.scope.names.lookup ("super" : Str)).isSome = false
/-- what K says of the class C of the instance: its super behind D has the method g -/
structure SupC (K : PySem.W.Frag) (C D g : Addr) (m : Str) : Prop where
  sub : PySem.W.mroIn K C (.ref D) = some true
  at_ : PySem.W.ks_superIn K C D m = some (some (.ref g))
  fn : PySem.W.typeIn K (.ref g) = some (.type "function")
  fi : PySem.W.fnIn K g = true
  op : PySem.W.nsIn K cStatics "thirdparty.any" = some none
  ct : ∃ cd, PySem.W.clsIn K C = some cd
  cls : Cls K C

section
variable {P : Program} {w : World} {K : PySem.W.Frag} {mg : Str → Option Value} {base : Heap} {F : NdefX.NF} {f cc D : Addr} {N ps : List Str} {A : Around} {outer : List Env} {s0 : Shared} {H0 : Hp} {E : XK}
/-- the statement's reading: self is slot 0 -/
def tSup (K : PySem.W.Frag) (D g : Addr) (sp : Sp) (ta : TA) : TS := fun Dn σ H => ∃ (x C dx : Addr) (fs : List (Str × V)), σ[0]? = some (some (.ref x)) ∧ H x = some (.ins C dx fs) ∧ SupC K C D g "__init__" ∧
  ∀ q, H q = none → ta σ (upd H q (.met g x)) fun vs H2 => H2 q = some (.met g x) ∧ sp (.ref x :: vs) H2 (fun _ H3 => Dn.nx σ H3) E0
theorem sup_stmt {k : Nat} {pl : Sem Bool} {g : Addr} {sp : Sp} {e : Expr} {es : List Expr} {ta : TA} {t : TS} {p0 p1 apos cpos epos : Pos} {rest : List Stmt} {body : List Stmt} {ar : Arg} (S : SupF P K F f cc D) (hN0 : N[0]? = some ar.arg) (hp : (F.params.posonlyargs ++ F.params.args).head? = some ar) (hka : F.scope.names.lookup ar.arg = some .local)
    (hks : F.scope.names.lookup ("super" : Str) = some .globalImplicit) (hkc : F.scope.names.lookup ("__class__" : Str) = some .free) (hmg : mg "super" = none) (hk : F.scope.kind = .function)
    (G : FnR P w K mg base CX0 k g sp) (hr : Room k (A.deeper (NdefX.envF F f s0.heap.objs.size)))
    (ha : PA (NdefX.ncx CX0 P w K mg base N F f A outer s0 H0 E) (e :: es) ta) (hrest : PSs (NdefX.ncx CX0 P w K mg base N F f A outer s0 H0 E) rest t)
    (hev : eval (.Call (.Attribute (.Call (.Name "super" p0) [] [] p1) "__init__" apos) (e :: es) [] cpos) (NdefX.envF F f s0.heap.objs.size) = (do
      let ov ← attributeBase (.Call (.Name "super" p0) [] [] p1) "__init__" (NdefX.envF F f s0.heap.objs.size) (eval (.Call (.Name "super" p0) [] [] p1) (NdefX.envF F f s0.heap.objs.size))
      standAt apos.atName
      let (f', first) ← holding [ov] (getMethod ov "__init__" pl)
      callWith cpos f' first (backTo cpos (starEach (e :: es) (NdefX.envF F f s0.heap.objs.size))) []))
    (hst : starEach (e :: es) (NdefX.envF F f s0.heap.objs.size) = (false, eval e (NdefX.envF F f s0.heap.objs.size)) :: starEach es (NdefX.envF F f s0.heap.objs.size))
    (hpl : (backTo cpos (starEach es (NdefX.envF F f s0.heap.objs.size))).any (·.1) = false)
    (hsw : swapsWith (.Call (.Attribute (.Call (.Name "super" p0) [] [] p1) "__init__" apos) (e :: es) [] cpos) none epos.line (NdefX.envF F f s0.heap.objs.size) = pure false)
    {pins : List (Addr × Obj)} {s : Shared} {σ : L2.St} {H : Hp} {Dn : Ends} (I : Inv (NdefX.ncx CX0 P w K mg base N F f A outer s0 H0 E) pins σ H s) (h : tSeq (tSup K D g sp ta) t Dn σ H) :
    _root_.PySem.wpAt (model P w) (A.deeper (NdefX.envF F f s0.heap.objs.size)) (.func body (NdefX.envF F f s0.heap.objs.size)) (execs (.Expr (.Call (.Attribute (.Call (.Name "super" p0) [] [] p1) "__init__" apos) (e :: es) [] cpos) epos :: rest) (NdefX.envF F f s0.heap.objs.size))
      (SP (NdefX.ncx CX0 P w K mg base N F f A outer s0 H0 E) pins Dn) (NdefX.ncx CX0 P w K mg base N F f A outer s0 H0 E).xe s := by
  obtain ⟨x, C, dx, fs, hx0, hx, SC, h⟩ := h
  obtain ⟨oc, od, kV, doc, pm, an, ct, osl, lk⟩ := S.at_
  obtain ⟨ccl, cdd, vs, ccs, fl, tf, lc, hvs, hfile⟩ := S.file
  obtain ⟨cl, cld, csl, lcc⟩ := S.cell
  obtain ⟨cdD, hD⟩ := S.clsD
  refine ks_wpAt_execs_cons (ks_wpAt_Expr_any ?_ (by simp [interactive, hk]) hsw)
  refine ks_wpAt_MethodCall (pl := pl) ?_ hev
  have KX : K.In s.heap := I.kIn
  obtain ⟨m, hn, hl⟩ := I.loc
  obtain ⟨u, ru, lu⟩ := hl 0 ar.arg (.ref x) hN0 hx0 (.inl hka)
  cases (show u = Value.ref x from ru)
  have hm : m ar.arg = some (.ref x) := by
    rcases lu with ⟨_, e1⟩ | ⟨k1, _⟩
    · exact e1
    · have k2 : F.scope.names.lookup ar.arg = some .cell ∨ F.scope.names.lookup ar.arg = some .free := k1
      rw [hka] at k2
      rcases k2 with k2 | k2 <;> cases k2
  obtain ⟨oD, hD1, hD2⟩ : ∃ oD, s.heap.get? D = some oD ∧ oD.data = .cls cdD := by
    unfold PySem.W.clsIn at hD
    split at hD
    · rename_i c d cd' sl ho
      cases hD
      exact ⟨_, KX _ _ ho, rfl⟩
    · cases hD
  have hcl : (NdefX.envF F f s0.heap.objs.size).cells.lookup ("__class__" : Str) = some cc := by
    show F.cl.lookup ("__class__" : Str) = some cc
    rw [S.cl]
    rfl
  obtain ⟨mA, O, _⟩ := ins_get I.hok hx
  obtain ⟨odx, J, _⟩ := O.look
  refine ks_wpAt_super_base (env := NdefX.envF F f s0.heap.objs.size) hks hkc (by decide) rfl (KX _ _ lk) rfl hp rfl (KX _ _ lc) rfl hvs hfile S.top ?_
  obtain ⟨mb, hb1, hb2⟩ := I.mod.blt
  refine PySem.W.ks_loadName_global hk hks (PySem.Calls.loadGlobal_builtin (env := NdefX.envF F f s0.heap.objs.size) (I.mod.glob.keeps I.bk) hmg (hb1.keeps I.bk) ((hb2 _ (by decide)).trans (by decide +kernel)) ⟨rfl, ?_⟩)
  refine wpAny_loadName_free hk hkc hcl ⟨_, KX _ _ lcc, rfl⟩ ?_
  refine wpAny_loadName_local hk hka hn hm ?_
  refine ks_wpAny_isType_cls hD1 hD2 ⟨rfl, ?_⟩
  obtain ⟨hp0, g0, d0, t0, os0⟩ := s
  refine ks_wpAny_call_super hD1 hD2 J.at_ J.cls (fun c ec => ?_) (PySem.W.looks_mroIn KX SC.sub) (fun h' hso kk => ?_)
  · have := J.no
    unfold PySem.W.notCls at this
    rw [ec] at this
    exact Bool.noConfusion this
  have I1 := I.kept (h' := h') (t' := t0) kk
  obtain ⟨cdC, hC⟩ := SC.ct
  have hsup := SC.at_
  unfold PySem.W.ks_superIn at hsup
  rw [hC] at hsup
  have KX1 : K.In h' := I1.kIn
  obtain ⟨of, hof, hofc⟩ : ∃ of, h'.get? g = some of ∧ of.cls = .type "function" := by
    have ht' : (K.lookup g).map (·.cls) = some (.type "function") := SC.fn
    cases z : K.lookup g with
    | none => rw [z] at ht'; cases ht'
    | some of => rw [z] at ht'; exact ⟨of, KX1 _ _ z, Option.some.inj ht'⟩
  refine ks_wpAny_getMethod_super hso (PySem.W.looks_opaque KX1 SC.op) (l₀ := cdC.mro) ?_ rfl KX1 hsup hof hofc (PySem.W.ks_ne KX J hC) (by decide) ?_
  · exact fun A Q E s k q => wpAny_bind ((PySem.W.looks_clsIn KX1 hC) A _ E s k (wpAny_pure q))
  have hfr : H h'.objs.size = none := I1.hok.fresh (Nat.le_refl _)
  have I2 := I1.laid (t' := t0 + 1) (a := h'.objs.size) (o := .met g x) (h' := h'.push (PySem.W.methodObj (.ref g) (.ref x))) (fun b u z => Heap.get?_push_of_some _ z) (Nat.le_refl _)
    (show (h'.push (PySem.W.methodObj (.ref g) (.ref x))).get? h'.objs.size = some (PySem.W.methodObj (.ref g) (.ref x)) from Heap.get?_push_size _ rfl)
  rw [hst]
  refine PySem.W.callWith_of (P := PySem.W.MethP K h'.objs.size g (.ref x)) (by show ((false || (backTo cpos (starEach es (NdefX.envF F f s0.heap.objs.size))).any (·.1)) || false) = false; rw [hpl]; rfl) (PySem.W.keeps_M SC.fi) (PySem.Calls.evalArgs_plain ?_)
  have hpa := ha.run cpos pins _ σ _ _ I2 (h _ hfr)
  rw [show starEach (e :: es) (NdefX.ncx CX0 P w K mg base N F f A outer s0 H0 E).env = (false, eval e (NdefX.envF F f s0.heap.objs.size)) :: starEach es (NdefX.envF F f s0.heap.objs.size) from hst] at hpa
  refine wpAny_mono hpa (fun us s3 hq => ?_) fun _ _ z => z
  obtain ⟨vs3, H3, I3, r3, hm3, hsp⟩ := hq
  refine ⟨met_P I3 hm3, ?_⟩
  refine wpAny_mono (wpAny_call (PySem.W.method_call (met_P I3 hm3).1 (codeAny_mono (G (A.deeper (NdefX.envF F f s0.heap.objs.size)) _ s3 H3 (.ref x :: us) (.ref x :: vs3) (fun _ H4 => t Dn σ H4) E0 hr I3.env0 (.cons rfl r3) hsp) fun r s4 hq => ?_))) (Q := fun _ s4 => ∃ H4, Inv (NdefX.ncx CX0 P w K mg base N F f A outer s0 H0 E) pins σ H4 s4 ∧ t Dn σ H4) (fun v s4 hq => ?_) fun _ _ z => z
  · cases r with
    | error er => exact False.elim hq
    | ok fl =>
      cases fl with
      | ret u =>
        obtain ⟨v, H4, I4, rv, q4⟩ := I3.after hq
        exact ⟨H4, I4, q4⟩
      | next => exact False.elim hq
      | brk => exact False.elim hq
      | cont => exact False.elim hq
  · obtain ⟨H4, I4, q4⟩ := hq
    exact wpAt_of_wpAny (hrest.run pins s4 σ H4 Dn I4 q4)
/-- THE RULE for such a method -/
theorem sup_fn {k : Nat} {sp : Sp} (S : SupF P K F f cc D) (Sc : NdefX.NScope N ps ["__class__"] F.scope) (len : ∀ vs H Q E, sp vs H Q E → vs.length = ps.length)
    (hb : ∀ (kV doc pm : Value) (an : Option Addr) (ct : Value) (us : List Value), us.length = ps.length → bindArgs (PySem.W.ksFn F.name F.qual F.params F.body F.scope .none kV doc pm an (.ref F.c) ct cc) ⟨us, []⟩ = pure (ps.zip us))
    (hbody : ∀ (A : Around) (outer : List Env) (s : Shared) (H : Hp) (vs : List V) (Q : VK) (E : XK), Room k (A.deeper (NdefX.envF F f s.heap.objs.size)) → sp vs H Q E →
      ∃ t : TS, (∀ (pins : List (Addr × Obj)) (s1 : Shared) (σ : L2.St) (H1 : Hp) (Dn : Ends), Inv (NdefX.ncx CX0 P w K mg base N F f A outer s H E) pins σ H1 s1 → t Dn σ H1 →
          _root_.PySem.wpAt (model P w) (A.deeper (NdefX.envF F f s.heap.objs.size)) (.func F.body (NdefX.envF F f s.heap.objs.size)) (execs F.body (NdefX.envF F f s.heap.objs.size)) (SP (NdefX.ncx CX0 P w K mg base N F f A outer s H E) pins Dn) (NdefX.ncx CX0 P w K mg base N F f A outer s H E).xe s1) ∧
        t { nx := fun _ H' => Q .non H', rt := Q } (NdefX.startF N vs [some (.ref D)]) H) :
    ∃ fd, Binds K fd ps [] ∧ FnOk P w K mg base CX0 (k + 1) f fd ps sp := by
  obtain ⟨oc, od, kV, doc, pm, an, ct, osl, lk⟩ := S.at_
  obtain ⟨clv, cld, csl, lcc⟩ := S.cell
  refine ⟨_, Binds.all (hb kV doc pm an ct), len, fun A outer s H args us vs Q E hr e0 hb r hsp => ?_⟩
  have hl := len _ _ _ _ hsp
  have KX : K.In s.heap := e0.mod.kin.keeps fun b o e => (e0.bs b o e).1
  have lim : s.heap.NoLimit := e0.mod.nolimit.keeps fun b o e => (e0.bs b o e).1
  refine ks_codeAny_call_defAt (fd := PySem.W.ksFn F.name F.qual F.params F.body F.scope .none kV doc pm an (.ref F.c) ct cc) (body := F.body) (binds := ps.zip us) hr.depth (KX _ _ lk) rfl lim (PySem.W.codeRec_of KX S.code) rfl hb Sc.nocell (fun ⟨n, _⟩ hy => Sc.par n (List.of_mem_zip hy).1) (fun h₁ hns kp => ?_) Sc.co Sc.gen Sc.kind
  have eenv : callEnv (PySem.W.ksFn F.name F.qual F.params F.body F.scope .none kV doc pm an (.ref F.c) ct cc) s.heap.objs.size f = NdefX.envF F f s.heap.objs.size := by
    unfold NdefX.envF PySem.W.envX
    rw [S.cl]
    rfl
  rw [eenv]
  obtain ⟨t, ht, hq⟩ := hbody A outer s H vs Q E (hr.deeper _) hsp
  have C : NdefX.CellsAt F.cl ["__class__"] [some (.ref D)] s.heap H := by
    have hc : s.heap.IsCell cc (some (.ref D)) := ⟨_, KX _ _ lcc, rfl⟩
    have hH : H cc = none := (e0.bs _ _ (e0.mod.kin _ _ lcc)).2
    have key : ∀ y c, F.cl.lookup y = some c → y = ("__class__" : Str) ∧ c = cc := fun y c e => by
      rw [S.cl] at e
      by_cases hy : y = ("__class__" : Str)
      · subst hy
        have e2 : some cc = some c := by simpa [List.lookup] using e
        exact ⟨rfl, (Option.some.inj e2).symm⟩
      · have hb : (y == ("__class__" : Str)) = false := beq_eq_false_iff_ne.mpr hy
        simp [List.lookup, hb] at e
    refine ⟨rfl, fun y c e => ?_, fun x y c e1 e2 => ?_, fun i y hi => ?_⟩
    · obtain ⟨_, rfl⟩ := key y c e
      exact ⟨hH, _, hc⟩
    · exact (key x c e1).1.trans (key y c e2).1.symm
    · match i, hi with
      | 0, hi =>
        have ey : ("__class__" : Str) = y := Option.some.inj hi
        subst ey
        refine ⟨cc, by rw [S.cl]; rfl, fun v hv => ?_⟩
        have ev : V.ref D = v := Option.some.inj (Option.some.inj hv)
        subst ev
        exact ⟨.ref D, rfl, hc⟩
      | i + 1, hi => simp at hi
  have I : Inv (NdefX.ncx CX0 P w K mg base N F f A outer s H E) [] (NdefX.startF N vs [some (.ref D)]) H { s with heap := h₁, toks := s.toks + (ps.zip us).length } := NdefX.inv_startN Sc hr.hd e0 hl r C hns kp
  refine ks_wpAt_mono (ht [] _ _ H _ I hq) (fun fl s' hs => ?_) fun e s' hs => hs
  have fin : ∀ {σ' : L2.St} {H' : Hp} {v : V} {u : Value}, Inv (NdefX.ncx CX0 P w K mg base N F f A outer s H E) [] σ' H' s' → L2.RelV v u → Q v H' → CE outer P w H s Q u s' :=
    fun {σ' H' v u} J rv q => ⟨v, H', J.os, J.bare, J.base, J.hok, rv, q⟩
  cases fl with
  | ret u =>
    obtain ⟨v, σ', H', J, rv, q⟩ := hs
    exact fin J rv q
  | next =>
    obtain ⟨σ', H', J, q⟩ := hs
    exact fin (v := V.non) (u := Value.none) J rfl q
  | brk =>
    obtain ⟨_, _, _, q⟩ := hs
    exact False.elim q
  | cont =>
    obtain ⟨_, _, _, q⟩ := hs
    exact False.elim q
end
end KB

-- part KA5
namespace KB
open PySem PySem.Spec PyProof.Rows L2

/-! ### an error class whose __init__ keeps one part -/
def spPart (K : PySem.W.Frag) : Sp := fun vs H Q _ => ∃ (a C : Addr) (v : V), vs = [.ref a, v] ∧ OexC K C ∧ PySem.W.findIn K (.ref C) "part" = some none ∧ H a = some (exo a C none) ∧
  ∀ dx, H dx = none → dx ≠ a → Q .non (upd (upd H dx (exd dx [("part", v)])) a (exo a C (some dx)))
structure ErrOk (P : Program) (w : World) (K : PySem.W.Frag) (mg : Str → Option Value) (base : Heap) (k : Nat) (x : Str) (C : Addr) : Prop where
  ex : ∃ (fI : Addr) (fd : FuncData) (ps : List Str), OexC K C ∧ PySem.W.findIn K (.ref C) "part" = some none ∧ PySem.W.findIn K (.ref C) "__init__" = some (some (.ref fI)) ∧ PySem.W.typeIn K (.ref fI) = some (.type "function") ∧
    Binds K fd ps [] ∧ FnOk P w K mg base CX0 k fI fd ps (spPart K) ∧ mg x = some (.ref C)
/-- the reading of X(e): d is the error's own dict -/
def tErr (C : Addr) (ta : TA) : L2.St → Hp → XK → Prop := fun σ H Q => ta σ H fun vs H1 => ∃ v, vs = [v] ∧ ∀ d, H1 d = none → Q (.ref C) (some d) (upd H1 d (.xd [("part", v)]))
section
variable {X : Cx} {k : Nat} {x : Str} {C : Addr} {e : Expr} {ta : TA} {p pos : Pos}
/-- a reading of arguments, made monotone -/
def mcA (ta : TA) : TA := fun σ H W => ∃ W' : List V → Hp → Prop, ta σ H W' ∧ ∀ vs H1, W' vs H1 → W vs H1
theorem PA.mc {X : Cx} {es : List Expr} {ta : TA} (h : PA X es ta) : PA X es (mcA ta) := ⟨fun pos pins s σ H Q I hw => by
  obtain ⟨W', h1, h2⟩ := hw
  refine thn (h.run pos pins s σ H W' I h1) fun us s1 hq => ?_
  obtain ⟨vs, H1, I1, r, q⟩ := hq
  exact ⟨vs, H1, I1, r, h2 _ _ q⟩⟩
theorem pmk_err (G : ErrOk X.prog X.w X.K X.mg X.base k x C) (hr : Room (k + 1) X.A) (hg : Gl X x) (ha : PA X [e] ta) (hdb : (x == ("__debug__" : Str)) = false := by decide)
    (he : starEach [e] X.env = (false, eval e X.env) :: starEach [] X.env := by rfl) (hpl : (backTo pos (starEach [] X.env)).any (·.1) = false := by rfl) : PMk X (.Call (.Name x p) [e] [] pos) (tErr C ta) := by
  obtain ⟨fI, fd, ps, T, hno, iC, tI, hb, F, hm⟩ := G.ex
  intro pins s σ H Q I h
  refine pmk_oex (dvs := []) (ds := []) T iC tI F hr hb .nil pass0 hg hm (PA.mc ha) hdb he hpl pins s σ H Q I ⟨_, h, fun vs H1 hv => ?_⟩
  obtain ⟨v, rfl, q⟩ := hv
  refine ⟨by show 1 ≤ 1000; decide, fun a hna => ⟨a, C, v, rfl, T, hno, upd_same, fun dx hdx hne => ⟨rfl, dx, [(("part" : Str), v)], upd_same, ?_, ?_, ?_⟩⟩⟩
  · rw [upd_ne hne, upd_same]
  · rw [upd_ne hne] at hdx
    exact hdx
  · have hdx' : H1 dx = none := by
      rw [upd_ne hne] at hdx
      exact hdx
    have e1 : upd (del (upd (upd (upd H1 a (exo a C none)) dx (exd dx [(("part" : Str), v)])) a (exo a C (some dx))) a) dx (.xd [(("part" : Str), v)]) = upd H1 dx (.xd [(("part" : Str), v)]) := by
      funext b
      by_cases h1 : b = dx
      · rw [h1, upd_same, upd_same]
      · rw [upd_ne h1, upd_ne h1]
        by_cases h2 : b = a
        · rw [h2, del_same, hna]
        · rw [del_ne h2, upd_ne h2, upd_ne h1, upd_ne h2]
    rw [e1]
    exact q dx hdx'
end

/-! ### the caught error: its class, its part -/
/-- what K says of an error class, so that its instances are asked rightly -/
structure ExC (K : PySem.W.Frag) (C : Addr) : Prop where
  ga : PySem.W.findIn K (.ref C) "__getattribute__" = some (some (.builtin "BaseException.__getattribute__"))
  gg : PySem.W.findIn K (.ref C) "__getattr__" = some none
  exC : PySem.W.subIn K (.ref C) (.type "BaseException") = some true
  hdC : PySem.W.hasDictIn K C = true
  ha : PySem.W.findIn K (.ref C) "__class__" = some (some (.builtin "object.__class__"))
  hn : PySem.W.specialIn K (.builtin "object.__class__") "__get__" = some (some (.builtin "getset_descriptor.__get__"))
  ht : PySem.W.takesIn K (.builtin "object.__class__") = some true
  hm : PySem.W.mroIn K C (.type "object") = some true
  cl : (PySem.W.clsIn K C).isSome = true
  np : PySem.W.findIn K (.ref C) "part" = some none
section
variable {X : Cx} {a : Addr} {oe : Obj} {cls : Value} {d : Option Addr} {pn : List (Addr × Obj)}
theorem exc_inst {pins : List (Addr × Obj)} {σ : L2.St} {H : Hp} {s : Shared} {C dd : Addr} {fs : List (Str × V)} (I : Inv (X.suite a ((a, oe) :: pn)) pins σ H s) (hz : Zc (.ref C) (some dd) oe) (hf : ∃ vs, oe.data = .fields vs) (ea : H dd = some (.xd fs)) :
    ∃ od, PySem.W.InstAt s.heap a oe C (some od) ∧ ∃ mA : Str → Option Value, (∀ name, PySem.W.lookIn name od = some (mA name)) ∧ ∀ f, RelO (fs.lookup f) (mA f) := by
  obtain ⟨hget, _⟩ := I.pin (a, oe) (List.mem_append_left _ List.mem_cons_self)
  obtain ⟨vs, hv⟩ := hf
  have hx : ObjOk X.prog X.w H s.heap dd (.xd fs) := I.hok dd _ ea
  obtain ⟨mA, hns, hr⟩ := hx
  obtain ⟨od, ho, hl⟩ := lookIn_ns hns
  exact ⟨od, ⟨hget, hz.1, by unfold PySem.W.notCls; rw [hv] <;> rfl, by rw [hz.2]; exact ho⟩, mA, hl, hr⟩
/-- isinstance(error, C) | (C, D, ..) -/
def rIsX (K : PySem.W.Frag) (a : Addr) (cls : Value) (d : Option Addr) : List V → Hp → VK → Prop := fun xs H Q => ∃ (C dd : Addr) (fs : List (Str × V)) (c : V), xs = [.ref a, c] ∧ cls = .ref C ∧ d = some dd ∧ H dd = some (.xd fs) ∧ ExC K C ∧
  ((∃ cv b, ClsV c cv ∧ PySem.W.kitOne K (.ref C) cv = some b ∧ Q (.bl b) H) ∨ ∃ tp cs us b, c = .ref tp ∧ H tp = some (.tup cs) ∧ Paired ClsV cs us ∧ PySem.W.kitAny K (.ref C) us = some b ∧ Q (.bl b) H)
theorem call_isX (hz : Zc cls d oe) (hf : ∃ vs, oe.data = .fields vs) : CallR (X.suite a ((a, oe) :: pn)) (.builtin "isinstance") (rIsX X.K a cls d) := by
  intro pins s σ H xs us Q I r h
  obtain ⟨C, dd, fs, c, rfl, rfl, rfl, ea, T, h⟩ := h
  obtain ⟨u1, u2, rfl, r1, r2⟩ := vals2 r
  cases (show u1 = Value.ref a from r1)
  obtain ⟨od, J, _⟩ := exc_inst I hz hf ea
  have Z := PySem.W.kitx_exc (K := X.K) (x := a) (ox := oe) (od := some od) T.cl T.ga T.gg T.exC T.ha T.hn T.ht T.hm
  rcases h with ⟨cv, b, kc, e, q⟩ | ⟨tp, cs, us, b, rfl, hT, kc, e, q⟩
  · have e2 := kc.eq r2
    subst e2
    exact PySem.W.kia_one Z I.kIn J e (fun z => nomatch z) fun tk => ⟨.bl b, H, I.tok tk, rfl, q⟩
  · cases (show u2 = Value.ref tp from r2)
    obtain ⟨_, its, rv, o, h1, h2, n, h3⟩ := (show ObjOk X.prog X.w H s.heap tp (.tup cs) from I.hok tp _ hT)
    have e3 := ClsV.all kc rv
    subst e3
    obtain ⟨oc, odd, dt, sl⟩ := o
    simp only at h2 h3
    subst h2 h3
    exact PySem.W.kia_tup Z I.kIn J h1 e (fun z => nomatch z) fun tk => ⟨.bl b, H, I.tok tk, rfl, q⟩
/-- error.part -/
def tXg (K : PySem.W.Frag) (a : Addr) (cls : Value) (d : Option Addr) (te : TE) : TE := fun σ H Q => te σ H fun x H1 => x = .ref a ∧ ∃ (C dd : Addr) (fs : List (Str × V)) (v : V), cls = .ref C ∧ d = some dd ∧ ExC K C ∧ H1 dd = some (.xd fs) ∧ fs.lookup ("part" : Str) = some v ∧ Q v H1
theorem pe_xg {e : Expr} {te : TE} {pos : Pos} (hz : Zc cls d oe) (hf : ∃ vs, oe.data = .fields vs) (he : PE (X.suite a ((a, oe) :: pn)) e te) (hb : attributeBase e "part" X.env (eval e X.env) = eval e X.env := by rfl) :
    PE (X.suite a ((a, oe) :: pn)) (.Attribute e "part" pos) (tXg X.K a cls d te) := by
  refine ⟨fun pins s σ H Q I h => ?_⟩
  refine attr_of hb (thn (he.run pins s σ H _ I h) fun u s1 hh => ?_)
  obtain ⟨x, H1, I1, rx, ex, C, dd, fs, v, rfl, rfl, T, ea, l, q⟩ := hh
  subst ex
  obtain rfl : u = Value.ref a := rx
  obtain ⟨od, J, mA, hl, hr⟩ := exc_inst I1 hz hf ea
  obtain ⟨u, hu, ru⟩ := RelO.some_of (v := v) (o := mA ("part" : Str)) (by rw [← l]; exact hr ("part" : Str))
  exact HandSPX.exc_get I1.kIn J T.ga T.gg T.exC (PySem.W.findObj_own T.hdC T.np rfl (by rw [hl, hu])) (handed_of ru) ⟨v, H1, I1.tok _, ru, q⟩
end
end KB

-- part KB1
namespace PySem
theorem Paired.mem1 {α β : Type} {F : α → β → Prop} : ∀ {l₁ : List α} {l₂ : List β}, Paired F l₁ l₂ → ∀ b ∈ l₂, ∃ a ∈ l₁, F a b
  | _, _, .nil, _, h => by cases h
  | a :: _, _, .cons r t, b, h => by
    rcases List.mem_cons.mp h with rfl | h
    · exact ⟨a, List.mem_cons_self, r⟩
    · obtain ⟨a', m, q⟩ := Paired.mem1 t b h
      exact ⟨a', List.mem_cons_of_mem _ m, q⟩
theorem Paired.at {α β : Type} {F : α → β → Prop} : ∀ {l₁ : List α} {l₂ : List β} {i : Nat} {a : α}, Paired F l₁ l₂ → l₁[i]? = some a → ∃ b, l₂[i]? = some b ∧ F a b
  | _, _, i, _, .nil, h => by simp at h
  | _, _, 0, _, .cons r t, h => by
    have e := Option.some.inj h
    subst e
    exact ⟨_, rfl, r⟩
  | _, _, i + 1, _, .cons r t, h => by
    have h' := h
    simp only [List.getElem?_cons_succ] at h' ⊢
    exact Paired.at t h'
theorem Paired.at2 {α β : Type} {F : α → β → Prop} : ∀ {l₁ : List α} {l₂ : List β} {i : Nat} {b : β}, Paired F l₁ l₂ → l₂[i]? = some b → ∃ a, l₁[i]? = some a ∧ F a b
  | _, _, i, _, .nil, h => by simp at h
  | _, _, 0, _, .cons r t, h => by
    have e := Option.some.inj h
    subst e
    exact ⟨_, rfl, r⟩
  | _, _, i + 1, _, .cons r t, h => by
    have h' := h
    simp only [List.getElem?_cons_succ] at h' ⊢
    exact Paired.at2 t h'
theorem Paired.app {α β : Type} {F : α → β → Prop} : ∀ {l₁ l₃ : List α} {l₂ l₄ : List β}, Paired F l₁ l₂ → Paired F l₃ l₄ → Paired F (l₁ ++ l₃) (l₂ ++ l₄)
  | _, _, _, _, .nil, h => h
  | _, _, _, _, .cons r t, h => .cons r (Paired.app t h)
theorem Paired.tk {α β : Type} {F : α → β → Prop} : ∀ {l₁ : List α} {l₂ : List β} (n : Nat), Paired F l₁ l₂ → Paired F (l₁.take n) (l₂.take n)
  | _, _, 0, _ => .nil
  | _, _, n + 1, .nil => .nil
  | _, _, n + 1, .cons r t => .cons r (Paired.tk n t)
theorem Paired.dp {α β : Type} {F : α → β → Prop} : ∀ {l₁ : List α} {l₂ : List β} (n : Nat), Paired F l₁ l₂ → Paired F (l₁.drop n) (l₂.drop n)
  | _, _, 0, h => h
  | _, _, n + 1, .nil => .nil
  | _, _, n + 1, .cons r t => Paired.dp n t
theorem Paired.erase {α β : Type} {F : α → β → Prop} : ∀ {l₁ : List α} {l₂ : List β} (n : Nat), Paired F l₁ l₂ → Paired F (l₁.eraseIdx n) (l₂.eraseIdx n)
  | _, _, n, .nil => by simpa using Paired.nil
  | _, _, 0, .cons r t => t
  | _, _, n + 1, .cons r t => .cons r (Paired.erase n t)
theorem Paired.setAt {α β : Type} {F : α → β → Prop} {a : α} {b : β} (h : F a b) : ∀ {l₁ : List α} {l₂ : List β} (n : Nat), Paired F l₁ l₂ → Paired F (l₁.set n a) (l₂.set n b)
  | _, _, n, .nil => by simpa using Paired.nil
  | _, _, 0, .cons r t => .cons h t
  | _, _, n + 1, .cons r t => .cons r (Paired.setAt h n t)
theorem Paired.len {α β : Type} {F : α → β → Prop} {l₁ : List α} {l₂ : List β} (h : Paired F l₁ l₂) : l₁.length = l₂.length := Paired.length h
theorem Paired.mapl {α β γ : Type} {F : α → β → Prop} {f : γ → α} {g : γ → β} : ∀ {l : List γ}, (∀ c ∈ l, F (f c) (g c)) → Paired F (l.map f) (l.map g)
  | [], _ => .nil
  | c :: l, h => .cons (h c List.mem_cons_self) (Paired.mapl fun d m => h d (List.mem_cons_of_mem _ m))
theorem Paired.mapF {α β : Type} {F G : α → β → Prop} {l₁ : List α} {l₂ : List β} (h : Paired F l₁ l₂) (f : ∀ a b, F a b → G a b) : Paired G l₁ l₂ := L2.Paired.mapP h f
end PySem
namespace KB
open PySem PySem.Spec PyProof.Rows L2

/-! ### what a value stands for, in a heap -/
theorem new_same {H : Hp} {p : Addr} {o : HO} (h : H p = none) : Same H (upd H p o) := fun a u e => by
  rw [upd_ne (ne_of_none e h)]
  exact e
theorem del_in {H : Hp} {a : Addr} : Same (del H a) H := fun b o e => by
  by_cases h : b = a
  · rw [h, del_same] at e; cases e
  · rw [del_ne h] at e; exact e
theorem del_mono {H H' : Hp} {a : Addr} (e : Same H H') : Same (del H a) (del H' a) := fun b o h => by
  by_cases hb : b = a
  · rw [hb, del_same] at h; cases h
  · rw [del_ne hb] at h ⊢; exact e _ _ h
theorem del_out {H H' : Hp} {a : Addr} (e : Same H H') (h : H a = none) : Same H (del H' a) := fun b o q => by
  have hb : b ≠ a := ne_of_none q h
  rw [del_ne hb]
  exact e _ _ q
theorem del_upd {H : Hp} {a : Addr} {o : HO} : del (upd H a o) a = del H a := by
  funext b
  by_cases h : b = a
  · rw [h, del_same, del_same]
  · rw [del_ne h, del_ne h, upd_ne h]
/-- an object that H did not know may change -/
theorem mut_same {H H' : Hp} {p : Addr} {o : HO} (e : Same H H') (h : H p = none) : Same H (upd H' p o) := fun a u ha => by
  rw [upd_ne (ne_of_none ha h)]
  exact e a u ha

abbrev Rl (α : Type) := Hp → V → α → Prop
class Mn {α : Type} (R : Rl α) : Prop where
  mn : ∀ {H H' : Hp} {v : V} {a : α}, Same H H' → R H v a → R H' v a
/-- no list within: a list that goes is not missed -/
class Tn {α : Type} (R : Rl α) : Prop extends Mn R where
  tn : ∀ {H : Hp} {v : V} {a : α} {D : Addr} {xs : List V}, H D = some (.lst xs) → R H v a → R (del H D) v a
def rInt : Rl Int := fun _ v i => v = .int i
def rBl : Rl Bool := fun _ v i => v = .bl i
def rStr : Rl Str := fun _ v i => v = .str i
def rPair : Rl (Int × Int) := fun H v p => ∃ a, v = .ref a ∧ H a = some (.tup [.int p.1, .int p.2])
def LOf {α : Type} (R : Rl α) : Rl (List α) := fun H v xs => ∃ a vs, v = .ref a ∧ H a = some (.lst vs) ∧ Paired (R H) vs xs
def TOf {α : Type} (R : Rl α) : Rl (List α) := fun H v xs => ∃ a vs, v = .ref a ∧ H a = some (.tup vs) ∧ Paired (R H) vs xs
theorem ints_of {H : Hp} : ∀ {vs : List V} {ns : List Int}, Paired (rInt H) vs ns → vs = ns.map V.int
  | _, _, .nil => rfl
  | _, _, .cons r t => by
    rw [List.map_cons, ← ints_of t, show _ = _ from r]
theorem of_ints {H : Hp} : ∀ (ns : List Int), Paired (rInt H) (ns.map V.int) ns
  | [] => .nil
  | _ :: ns => .cons rfl (of_ints ns)
theorem bls_of {H : Hp} : ∀ {vs : List V} {ns : List Bool}, Paired (rBl H) vs ns → vs = ns.map V.bl
  | _, _, .nil => rfl
  | _, _, .cons r t => by
    rw [List.map_cons, ← bls_of t, show _ = _ from r]
theorem strs_of {H : Hp} : ∀ {vs : List V} {ns : List Str}, Paired (rStr H) vs ns → vs = ns.map V.str
  | _, _, .nil => rfl
  | _, _, .cons r t => by
    rw [List.map_cons, ← strs_of t, show _ = _ from r]
instance : Tn rInt := { mn := fun _ h => h, tn := fun _ h => h }
instance : Tn rBl := { mn := fun _ h => h, tn := fun _ h => h }
instance : Tn rStr := { mn := fun _ h => h, tn := fun _ h => h }
theorem tup_del {H : Hp} {a D : Addr} {xs ys : List V} (hD : H D = some (.lst xs)) (h : H a = some (.tup ys)) : del H D a = some (.tup ys) := by
  have hne : a ≠ D := ne_of h hD (fun z => nomatch z)
  rw [del_ne hne]
  exact h
instance : Tn rPair := { mn := fun e ⟨a, h1, h2⟩ => ⟨a, h1, e _ _ h2⟩, tn := fun hD ⟨a, h1, h2⟩ => ⟨a, h1, tup_del hD h2⟩ }
instance instMnL {α : Type} (R : Rl α) [Mn R] : Mn (LOf R) := { mn := fun e ⟨a, vs, h1, h2, h3⟩ => ⟨a, vs, h1, e _ _ h2, L2.Paired.mapP h3 fun _ _ => Mn.mn e⟩ }
instance instTnT {α : Type} (R : Rl α) [Tn R] : Tn (TOf R) := { mn := fun e ⟨a, vs, h1, h2, h3⟩ => ⟨a, vs, h1, e _ _ h2, L2.Paired.mapP h3 fun _ _ => Mn.mn e⟩, tn := fun hD ⟨a, vs, h1, h2, h3⟩ => ⟨a, vs, h1, tup_del hD h2, L2.Paired.mapP h3 fun _ _ => Tn.tn hD⟩ }
instance instMnT {α : Type} (R : Rl α) [Mn R] : Mn (TOf R) := { mn := fun e ⟨a, vs, h1, h2, h3⟩ => ⟨a, vs, h1, e _ _ h2, L2.Paired.mapP h3 fun _ _ => Mn.mn e⟩ }
abbrev rStrand : Rl (List (Int × Int)) := LOf rPair
abbrev rStrands : Rl (List (List (Int × Int))) := LOf rStrand
abbrev rRow : Rl (List (Int × Int)) := TOf rPair
abbrev rRows : Rl (List (List (Int × Int))) := TOf rRow
abbrev rInts : Rl (List Int) := LOf rInt
abbrev rIntT : Rl (List Int) := TOf rInt

/-! ### as deep data -/
class Enc {α : Type} (R : Rl α) (e : outParam (α → PyData)) : Prop where
  dp : ∀ {K : PySem.W.Frag} {H : Hp} {v : V} {a : α}, R H v a → Dp K H v (e a)
theorem dpall {α : Type} {R : Rl α} {e : α → PyData} [Enc R e] {K : PySem.W.Frag} {H : Hp} : ∀ {vs : List V} {as : List α}, Paired (R H) vs as → DpAll K H vs (as.map e)
  | _, _, .nil => .nil
  | _, _, .cons r t => .cons (Enc.dp r) (dpall t)
def ePair : Int × Int → PyData := fun p => .tuple [.int p.1, .int p.2]
instance : Enc rInt PyData.int := ⟨fun h => by rw [show _ = _ from h]; exact .int _⟩
instance : Enc rBl PyData.bool := ⟨fun h => by rw [show _ = _ from h]; exact .bl _⟩
instance : Enc rStr PyData.str := ⟨fun h => by rw [show _ = _ from h]; exact .str _⟩
instance : Enc rPair ePair := ⟨fun ⟨a, h1, h2⟩ => by rw [h1]; exact .tup (Or.inl (Or.inl h2)) (.cons (.int _) (.cons (.int _) .nil))⟩
instance instEncL {α : Type} (R : Rl α) (e : α → PyData) [Enc R e] : Enc (LOf R) (fun xs => .list (xs.map e)) := ⟨fun ⟨a, vs, h1, h2, h3⟩ => by rw [h1]; exact .lst (Or.inl (Or.inl h2)) (dpall h3)⟩
instance instEncT {α : Type} (R : Rl α) (e : α → PyData) [Enc R e] : Enc (TOf R) (fun xs => .tuple (xs.map e)) := ⟨fun ⟨a, vs, h1, h2, h3⟩ => by rw [h1]; exact .tup (Or.inl (Or.inl h2)) (dpall h3)⟩
def eRow : List (Int × Int) → PyData := fun xs => .tuple (xs.map ePair)
def leRow : List (Int × Int) → List (Int × Int) → Bool := PySem.W.dataLe false eRow
def lePair : Int × Int → Int × Int → Bool := PySem.W.dataLe false ePair

/-! ### sorted -/
theorem sort_out {α : Type} {R : Rl α} {e : α → PyData} [Enc R e] [Mn R] {K : PySem.W.Frag} {H : Hp} {v : V} {as : List α} {Q : VK} (h : LOf R H v as) (hal : PySem.W.AllAlike (as.map e)) (hs : PySem.W.Sortable (as.map e)) (hd : ∀ a ∈ as, (e a).depth ≤ 60)
    (k : ∀ v' H', Same H H' → LOf R H' v' (as.mergeSort (PySem.W.dataLe false e)) → Q v' H') : rSortedD K [v] H Q := by
  obtain ⟨a, vs, rfl, ha, hp⟩ := h
  have key : ∀ {vs : List V} {as : List α}, Paired (R H) vs as → ∃ zs : List (V × α), vs = zs.map (·.1) ∧ as = zs.map (·.2) ∧ ∀ z ∈ zs, R H z.1 z.2 := by
    intro vs as hp
    induction hp with
    | nil => exact ⟨[], rfl, rfl, fun z hz => by cases hz⟩
    | cons r t ih =>
      rename_i x y xs ys
      obtain ⟨zs, e1, e2, e3⟩ := ih
      refine ⟨(x, y) :: zs, by rw [e1]; rfl, by rw [e2]; rfl, fun z hz => ?_⟩
      rcases List.mem_cons.mp hz with rfl | hz
      · exact r
      · exact e3 z hz
  obtain ⟨zs, e1, e2, e3⟩ := key hp
  subst e1 e2
  have eA : (zs.map fun z => (z.1, e z.2)).map (·.2) = (zs.map (·.2)).map e := by
    rw [List.map_map, List.map_map]; rfl
  refine ⟨a, zs.map fun z => (z.1, e z.2), rfl, ?_, fun b hb => ?_, ?_, ?_, fun b hb => ?_, fun p hp => ?_⟩
  · refine Or.inl (Or.inl ?_)
    rw [ha]
    unfold pairV
    rw [List.map_map]
    rfl
  · obtain ⟨z, hz, rfl⟩ := List.mem_map.mp hb
    exact Enc.dp (R := R) (e3 z hz)
  · rw [eA]; exact hal
  · rw [eA]; exact hs
  · obtain ⟨z, hz, rfl⟩ := List.mem_map.mp hb
    exact hd z.2 (List.mem_map.mpr ⟨z, hz, rfl⟩)
  · refine k _ _ (new_same hp) ⟨p, _, rfl, upd_same, ?_⟩
    have m1 : (zs.map fun z => (z.1, e z.2)).mergeSort (PySem.W.dataLe false (·.2)) = (zs.mergeSort (PySem.W.dataLe false fun z => e z.2)).map fun z => (z.1, e z.2) :=
      (List.map_mergeSort (f := fun z : V × α => (z.1, e z.2)) (r := PySem.W.dataLe false fun z => e z.2) (s := PySem.W.dataLe false fun b : V × PyData => b.2) (l := zs) (fun _ _ _ _ => rfl)).symm
    have m2 : (zs.map (·.2)).mergeSort (PySem.W.dataLe false e) = (zs.mergeSort (PySem.W.dataLe false fun z => e z.2)).map (·.2) :=
      (List.map_mergeSort (f := fun z : V × α => z.2) (r := PySem.W.dataLe false fun z => e z.2) (s := PySem.W.dataLe false e) (l := zs) (fun _ _ _ _ => rfl)).symm
    rw [m1, m2]
    unfold pairV
    rw [List.map_map]
    refine Paired.mapl fun c hc => ?_
    exact Mn.mn (new_same hp) (e3 c ((List.mergeSort_perm zs _).mem_iff.mp hc))
end KB

-- part KB2
namespace KB
open PySem PySem.Spec PyProof.Rows L2

/-! ### what is walked, item by item, in any heap that goes on from H1 -/
structure Wk {α : Type} (J : It) (H1 : Hp) (as : List α) (RI : α → V → Hp → Prop) : Prop where
  stop : ∀ H, Same H1 H → J.stop as.length H
  go : ∀ i a H, as[i]? = some a → Same H1 H → J.go i H
  yld : ∀ i a H x H', as[i]? = some a → Same H1 H → J.yld i H x H' → Same H H' ∧ RI a x H'
theorem wk_list {α : Type} {R : Rl α} [Mn R] {K : PySem.W.Frag} {H1 : Hp} {a : Addr} {vs : List V} {as : List α} (h : H1 a = some (.lst vs)) (hp : Paired (R H1) vs as) : Wk (Itl K a) H1 as (fun b x _ => R H1 x b) := by
  have sq : ∀ H, Same H1 H → SqL K H a vs := fun H e => Or.inl (Or.inl (e _ _ h))
  refine ⟨fun H e => ⟨vs, sq H e, ?_⟩, fun i b H hb e => ?_, fun i b H x H' hb e y => ?_⟩
  · rw [hp.len]; exact Nat.le_refl _
  · obtain ⟨x, hx, _⟩ := hp.at2 hb
    exact ⟨vs, x, sq H e, hx⟩
  · obtain ⟨e', y⟩ := y
    subst e'
    obtain ⟨x', hx, r⟩ := hp.at2 hb
    have := (y vs (sq _ e)).symm.trans hx
    cases this
    exact ⟨Same.refl _, r⟩
theorem wk_tup {α : Type} {R : Rl α} [Mn R] {K : PySem.W.Frag} {H1 : Hp} {a : Addr} {vs : List V} {as : List α} (h : H1 a = some (.tup vs)) (hp : Paired (R H1) vs as) : Wk (Itt K a) H1 as (fun b x _ => R H1 x b) := by
  have sq : ∀ H, Same H1 H → SqT K H a vs := fun H e => Or.inl (Or.inl (e _ _ h))
  refine ⟨fun H e => ⟨vs, sq H e, ?_⟩, fun i b H hb e => ?_, fun i b H x H' hb e y => ?_⟩
  · rw [hp.len]; exact Nat.le_refl _
  · obtain ⟨x, hx, _⟩ := hp.at2 hb
    exact ⟨vs, x, sq H e, hx⟩
  · obtain ⟨e', y⟩ := y
    subst e'
    obtain ⟨x', hx, r⟩ := hp.at2 hb
    have := (y vs (sq _ e)).symm.trans hx
    cases this
    exact ⟨Same.refl _, r⟩
/-- the ints lo, lo + 1, .. -/
def rngI (lo : Int) (n : Nat) : List Int := (List.range n).map fun i : Nat => lo + (i : Int)
theorem rngI_at {lo : Int} {n i : Nat} {a : Int} (h : (rngI lo n)[i]? = some a) : i < n ∧ a = lo + (i : Int) := by
  unfold rngI at h
  rw [List.getElem?_map] at h
  by_cases hi : i < n
  · rw [List.getElem?_range hi] at h
    exact ⟨hi, (Option.some.inj h).symm⟩
  · rw [List.getElem?_eq_none (by rw [List.length_range]; omega)] at h
    cases h
theorem rngI_len {lo : Int} {n : Nat} : (rngI lo n).length = n := by unfold rngI; rw [List.length_map, List.length_range]
theorem wk_range {H1 : Hp} {lo : Int} {n : Nat} : Wk (Itr lo n) H1 (rngI lo n) (fun b x _ => x = .int b) := by
  refine ⟨fun H e => ?_, fun i b H hb e => (rngI_at hb).1, fun i b H x H' hb e y => ?_⟩
  · show n ≤ (rngI lo n).length
    rw [rngI_len]; exact Nat.le_refl _
  · obtain ⟨e', y⟩ := y
    subst e'
    rw [(rngI_at hb).2]
    exact ⟨Same.refl _, y⟩
theorem wk_enum {α : Type} {R : Rl α} [Mn R] {K : PySem.W.Frag} {H1 : Hp} {a : Addr} {vs : List V} {as : List α} (h : H1 a = some (.lst vs)) (hp : Paired (R H1) vs as) :
    Wk (Ite K a) H1 as.zipIdx (fun b x H => ∃ T y, x = .ref T ∧ H T = some (.tup [.int ((b.2 : Nat) : Int), y]) ∧ R H1 y b.1) := by
  have sq : ∀ H, Same H1 H → SqL K H a vs := fun H e => Or.inl (Or.inl (e _ _ h))
  have key : ∀ {i : Nat} {b : α × Nat}, as.zipIdx[i]? = some b → as[i]? = some b.1 ∧ b.2 = i := by
    intro i b hb
    rw [List.getElem?_zipIdx] at hb
    cases hi : as[i]? with
    | none => rw [hi] at hb; cases hb
    | some c =>
      rw [hi] at hb
      have e := Option.some.inj hb
      subst e
      exact ⟨rfl, by simp⟩
  refine ⟨fun H e => ⟨vs, sq H e, ?_⟩, fun i b H hb e => ?_, fun i b H x H' hb e y => ?_⟩
  · rw [hp.len, List.length_zipIdx]; exact Nat.le_refl _
  · obtain ⟨x, hx, _⟩ := hp.at2 (key hb).1
    exact ⟨vs, x, sq H e, hx⟩
  · obtain ⟨T, x', rfl, hT, rfl, y⟩ := y
    obtain ⟨x2, hx, r⟩ := hp.at2 (key hb).1
    have := (y vs (sq _ e)).symm.trans hx
    cases this
    refine ⟨new_same hT, T, x', rfl, ?_, r⟩
    rw [upd_same, (key hb).2]

/-- THE RULE of a list comprehension: p says which, f what -/
theorem lcA {J : It} {α β : Type} {as : List α} {RI : α → V → Hp → Prop} {RO : Rl β} [Mn RO] {g : TG} {tt : TT} {te : TE} {vs : List Nat} {σ : L2.St} {H1 : Hp} {Q : VK} (p : α → Bool) (f : α → β) (W : Wk J H1 as RI) (hz : as.length ≤ 100000)
    (hs : ∀ a ∈ as, ∀ x H2 D acc (Zt : VK) (Zf : Hp → Prop), Same H1 H2 → RI a x H2 → H1 D = none → H2 D = some (.lst acc) → (p a = true → ∀ y H4, Same H2 H4 → RO (del H4 D) y (f a) → Zt y H4) → (p a = false → ∀ H4, Same H2 H4 → Zf H4) →
      g x (wipe σ vs) H2 fun σ2 H3 => wipe σ2 vs = wipe σ vs ∧ tt σ2 H3 fun b H4 => if b = true then te σ2 H4 Zt else Zf H4)
    (hd : ∀ D ys H2, H1 D = none → Same H1 H2 → H2 D = some (.lst ys) → Paired (RO H2) ys ((as.filter p).map f) → Q (.ref D) H2) :
    ∀ D, H1 D = none → ∃ W : Nat → Nat → Hp → Prop, (∃ m, W 0 m (upd H1 D (.lst []))) ∧ ∀ i m H, W i m H →
      (J.stop i H ∧ Q (.ref D) H) ∨ (J.go i H ∧ ∃ Nx : Hp → Prop, (∀ H', Nx H' → ∃ m', m' < m ∧ W (i + 1) m' H') ∧ ∀ x H', J.yld i H x H' → g x (wipe σ vs) H' fun σ2 H2 => wipe σ2 vs = wipe σ vs ∧ tt σ2 H2 fun b H3 =>
        if b = true then te σ2 H3 fun y H4 => ∃ acc, H4 D = some (.lst acc) ∧ acc.length < sizeLine ∧ Nx (upd H4 D (.lst (acc ++ [y]))) else Nx H3) := by
  intro D hD
  let I : Nat → Hp → Prop := fun i H => Same H1 H ∧ ∃ acc, H D = some (.lst acc) ∧ acc.length ≤ i ∧ Paired (RO (del H D)) acc (((as.take i).filter p).map f)
  refine ⟨fun i m H => m = as.length - i ∧ i ≤ as.length ∧ I i H, ⟨as.length, by simp, Nat.zero_le _, new_same hD, [], upd_same, Nat.le_refl _, by simpa using Paired.nil⟩, ?_⟩
  rintro i m H ⟨rfl, hi, e, acc, hacc, hlen, hp⟩
  by_cases hlt : i < as.length
  · refine Or.inr ⟨W.go i as[i] H (by simp [hlt]) e, I (i + 1), fun H' h' => ⟨as.length - (i + 1), by omega, rfl, hlt, h'⟩, fun x H' y => ?_⟩
    obtain ⟨e2, ri⟩ := W.yld i as[i] H x H' (by simp [hlt]) e y
    have tk : as.take (i + 1) = as.take i ++ [as[i]] := by rw [List.take_add_one]; simp [hlt]
    refine hs as[i] (List.getElem_mem hlt) x H' D acc _ _ (e.trans e2) ri hD (e2 _ _ hacc) (fun ht y H4 e4 ro => ?_) (fun hf H4 e4 => ?_)
    · refine ⟨acc, (e2.trans e4) _ _ hacc, Evl.sz_lt (by omega), mut_same ((e.trans e2).trans e4) hD, acc ++ [y], upd_same, by simp; omega, ?_⟩
      rw [del_upd, tk, List.filter_append, List.map_append]
      simp only [List.filter_cons, ht, if_true, List.filter_nil, List.map_cons, List.map_nil]
      exact Paired.app (L2.Paired.mapP hp fun _ _ => Mn.mn (del_mono (e2.trans e4))) (.cons ro .nil)
    · refine ⟨(e.trans e2).trans e4, acc, (e2.trans e4) _ _ hacc, by omega, ?_⟩
      rw [tk, List.filter_append, List.map_append]
      simp only [List.filter_cons, hf, Bool.false_eq_true, if_false, List.filter_nil, List.map_nil, List.append_nil]
      exact L2.Paired.mapP hp fun _ _ => Mn.mn (del_mono (e2.trans e4))
  · have ei : i = as.length := by omega
    subst ei
    refine Or.inl ⟨W.stop H e, hd D acc H hD e hacc ?_⟩
    rw [List.take_length] at hp
    exact L2.Paired.mapP hp fun _ _ => Mn.mn del_in
/-- no test, the items without lists within -/
theorem lcT {J : It} {α β : Type} {as : List α} {RI : α → V → Hp → Prop} {RO : Rl β} [Tn RO] {g : TG} {te : TE} {vs : List Nat} {σ : L2.St} {H1 : Hp} {Q : VK} (f : α → β) (W : Wk J H1 as RI) (hz : as.length ≤ 100000)
    (hs : ∀ a ∈ as, ∀ x H2 (Zt : VK), Same H1 H2 → RI a x H2 → (∀ y H4, Same H2 H4 → RO H4 y (f a) → Zt y H4) → g x (wipe σ vs) H2 fun σ2 H3 => wipe σ2 vs = wipe σ vs ∧ te σ2 H3 Zt)
    (hd : ∀ v H2, Same H1 H2 → LOf RO H2 v (as.map f) → Q v H2) :
    ∀ D, H1 D = none → ∃ W : Nat → Nat → Hp → Prop, (∃ m, W 0 m (upd H1 D (.lst []))) ∧ ∀ i m H, W i m H →
      (J.stop i H ∧ Q (.ref D) H) ∨ (J.go i H ∧ ∃ Nx : Hp → Prop, (∀ H', Nx H' → ∃ m', m' < m ∧ W (i + 1) m' H') ∧ ∀ x H', J.yld i H x H' → g x (wipe σ vs) H' fun σ2 H2 => wipe σ2 vs = wipe σ vs ∧ tYes σ2 H2 fun b H3 =>
        if b = true then te σ2 H3 fun y H4 => ∃ acc, H4 D = some (.lst acc) ∧ acc.length < sizeLine ∧ Nx (upd H4 D (.lst (acc ++ [y]))) else Nx H3) := by
  refine lcA (RO := RO) (fun _ => true) f W hz (fun a ha x H2 D acc Zt Zf e ri hD1 hD2 kt kf => ?_) fun D ys H2 hn e h1 h2 => hd _ _ e ⟨D, ys, rfl, h1, ?_⟩
  · show g x (wipe σ vs) H2 fun σ2 H3 => wipe σ2 vs = wipe σ vs ∧ te σ2 H3 Zt
    exact hs a ha x H2 Zt e ri fun y H4 e4 ro => kt rfl y H4 e4 (Tn.tn (e4 _ _ hD2) ro)
  · have e2 : as.filter (fun _ => true) = as := List.filter_eq_self.mpr fun _ _ => rfl
    rw [e2] at h2
    exact h2
/-- with a test -/
theorem lcF {J : It} {α β : Type} {as : List α} {RI : α → V → Hp → Prop} {RO : Rl β} [Tn RO] {g : TG} {tt : TT} {te : TE} {vs : List Nat} {σ : L2.St} {H1 : Hp} {Q : VK} (p : α → Bool) (f : α → β) (W : Wk J H1 as RI) (hz : as.length ≤ 100000)
    (hs : ∀ a ∈ as, ∀ x H2 (Zt : VK) (Zf : Hp → Prop), Same H1 H2 → RI a x H2 → (p a = true → ∀ y H4, Same H2 H4 → RO H4 y (f a) → Zt y H4) → (p a = false → ∀ H4, Same H2 H4 → Zf H4) →
      g x (wipe σ vs) H2 fun σ2 H3 => wipe σ2 vs = wipe σ vs ∧ tt σ2 H3 fun b H4 => if b = true then te σ2 H4 Zt else Zf H4)
    (hd : ∀ v H2, Same H1 H2 → LOf RO H2 v ((as.filter p).map f) → Q v H2) :
    ∀ D, H1 D = none → ∃ W : Nat → Nat → Hp → Prop, (∃ m, W 0 m (upd H1 D (.lst []))) ∧ ∀ i m H, W i m H →
      (J.stop i H ∧ Q (.ref D) H) ∨ (J.go i H ∧ ∃ Nx : Hp → Prop, (∀ H', Nx H' → ∃ m', m' < m ∧ W (i + 1) m' H') ∧ ∀ x H', J.yld i H x H' → g x (wipe σ vs) H' fun σ2 H2 => wipe σ2 vs = wipe σ vs ∧ tt σ2 H2 fun b H3 =>
        if b = true then te σ2 H3 fun y H4 => ∃ acc, H4 D = some (.lst acc) ∧ acc.length < sizeLine ∧ Nx (upd H4 D (.lst (acc ++ [y]))) else Nx H3) := by
  refine lcA (RO := RO) p f W hz (fun a ha x H2 D acc Zt Zf e ri hD1 hD2 kt kf => ?_) fun D ys H2 hn e h1 h2 => hd _ _ e ⟨D, ys, rfl, h1, h2⟩
  exact hs a ha x H2 Zt Zf e ri (fun ht y H4 e4 ro => kt ht y H4 e4 (Tn.tn (e4 _ _ hD2) ro)) kf
/-- two loops: the outer's items a, the inner's bs a -/
theorem lc2T {J : It} {α α1 β : Type} {as : List α} {RI : α → V → Hp → Prop} {bs : α → List α1} {RI1 : α1 → V → Hp → Prop} {RO : Rl β} [Tn RO] {g g1 : TG} {wi1 : TI} {te : TE} {vs vs1 : List Nat} {σ : L2.St} {H1 : Hp} {Q : VK} (Ps : L2.St → Prop) (f : α1 → β) (W : Wk J H1 as RI) (hz : ((as.map bs).flatten).length ≤ 100000)
    (hs : ∀ a ∈ as, ∀ x H2 D (Z : It → L2.St → Hp → Prop), Same H1 H2 → RI a x H2 → H1 D = none → (∀ J1 σ2 H4, Ps σ2 → Same H2 H4 → Wk J1 (del H4 D) (bs a) RI1 → Z J1 σ2 H4) → g x (wipe σ vs) H2 fun σ2 H3 => wipe σ2 vs = wipe σ vs ∧ wi1 σ2 H3 fun J1 H4 => Z J1 σ2 H4)
    (hs1 : ∀ a ∈ as, ∀ c ∈ bs a, ∀ x H2 σ2 (Zt : VK), Ps σ2 → Same H1 H2 → RI1 c x H2 → (∀ y H4, Same H2 H4 → RO H4 y (f c) → Zt y H4) → g1 x (wipe σ2 vs1) H2 fun σ3 H3 => wipe σ3 vs1 = wipe σ2 vs1 ∧ te σ3 H3 Zt)
    (hd : ∀ v H2, Same H1 H2 → LOf RO H2 v ((as.map bs).flatten.map f) → Q v H2) :
    ∀ D, H1 D = none → ∃ W : Nat → Nat → Hp → Prop, (∃ m, W 0 m (upd H1 D (.lst []))) ∧ ∀ i m H, W i m H →
      (J.stop i H ∧ Q (.ref D) H) ∨ (J.go i H ∧ ∃ Nx : Hp → Prop, (∀ H', Nx H' → ∃ m', m' < m ∧ W (i + 1) m' H') ∧ ∀ x H', J.yld i H x H' → g x (wipe σ vs) H' fun σ2 H2 => wipe σ2 vs = wipe σ vs ∧ tYes σ2 H2 fun b H3 =>
        if b = true then wi1 σ2 H3 fun J1 H4 => ∃ W1 : Nat → Nat → Hp → Prop, (∃ m, W1 0 m H4) ∧ ∀ j k H, W1 j k H →
          (J1.stop j H ∧ Nx H) ∨ (J1.go j H ∧ ∃ Nx1 : Hp → Prop, (∀ H', Nx1 H' → ∃ k', k' < k ∧ W1 (j + 1) k' H') ∧ ∀ x H', J1.yld j H x H' → g1 x (wipe σ2 vs1) H' fun σ3 H5 => wipe σ3 vs1 = wipe σ2 vs1 ∧ tYes σ3 H5 fun b H6 =>
            if b = true then te σ3 H6 fun y H7 => ∃ acc, H7 D = some (.lst acc) ∧ acc.length < sizeLine ∧ Nx1 (upd H7 D (.lst (acc ++ [y]))) else Nx1 H6)
        else Nx H3) := by
  intro D hD
  let I : Nat → Hp → Prop := fun i H => Same H1 H ∧ ∃ acc, H D = some (.lst acc) ∧ Paired (RO (del H D)) acc (((as.take i).map bs).flatten.map f)
  refine ⟨fun i m H => m = as.length - i ∧ i ≤ as.length ∧ I i H, ⟨as.length, by simp, Nat.zero_le _, new_same hD, [], upd_same, by simpa using Paired.nil⟩, ?_⟩
  rintro i m H ⟨rfl, hi, e, acc, hacc, hp⟩
  by_cases hlt : i < as.length
  · refine Or.inr ⟨W.go i as[i] H (by simp [hlt]) e, I (i + 1), fun H' h' => ⟨as.length - (i + 1), by omega, rfl, hlt, h'⟩, fun x H' y => ?_⟩
    obtain ⟨e2, ri⟩ := W.yld i as[i] H x H' (by simp [hlt]) e y
    have tk : as.take (i + 1) = as.take i ++ [as[i]] := by rw [List.take_add_one]; simp [hlt]
    have hlen : ((as.take (i + 1)).map bs).flatten.length ≤ 100000 := by
      refine Nat.le_trans ?_ hz
      have : as = as.take (i + 1) ++ as.drop (i + 1) := (List.take_append_drop _ _).symm
      rw [congrArg (fun l => (List.map bs l).flatten.length) this]
      simp only [List.map_append, List.flatten_append, List.length_append]
      omega
    rw [tk] at hlen
    simp only [List.map_append, List.flatten_append, List.length_append, List.map_cons, List.map_nil, List.flatten_cons, List.flatten_nil, List.append_nil] at hlen
    have hacl : acc.length = ((as.take i).map bs).flatten.length := by rw [hp.len, List.length_map]
    have key := hs as[i] (List.getElem_mem hlt) x H' D (fun J1 σ2 H4 => ∃ W1 : Nat → Nat → Hp → Prop, (∃ m, W1 0 m H4) ∧ ∀ j k H, W1 j k H →
          (J1.stop j H ∧ I (i + 1) H) ∨ (J1.go j H ∧ ∃ Nx1 : Hp → Prop, (∀ H', Nx1 H' → ∃ k', k' < k ∧ W1 (j + 1) k' H') ∧ ∀ x H', J1.yld j H x H' → g1 x (wipe σ2 vs1) H' fun σ3 H5 => wipe σ3 vs1 = wipe σ2 vs1 ∧ tYes σ3 H5 fun b H6 =>
            if b = true then te σ3 H6 fun y H7 => ∃ acc, H7 D = some (.lst acc) ∧ acc.length < sizeLine ∧ Nx1 (upd H7 D (.lst (acc ++ [y]))) else Nx1 H6)) (e.trans e2) ri hD ?_
    · exact key
    · intro J1 σ2 H4 hps e4 W4
      let I1 : Nat → Hp → Prop := fun j Hn => Same H1 Hn ∧ Same (del H4 D) (del Hn D) ∧ ∃ ac, Hn D = some (.lst ac) ∧ Paired (RO (del Hn D)) ac ((((as.take i).map bs).flatten ++ (bs as[i]).take j).map f)
      have eH4 : Same H1 H4 := (e.trans e2).trans e4
      refine ⟨fun j k Hn => k = (bs as[i]).length - j ∧ j ≤ (bs as[i]).length ∧ Same (del H4 D) (del Hn D) ∧ Same H1 Hn ∧ ∃ ac, Hn D = some (.lst ac) ∧ Paired (RO (del Hn D)) ac ((((as.take i).map bs).flatten ++ (bs as[i]).take j).map f), ⟨(bs as[i]).length, by simp, Nat.zero_le _, Same.refl _, eH4, acc, (e2.trans e4) _ _ hacc, ?_⟩, ?_⟩
      · simp only [List.take_zero, List.append_nil]
        exact hp.mapF fun _ _ => Mn.mn (del_mono (e2.trans e4))
      · rintro j k Hn ⟨rfl, hj, ed, eN, ac, hac, hpc⟩
        have eD : Same (del H4 D) Hn := fun b o q => del_in b o (ed b o q)
        by_cases hjl : j < (bs as[i]).length
        · refine Or.inr ⟨W4.go j _ Hn (by simp [hjl] : (bs as[i])[j]? = some (bs as[i])[j]) eD, fun Hx => Same (del H4 D) (del Hx D) ∧ Same H1 Hx ∧ ∃ ac, Hx D = some (.lst ac) ∧ Paired (RO (del Hx D)) ac ((((as.take i).map bs).flatten ++ (bs as[i]).take (j + 1)).map f), fun Hx ⟨a1, a2, a3⟩ => ⟨(bs as[i]).length - (j + 1), by omega, rfl, hjl, a1, a2, a3⟩, fun x1 Hy y1 => ?_⟩
          obtain ⟨e5, r5⟩ := W4.yld j _ Hn x1 Hy (by simp [hjl] : (bs as[i])[j]? = some (bs as[i])[j]) eD y1
          refine (hs1 as[i] (List.getElem_mem hlt) (bs as[i])[j] (List.getElem_mem hjl) x1 Hy σ2 _ hps (eN.trans e5) r5 fun y H7 e7 ro => ?_)
          have tk2 : (bs as[i]).take (j + 1) = (bs as[i]).take j ++ [(bs as[i])[j]] := by rw [List.take_add_one]; simp [hjl]
          have hl1 : ac.length = (((as.take i).map bs).flatten ++ (bs as[i]).take j).length := by rw [hpc.len, List.length_map]
          refine ⟨ac, (e5.trans e7) _ _ hac, Evl.sz_lt ?_, ?_, mut_same ((eN.trans e5).trans e7) hD, ac ++ [y], upd_same, ?_⟩
          · rw [hl1, List.length_append, List.length_take]; omega
          · rw [del_upd]; exact ed.trans (del_mono (e5.trans e7))
          · rw [del_upd, tk2, ← List.append_assoc, List.map_append]
            exact Paired.app (hpc.mapF fun _ _ => Mn.mn (del_mono (e5.trans e7))) (.cons (Tn.tn ((e5.trans e7) _ _ hac) ro) .nil)
        · have ej : j = (bs as[i]).length := by omega
          subst ej
          refine Or.inl ⟨W4.stop Hn eD, eN, ac, hac, ?_⟩
          rw [List.take_length] at hpc
          rw [tk, List.map_append, List.flatten_append]
          simpa using hpc
  · have ei : i = as.length := by omega
    subst ei
    rw [List.take_length] at hp
    exact Or.inl ⟨W.stop H e, hd _ H e ⟨D, acc, rfl, hacc, hp.mapF fun _ _ => Mn.mn del_in⟩⟩

/-! ### readings, a step at a time -/
section
variable {K : PySem.W.Frag} {r : List V → Hp → VK → Prop} {r2 : R2} {ta tb te : TE} {tr : TA} {σ : L2.St} {H : Hp} {Q : VK} {D : Ends} {t u : TS} {g : TG} {sp : Sp} {dvs : List V} {E : XK}
theorem cb_ {t : TA} (h : t σ H fun vs H1 => r vs H1 Q) : tCB r t σ H Q := h
theorem cb1 (h : ta σ H fun x H1 => r [x] H1 Q) : tCB r (tCons ta tNil) σ H Q := h
theorem call1 (h : ta σ H fun x H1 => sp [x] H1 Q E) : tCall sp [] E (tCons ta tNil) σ H Q := h
theorem call_ {t : TA} (h : t σ H fun vs H1 => sp (vs ++ dvs) H1 Q E) : tCall sp dvs E t σ H Q := h
theorem cons_ {Q : List V → Hp → Prop} (h : ta σ H fun x H1 => tr σ H1 fun xs H2 => Q (x :: xs) H2) : tCons ta tr σ H Q := h
theorem ret_ (h : ta σ H D.rt) : tRet ta D σ H := h
theorem seq_ (h : t { D with nx := u D } σ H) : tSeq t u D σ H := h
theorem asg_ (h : te σ H fun x H1 => g x σ H1 D.nx) : tAsg te g D σ H := h
theorem op_ (h : ta σ H fun x H1 => tb σ H1 fun y H2 => r2 x y H2 Q) : tOp r2 ta tb σ H Q := h
/-- a list made of a list's items -/
theorem rd_lcL {α β : Type} {as : List α} {R : Rl α} [Mn R] {RO : Rl β} [Tn RO] {vs : List Nat} (f : α → β) (hl : ∀ Z : VK, (∀ v H1, Same H H1 → LOf R H1 v as → Z v H1) → ta σ H Z) (hz : as.length ≤ 100000)
    (hs : ∀ a ∈ as, ∀ x H2 (Z : VK), Same H H2 → R H2 x a → (∀ y H4, Same H2 H4 → RO H4 y (f a) → Z y H4) → g x (wipe σ vs) H2 fun σ2 H3 => wipe σ2 vs = wipe σ vs ∧ te σ2 H3 Z)
    (hd : ∀ v H2, Same H H2 → LOf RO H2 v (as.map f) → Q v H2) : tLc (iList K ta) g tYes te vs σ H Q := by
  refine hl _ fun v H1 e1 ⟨a, xs, ev, ha, hp⟩ => ⟨a, ev, ⟨_, Evl.sq_of ha⟩, ?_⟩
  exact lcT f (wk_list ha hp) hz (fun b hb x H2 Z e2 rr k => hs b hb x H2 Z (e1.trans e2) (Mn.mn e2 rr) k) fun v H2 e2 h => hd v H2 (e1.trans e2) h
theorem rd_lcU {α β : Type} {as : List α} {R : Rl α} [Mn R] {RO : Rl β} [Tn RO] {vs : List Nat} (f : α → β) (hl : ∀ Z : VK, (∀ v H1, Same H H1 → TOf R H1 v as → Z v H1) → ta σ H Z) (hz : as.length ≤ 100000)
    (hs : ∀ a ∈ as, ∀ x H2 (Z : VK), Same H H2 → R H2 x a → (∀ y H4, Same H2 H4 → RO H4 y (f a) → Z y H4) → g x (wipe σ vs) H2 fun σ2 H3 => wipe σ2 vs = wipe σ vs ∧ te σ2 H3 Z)
    (hd : ∀ v H2, Same H H2 → LOf RO H2 v (as.map f) → Q v H2) : tLc (iTup K ta) g tYes te vs σ H Q := by
  refine hl _ fun v H1 e1 ⟨a, xs, ev, ha, hp⟩ => ⟨a, ev, ⟨_, Evl.st_of ha⟩, ?_⟩
  exact lcT f (wk_tup ha hp) hz (fun b hb x H2 Z e2 rr k => hs b hb x H2 Z (e1.trans e2) (Mn.mn e2 rr) k) fun v H2 e2 h => hd v H2 (e1.trans e2) h

/-- two loops, the inner's list by the outer's name -/
theorem rd_lc2 {α β : Type} {ss : List (List α)} {R : Rl α} [Mn R] {RO : Rl β} [Tn RO] {vs vs1 : List Nat} {i : Nat} {g1 : TG} (f : α → β) (hl : ∀ Z : VK, (∀ v H1, Same H H1 → LOf (LOf R) H1 v ss → Z v H1) → ta σ H Z) (hz : ss.flatten.length ≤ 100000)
    (hw : ∀ x, wipe ((wipe σ vs).set i (some x)) vs = wipe σ vs) (hg : ∀ x, ((wipe σ vs).set i (some x))[i]? = some (some x))
    (hs : ∀ c ∈ ss.flatten, ∀ y H2 x (Z : VK), Same H H2 → R H2 y c → (∀ z H4, Same H2 H4 → RO H4 z (f c) → Z z H4) → g1 y (wipe ((wipe σ vs).set i (some x)) vs1) H2 fun σ3 H3 => wipe σ3 vs1 = wipe ((wipe σ vs).set i (some x)) vs1 ∧ te σ3 H3 Z)
    (hd : ∀ v H2, Same H H2 → LOf RO H2 v (ss.flatten.map f) → Q v H2) : tLc2 (iList K ta) (gName i) tYes (iList K (tVar i)) g1 tYes te vs vs1 σ H Q := by
  refine hl _ fun v H1 e1 ⟨a, xs, ev, ha, hp⟩ => ⟨a, ev, ⟨_, Evl.sq_of ha⟩, ?_⟩
  have key := lc2T (RO := RO) (RI1 := fun c y => fun H => R H y c) (fun s => ∃ x, s = (wipe σ vs).set i (some x)) f (bs := id) (wi1 := iList K (tVar i)) (g1 := g1) (te := te) (vs1 := vs1) (wk_list (K := K) ha hp) (by rw [List.map_id]; exact hz) (g := gName i) (vs := vs) (σ := σ) (Q := Q)
    (fun st hst x H2 D Z e2 r hD k => ⟨hw x, ?_⟩) (fun st hst c hc y H2 σ2 Zt hps e2 r k => ?_) (fun v H2 e2 h => ?_)
  · exact key
  · obtain ⟨b, ys, rfl, hb, hq⟩ := r
    refine ⟨_, hg _, b, rfl, ⟨_, Evl.sq_of (e2 _ _ hb)⟩, k _ _ _ ⟨_, rfl⟩ (Same.refl _) ?_⟩
    have W := wk_list (K := K) (R := R) (del_out e2 hD _ _ hb) (hq.mapF fun _ _ => Mn.mn (del_out e2 hD))
    exact ⟨W.stop, W.go, fun j c H x H' hj e y => let ⟨p, q⟩ := W.yld j c H x H' hj e y; ⟨p, Mn.mn (e.trans p) q⟩⟩
  · obtain ⟨x, rfl⟩ := hps
    exact hs c (List.mem_flatten.mpr ⟨st, hst, hc⟩) y H2 x Zt (e1.trans e2) r k
  · rw [List.map_id] at h
    exact hd v H2 (e1.trans e2) h
end
end KB

-- part KB3
namespace KB
open PySem PySem.Spec PyProof.Rows L2
/-! ### the rules with K told: within a block they do not lean on its frame -/
section
variable {X : Cx} {tg l e : Expr} {te tl : TE} (K : PySem.W.Frag)
theorem pi_listK (hl : PE X l tl) (hK : X.K = K := by rfl) : PI X tg l (iList K tl) := by subst hK; exact pi_list hl
theorem pi_tupK (hl : PE X l tl) (hK : X.K = K := by rfl) : PI X tg l (iTup K tl) := by subst hK; exact pi_tup hl
theorem ix_tupK (hK : X.K = K := by rfl) : IxR X (rIxT K) := by subst hK; exact ix_tup
theorem ix_listK (hK : X.K = K := by rfl) : IxR X (rIxL K) := by subst hK; exact ix_list
abbrev rLenK (K : PySem.W.Frag) : List V → Hp → VK → Prop := fun xs H Q => ∃ p ys, xs = [.ref p] ∧ (SqL K H p ys ∨ SqT K H p ys) ∧ Q (.int ys.length) H
theorem call_lenK (hK : X.K = K := by rfl) : CallR X (.builtin "len") (rLenK K) := by subst hK; exact call_len_seq
/-- tuple(..), list(..) of a list or a tuple -/
abbrev rTuple (K : PySem.W.Frag) : List V → Hp → VK → Prop := fun xs H Q => ∃ p ys, xs = [.ref p] ∧ ((SqL K H p ys ∧ ∀ l, H l = none → Q (.ref l) (upd H l (.tup ys))) ∨ (SqT K H p ys ∧ Q (.ref p) H))
theorem call_tupleK (hK : X.K = K := by rfl) : CallR X (.type "tuple") (rTuple K) := by subst hK; exact call_tuple_of
abbrev rListK (K : PySem.W.Frag) : List V → Hp → VK → Prop := fun xs H Q => ∃ p ys, xs = [.ref p] ∧ (SqL K H p ys ∨ SqT K H p ys) ∧ ∀ l, H l = none → Q (.ref l) (upd H l (.lst ys))
theorem call_listK (hK : X.K = K := by rfl) : CallR X (.type "list") (rListK K) := by subst hK; exact call_list_of
theorem cr_sumK (hc : X.calm = true) (hK : X.K = K := by rfl) : CallR X (.builtin "sum") (rSum K) := by subst hK; exact cr_sum hc
theorem pg_tupK {elts : List Expr} {kk : Nat} {pos : Pos} {n : Nat} {ts : TGs} (hc : X.calm = true) (h : PGs X elts ts) (hn : (assignEach elts X.env).length = n := by rfl) (hst : (assignEach elts X.env).findIdx? (·.1) = none := by rfl) (hK : X.K = K := by rfl) : PG X (.Tuple elts kk pos) (gTup K n ts) := by
  subst hK
  exact pg_tup hc h hn hst
theorem pe_fldK {f : Str} {pos : Pos} (he : PE X e te) (hb : attributeBase e f X.env (eval e X.env) = eval e X.env) (hK : X.K = K := by rfl) : PE X (.Attribute e f pos) (tFld K te f) := by subst hK; exact pe_fld he hb
theorem mt_indexK (hK : X.K = K := by rfl) : MtR X "list.index" (rIndex K) := by subst hK; exact mt_index
theorem pe_bmK {T : String} {r : V → List V → Hp → VK → Prop} {to : TE} {t : TA} (h : PE X e (tBM X.K T r to t)) (hK : X.K = K := by rfl) : PE X e (tBM K T r to t) := by subst hK; exact h
end
theorem at_nat {xs : List V} {j : Nat} {v : V} (h : xs[j]? = some v) : atI xs (j : Int) = some v := by
  have hl : j < xs.length := (List.getElem?_eq_some_iff.mp h).1
  unfold atI
  rw [Evl.ixN_nat hl]
  exact h
end KB

-- part KC0
namespace KB
open PySem PySem.Spec PyProof.Rows L2
def top (i : Nat) : Stmt := PySem.Challenge.pw_ringbars_k50_whole_lineups_by_nets.main.body.getD i (.Pass ⟨0, 0, 0, 0⟩)
structure DefF (K : PySem.W.Frag) (mg : Str → Option Value) (x : Str) (st : Stmt) : Prop where
  ex : ∃ (f : Addr) (fd : FuncData), mg x = some (.ref f) ∧ FunD K x x (defArgs st) (defBody st) (defScope st) [] [] f fd
structure MetF (K : PySem.W.Frag) (f : Addr) (m qual : Str) (st : Stmt) : Prop where
  ex : ∃ (fd : FuncData), FunD K m qual (defArgs st) (defBody st) (defScope st) [] [] f fd
theorem hu1 {k : Nat} {A : Around} (hr : Room k A) : A.units + 1 < cLine := by have := hr.units; omega
theorem ps_never {X : Cx} {st : Stmt} : PS X st tNever := ⟨fun _ _ _ _ _ _ h => h.elim⟩
theorem pss_never {X : Cx} {st : List Stmt} : PSs X st tNever := ⟨fun _ _ _ _ _ _ h => h.elim⟩
/-- isinstance asks an instance of C by its class -/
structure TyC (K : PySem.W.Frag) (C : Addr) : Prop where
  ha : PySem.W.findIn K (.ref C) "__class__" = some (some (.builtin "object.__class__"))
  hn : PySem.W.specialIn K (.builtin "object.__class__") "__get__" = some (some (.builtin "getset_descriptor.__get__"))
  ht : PySem.W.takesIn K (.builtin "object.__class__") = some true
  hm : PySem.W.mroIn K C (.type "object") = some true
abbrev CC (K : PySem.W.Frag) (x : Str) : Addr := He.ga K x
abbrev CI (K : PySem.W.Frag) (x : Str) : Addr := He.ma K (He.ga K x) "__init__"
/-! ### the program's names -/
abbrev s_is_integer : Stmt := top 3
abbrev N_is_integer : List Str := ["value"]
theorem sc_is_integer : FnScope N_is_integer ["value"] (defScope s_is_integer) := ⟨rfl, rfl, rfl, by decide +kernel, rfl, by decide +kernel, by decide +kernel⟩
theorem b_is_integer {K : PySem.W.Frag} {x qual : Str} {f : Addr} {fd : FuncData} (F : FunD K x qual (defArgs s_is_integer) (defBody s_is_integer) (defScope s_is_integer) [] [] f fd) : Binds K fd ["value"] [] := F.bindsN fun _ _ _ _ _ _ us hl => match us, hl with | [_], _ => rfl
abbrev s_is_within : Stmt := top 4
abbrev N_is_within : List Str := ["value", "least", "most"]
theorem sc_is_within : FnScope N_is_within ["value", "least", "most"] (defScope s_is_within) := ⟨rfl, rfl, rfl, by decide +kernel, rfl, by decide +kernel, by decide +kernel⟩
theorem b_is_within {K : PySem.W.Frag} {x qual : Str} {f : Addr} {fd : FuncData} (F : FunD K x qual (defArgs s_is_within) (defBody s_is_within) (defScope s_is_within) [] [] f fd) : Binds K fd ["value", "least", "most"] [] := F.bindsN fun _ _ _ _ _ _ us hl => match us, hl with | [_, _, _], _ => rfl
abbrev s_are_lengths : Stmt := top 20
abbrev N_are_lengths : List Str := ["value", "length"]
theorem sc_are_lengths : FnScope N_are_lengths ["value"] (defScope s_are_lengths) := ⟨rfl, rfl, rfl, by decide +kernel, rfl, by decide +kernel, by decide +kernel⟩
theorem b_are_lengths {K : PySem.W.Frag} {x qual : Str} {f : Addr} {fd : FuncData} (F : FunD K x qual (defArgs s_are_lengths) (defBody s_are_lengths) (defScope s_are_lengths) [] [] f fd) : Binds K fd ["value"] [] := F.bindsN fun _ _ _ _ _ _ us hl => match us, hl with | [_], _ => rfl
abbrev s_sums_of : Stmt := top 21
abbrev N_sums_of : List Str := ["lengths", "found", "length", "one"]
theorem sc_sums_of : FnScope N_sums_of ["lengths"] (defScope s_sums_of) := ⟨rfl, rfl, rfl, by decide +kernel, rfl, by decide +kernel, by decide +kernel⟩
theorem b_sums_of {K : PySem.W.Frag} {x qual : Str} {f : Addr} {fd : FuncData} (F : FunD K x qual (defArgs s_sums_of) (defBody s_sums_of) (defScope s_sums_of) [] [] f fd) : Binds K fd ["lengths"] [] := F.bindsN fun _ _ _ _ _ _ us hl => match us, hl with | [_], _ => rfl
abbrev s_need_ring : Stmt := top 23
abbrev N_need_ring : List Str := ["value", "part"]
theorem sc_need_ring : FnScope N_need_ring ["value", "part"] (defScope s_need_ring) := ⟨rfl, rfl, rfl, by decide +kernel, rfl, by decide +kernel, by decide +kernel⟩
theorem b_need_ring {K : PySem.W.Frag} {x qual : Str} {f : Addr} {fd : FuncData} (F : FunD K x qual (defArgs s_need_ring) (defBody s_need_ring) (defScope s_need_ring) [] [] f fd) : Binds K fd ["value", "part"] [] := F.bindsN fun _ _ _ _ _ _ us hl => match us, hl with | [_, _], _ => rfl
abbrev s_is_sign : Stmt := top 26
abbrev N_is_sign : List Str := ["value"]
theorem sc_is_sign : FnScope N_is_sign ["value"] (defScope s_is_sign) := ⟨rfl, rfl, rfl, by decide +kernel, rfl, by decide +kernel, by decide +kernel⟩
theorem b_is_sign {K : PySem.W.Frag} {x qual : Str} {f : Addr} {fd : FuncData} (F : FunD K x qual (defArgs s_is_sign) (defBody s_is_sign) (defScope s_is_sign) [] [] f fd) : Binds K fd ["value"] [] := F.bindsN fun _ _ _ _ _ _ us hl => match us, hl with | [_], _ => rfl
abbrev s_is_pair : Stmt := top 27
abbrev N_is_pair : List Str := ["value"]
theorem sc_is_pair : FnScope N_is_pair ["value"] (defScope s_is_pair) := ⟨rfl, rfl, rfl, by decide +kernel, rfl, by decide +kernel, by decide +kernel⟩
theorem b_is_pair {K : PySem.W.Frag} {x qual : Str} {f : Addr} {fd : FuncData} (F : FunD K x qual (defArgs s_is_pair) (defBody s_is_pair) (defScope s_is_pair) [] [] f fd) : Binds K fd ["value"] [] := F.bindsN fun _ _ _ _ _ _ us hl => match us, hl with | [_], _ => rfl
abbrev s_is_strand : Stmt := top 28
abbrev N_is_strand : List Str := ["value", "pair"]
theorem sc_is_strand : FnScope N_is_strand ["value"] (defScope s_is_strand) := ⟨rfl, rfl, rfl, by decide +kernel, rfl, by decide +kernel, by decide +kernel⟩
theorem b_is_strand {K : PySem.W.Frag} {x qual : Str} {f : Addr} {fd : FuncData} (F : FunD K x qual (defArgs s_is_strand) (defBody s_is_strand) (defScope s_is_strand) [] [] f fd) : Binds K fd ["value"] [] := F.bindsN fun _ _ _ _ _ _ us hl => match us, hl with | [_], _ => rfl
abbrev s_are_strands : Stmt := top 29
abbrev N_are_strands : List Str := ["value", "bars", "strand", "bar", "sign"]
theorem sc_are_strands : FnScope N_are_strands ["value"] (defScope s_are_strands) := ⟨rfl, rfl, rfl, by decide +kernel, rfl, by decide +kernel, by decide +kernel⟩
theorem b_are_strands {K : PySem.W.Frag} {x qual : Str} {f : Addr} {fd : FuncData} (F : FunD K x qual (defArgs s_are_strands) (defBody s_are_strands) (defScope s_are_strands) [] [] f fd) : Binds K fd ["value"] [] := F.bindsN fun _ _ _ _ _ _ us hl => match us, hl with | [_], _ => rfl
abbrev s_strand_of : Stmt := top 30
abbrev N_strand_of : List Str := ["pairs", "rows", "bar", "sign"]
theorem sc_strand_of : FnScope N_strand_of ["pairs"] (defScope s_strand_of) := ⟨rfl, rfl, rfl, by decide +kernel, rfl, by decide +kernel, by decide +kernel⟩
theorem b_strand_of {K : PySem.W.Frag} {x qual : Str} {f : Addr} {fd : FuncData} (F : FunD K x qual (defArgs s_strand_of) (defBody s_strand_of) (defScope s_strand_of) [] [] f fd) : Binds K fd ["pairs"] [] := F.bindsN fun _ _ _ _ _ _ us hl => match us, hl with | [_], _ => rfl
abbrev s_lot_of : Stmt := top 31
abbrev N_lot_of : List Str := ["strand", "bar", "sign"]
theorem sc_lot_of : FnScope N_lot_of ["strand"] (defScope s_lot_of) := ⟨rfl, rfl, rfl, by decide +kernel, rfl, by decide +kernel, by decide +kernel⟩
theorem b_lot_of {K : PySem.W.Frag} {x qual : Str} {f : Addr} {fd : FuncData} (F : FunD K x qual (defArgs s_lot_of) (defBody s_lot_of) (defScope s_lot_of) [] [] f fd) : Binds K fd ["strand"] [] := F.bindsN fun _ _ _ _ _ _ us hl => match us, hl with | [_], _ => rfl
abbrev s_pair_text : Stmt := top 33
abbrev N_pair_text : List Str := ["pair"]
theorem sc_pair_text : FnScope N_pair_text ["pair"] (defScope s_pair_text) := ⟨rfl, rfl, rfl, by decide +kernel, rfl, by decide +kernel, by decide +kernel⟩
theorem b_pair_text {K : PySem.W.Frag} {x qual : Str} {f : Addr} {fd : FuncData} (F : FunD K x qual (defArgs s_pair_text) (defBody s_pair_text) (defScope s_pair_text) [] [] f fd) : Binds K fd ["pair"] [] := F.bindsN fun _ _ _ _ _ _ us hl => match us, hl with | [_], _ => rfl
abbrev s_need_lineup : Stmt := top 38
abbrev N_need_lineup : List Str := ["value", "part"]
theorem sc_need_lineup : FnScope N_need_lineup ["value", "part"] (defScope s_need_lineup) := ⟨rfl, rfl, rfl, by decide +kernel, rfl, by decide +kernel, by decide +kernel⟩
theorem b_need_lineup {K : PySem.W.Frag} {x qual : Str} {f : Addr} {fd : FuncData} (F : FunD K x qual (defArgs s_need_lineup) (defBody s_need_lineup) (defScope s_need_lineup) [] [] f fd) : Binds K fd ["value", "part"] [] := F.bindsN fun _ _ _ _ _ _ us hl => match us, hl with | [_, _], _ => rfl
abbrev s_fixed : Stmt := top 40
abbrev N_fixed : List Str := ["value", "part"]
theorem sc_fixed : FnScope N_fixed ["value"] (defScope s_fixed) := ⟨rfl, rfl, rfl, by decide +kernel, rfl, by decide +kernel, by decide +kernel⟩
theorem b_fixed {K : PySem.W.Frag} {x qual : Str} {f : Addr} {fd : FuncData} (F : FunD K x qual (defArgs s_fixed) (defBody s_fixed) (defScope s_fixed) [] [] f fd) : Binds K fd ["value"] [] := F.bindsN fun _ _ _ _ _ _ us hl => match us, hl with | [_], _ => rfl
abbrev s_net_of : Stmt := top 46
abbrev N_net_of : List Str := ["ring", "strand", "bar", "sign"]
theorem sc_net_of : FnScope N_net_of ["ring", "strand"] (defScope s_net_of) := ⟨rfl, rfl, rfl, by decide +kernel, rfl, by decide +kernel, by decide +kernel⟩
theorem b_net_of {K : PySem.W.Frag} {x qual : Str} {f : Addr} {fd : FuncData} (F : FunD K x qual (defArgs s_net_of) (defBody s_net_of) (defScope s_net_of) [] [] f fd) : Binds K fd ["ring", "strand"] [] := F.bindsN fun _ _ _ _ _ _ us hl => match us, hl with | [_, _], _ => rfl
abbrev s_great_spot : Stmt := top 47
abbrev N_great_spot : List Str := ["nets", "spots", "at", "net"]
theorem sc_great_spot : FnScope N_great_spot ["nets"] (defScope s_great_spot) := ⟨rfl, rfl, rfl, by decide +kernel, rfl, by decide +kernel, by decide +kernel⟩
theorem b_great_spot {K : PySem.W.Frag} {x qual : Str} {f : Addr} {fd : FuncData} (F : FunD K x qual (defArgs s_great_spot) (defBody s_great_spot) (defScope s_great_spot) [] [] f fd) : Binds K fd ["nets"] [] := F.bindsN fun _ _ _ _ _ _ us hl => match us, hl with | [_], _ => rfl
abbrev s_can_line : Stmt := top 48
abbrev N_can_line : List Str := ["ring", "lineup", "nets", "spot", "strand"]
theorem sc_can_line : FnScope N_can_line ["ring", "lineup"] (defScope s_can_line) := ⟨rfl, rfl, rfl, by decide +kernel, rfl, by decide +kernel, by decide +kernel⟩
theorem b_can_line {K : PySem.W.Frag} {x qual : Str} {f : Addr} {fd : FuncData} (F : FunD K x qual (defArgs s_can_line) (defBody s_can_line) (defScope s_can_line) [] [] f fd) : Binds K fd ["ring", "lineup"] [] := F.bindsN fun _ _ _ _ _ _ us hl => match us, hl with | [_, _], _ => rfl
abbrev s_law_bench : Stmt := top 50
abbrev N_law_bench : List Str := ["_law_script", "_law_cell"]
theorem sc_law_bench : FnScope N_law_bench ["_law_script"] (defScope s_law_bench) := ⟨rfl, rfl, rfl, by decide +kernel, rfl, by decide +kernel, by decide +kernel⟩
theorem b_law_bench {K : PySem.W.Frag} {x qual : Str} {f : Addr} {fd : FuncData} (F : FunD K x qual (defArgs s_law_bench) (defBody s_law_bench) (defScope s_law_bench) [] [] f fd) : Binds K fd ["_law_script"] [] := F.bindsN fun _ _ _ _ _ _ us hl => match us, hl with | [_], _ => rfl
abbrev s_law_draw : Stmt := top 51
abbrev N_law_draw : List Str := ["_law_bench_here", "_law_many", "_law_digit", "_law_at", "_law_cell", "_law_great", "_law_mixed_here"]
theorem sc_law_draw : FnScope N_law_draw ["_law_bench_here", "_law_many"] (defScope s_law_draw) := ⟨rfl, rfl, rfl, by decide +kernel, rfl, by decide +kernel, by decide +kernel⟩
theorem b_law_draw {K : PySem.W.Frag} {x qual : Str} {f : Addr} {fd : FuncData} (F : FunD K x qual (defArgs s_law_draw) (defBody s_law_draw) (defScope s_law_draw) [] [] f fd) : Binds K fd ["_law_bench_here", "_law_many"] [] := F.bindsN fun _ _ _ _ _ _ us hl => match us, hl with | [_, _], _ => rfl
abbrev s_law_pick : Stmt := top 52
abbrev N_law_pick : List Str := ["_law_bench_here", "_law_some"]
theorem sc_law_pick : FnScope N_law_pick ["_law_bench_here", "_law_some"] (defScope s_law_pick) := ⟨rfl, rfl, rfl, by decide +kernel, rfl, by decide +kernel, by decide +kernel⟩
theorem b_law_pick {K : PySem.W.Frag} {x qual : Str} {f : Addr} {fd : FuncData} (F : FunD K x qual (defArgs s_law_pick) (defBody s_law_pick) (defScope s_law_pick) [] [] f fd) : Binds K fd ["_law_bench_here", "_law_some"] [] := F.bindsN fun _ _ _ _ _ _ us hl => match us, hl with | [_, _], _ => rfl
abbrev s_law_mixed : Stmt := top 53
abbrev N_law_mixed : List Str := ["_law_bench_here", "_law_some", "_law_left", "_law_found", "_law_turn"]
theorem sc_law_mixed : FnScope N_law_mixed ["_law_bench_here", "_law_some"] (defScope s_law_mixed) := ⟨rfl, rfl, rfl, by decide +kernel, rfl, by decide +kernel, by decide +kernel⟩
theorem b_law_mixed {K : PySem.W.Frag} {x qual : Str} {f : Addr} {fd : FuncData} (F : FunD K x qual (defArgs s_law_mixed) (defBody s_law_mixed) (defScope s_law_mixed) [] [] f fd) : Binds K fd ["_law_bench_here", "_law_some"] [] := F.bindsN fun _ _ _ _ _ _ us hl => match us, hl with | [_, _], _ => rfl
abbrev s_law_lengths : Stmt := top 54
abbrev N_law_lengths : List Str := ["_law_bench_here", "_law_many", "_law_way", "_law_most", "_law_found", "_law_at", "_law_bar"]
theorem sc_law_lengths : FnScope N_law_lengths ["_law_bench_here", "_law_many"] (defScope s_law_lengths) := ⟨rfl, rfl, rfl, by decide +kernel, rfl, by decide +kernel, by decide +kernel⟩
theorem b_law_lengths {K : PySem.W.Frag} {x qual : Str} {f : Addr} {fd : FuncData} (F : FunD K x qual (defArgs s_law_lengths) (defBody s_law_lengths) (defScope s_law_lengths) [] [] f fd) : Binds K fd ["_law_bench_here", "_law_many"] [] := F.bindsN fun _ _ _ _ _ _ us hl => match us, hl with | [_, _], _ => rfl
abbrev s_law_strands : Stmt := top 55
abbrev N_law_strands : List Str := ["_law_bench_here", "_law_many", "_law_found", "_law_most", "_law_bar", "_law_at", "_law_pair"]
theorem sc_law_strands : FnScope N_law_strands ["_law_bench_here", "_law_many"] (defScope s_law_strands) := ⟨rfl, rfl, rfl, by decide +kernel, rfl, by decide +kernel, by decide +kernel⟩
theorem b_law_strands {K : PySem.W.Frag} {x qual : Str} {f : Addr} {fd : FuncData} (F : FunD K x qual (defArgs s_law_strands) (defBody s_law_strands) (defScope s_law_strands) [] [] f fd) : Binds K fd ["_law_bench_here", "_law_many"] [] := F.bindsN fun _ _ _ _ _ _ us hl => match us, hl with | [_, _], _ => rfl
abbrev s_law_right : Stmt := top 56
abbrev N_law_right : List Str := ["_law_strands_here", "_law_found", "_law_strand", "_law_rows", "_law_pair", "_law_bar", "_law_sign"]
theorem sc_law_right : FnScope N_law_right ["_law_strands_here"] (defScope s_law_right) := ⟨rfl, rfl, rfl, by decide +kernel, rfl, by decide +kernel, by decide +kernel⟩
theorem b_law_right {K : PySem.W.Frag} {x qual : Str} {f : Addr} {fd : FuncData} (F : FunD K x qual (defArgs s_law_right) (defBody s_law_right) (defScope s_law_right) [] [] f fd) : Binds K fd ["_law_strands_here"] [] := F.bindsN fun _ _ _ _ _ _ us hl => match us, hl with | [_], _ => rfl
abbrev s_law_nets : Stmt := top 57
abbrev N_law_nets : List Str := ["_law_lengths_here", "_law_strands_here", "_law_strand", "_law_bar", "_law_sign"]
theorem sc_law_nets : FnScope N_law_nets ["_law_lengths_here", "_law_strands_here"] (defScope s_law_nets) := ⟨rfl, rfl, rfl, by decide +kernel, rfl, by decide +kernel, by decide +kernel⟩
theorem b_law_nets {K : PySem.W.Frag} {x qual : Str} {f : Addr} {fd : FuncData} (F : FunD K x qual (defArgs s_law_nets) (defBody s_law_nets) (defScope s_law_nets) [] [] f fd) : Binds K fd ["_law_lengths_here", "_law_strands_here"] [] := F.bindsN fun _ _ _ _ _ _ us hl => match us, hl with | [_, _], _ => rfl
abbrev s_law_is_home : Stmt := top 58
abbrev N_law_is_home : List Str := ["_law_nets_here", "_law_low", "_law_high", "_law_net"]
theorem sc_law_is_home : FnScope N_law_is_home ["_law_nets_here"] (defScope s_law_is_home) := ⟨rfl, rfl, rfl, by decide +kernel, rfl, by decide +kernel, by decide +kernel⟩
theorem b_law_is_home {K : PySem.W.Frag} {x qual : Str} {f : Addr} {fd : FuncData} (F : FunD K x qual (defArgs s_law_is_home) (defBody s_law_is_home) (defScope s_law_is_home) [] [] f fd) : Binds K fd ["_law_nets_here"] [] := F.bindsN fun _ _ _ _ _ _ us hl => match us, hl with | [_], _ => rfl
abbrev s_law_paper_right : Stmt := top 59
abbrev N_law_paper_right : List Str := ["_law_lengths_here", "_law_strands_here", "_law_due", "_law_nets_here", "_law_told", "_law_is_right", "_law_at", "_law_lot", "_law_spot", "_law_net", "_law_bar", "_law_sign"]
theorem sc_law_paper_right : FnScope N_law_paper_right ["_law_lengths_here", "_law_strands_here"] (defScope s_law_paper_right) := ⟨rfl, rfl, rfl, by decide +kernel, rfl, by decide +kernel, by decide +kernel⟩
theorem b_law_paper_right {K : PySem.W.Frag} {x qual : Str} {f : Addr} {fd : FuncData} (F : FunD K x qual (defArgs s_law_paper_right) (defBody s_law_paper_right) (defScope s_law_paper_right) [] [] f fd) : Binds K fd ["_law_lengths_here", "_law_strands_here"] [] := F.bindsN fun _ _ _ _ _ _ us hl => match us, hl with | [_, _], _ => rfl
abbrev s_law_parted : Stmt := top 60
abbrev N_law_parted : List Str := ["_law_bench_here", "_law_strands_here", "_law_at", "_law_rows", "_law_cut"]
theorem sc_law_parted : FnScope N_law_parted ["_law_bench_here", "_law_strands_here"] (defScope s_law_parted) := ⟨rfl, rfl, rfl, by decide +kernel, rfl, by decide +kernel, by decide +kernel⟩
theorem b_law_parted {K : PySem.W.Frag} {x qual : Str} {f : Addr} {fd : FuncData} (F : FunD K x qual (defArgs s_law_parted) (defBody s_law_parted) (defScope s_law_parted) [] [] f fd) : Binds K fd ["_law_bench_here", "_law_strands_here"] [] := F.bindsN fun _ _ _ _ _ _ us hl => match us, hl with | [_, _], _ => rfl
abbrev s_law_pulled : Stmt := top 61
abbrev N_law_pulled : List Str := ["_law_bench_here", "_law_lengths_here", "_law_strands_here", "_law_at", "_law_wanted", "_law_bar", "_law_sign", "_law_rest", "_law_length", "_law_one", "_law_turn"]
theorem sc_law_pulled : FnScope N_law_pulled ["_law_bench_here", "_law_lengths_here", "_law_strands_here"] (defScope s_law_pulled) := ⟨rfl, rfl, rfl, by decide +kernel, rfl, by decide +kernel, by decide +kernel⟩
theorem b_law_pulled {K : PySem.W.Frag} {x qual : Str} {f : Addr} {fd : FuncData} (F : FunD K x qual (defArgs s_law_pulled) (defBody s_law_pulled) (defScope s_law_pulled) [] [] f fd) : Binds K fd ["_law_bench_here", "_law_lengths_here", "_law_strands_here"] [] := F.bindsN fun _ _ _ _ _ _ us hl => match us, hl with | [_, _, _], _ => rfl
abbrev s_law_renumbered_right : Stmt := top 62
abbrev N_law_renumbered_right : List Str := ["_law_bench_here", "_law_lengths_here", "_law_strands_here", "_law_order", "_law_ring", "_law_its", "_law_mine", "_law_bar", "_law_strand", "_law_sign"]
theorem sc_law_renumbered_right : FnScope N_law_renumbered_right ["_law_bench_here", "_law_lengths_here", "_law_strands_here"] (defScope s_law_renumbered_right) := ⟨rfl, rfl, rfl, by decide +kernel, rfl, by decide +kernel, by decide +kernel⟩
theorem b_law_renumbered_right {K : PySem.W.Frag} {x qual : Str} {f : Addr} {fd : FuncData} (F : FunD K x qual (defArgs s_law_renumbered_right) (defBody s_law_renumbered_right) (defScope s_law_renumbered_right) [] [] f fd) : Binds K fd ["_law_bench_here", "_law_lengths_here", "_law_strands_here"] [] := F.bindsN fun _ _ _ _ _ _ us hl => match us, hl with | [_, _, _], _ => rfl
abbrev s_law_heard : Stmt := top 63
abbrev N_law_heard : List Str := ["_law_ask", "_law_heard_here", "error"]
theorem sc_law_heard : FnScope N_law_heard ["_law_ask"] (defScope s_law_heard) := ⟨rfl, rfl, rfl, by decide +kernel, rfl, by decide +kernel, by decide +kernel⟩
theorem b_law_heard {K : PySem.W.Frag} {x qual : Str} {f : Addr} {fd : FuncData} (F : FunD K x qual (defArgs s_law_heard) (defBody s_law_heard) (defScope s_law_heard) [] [] f fd) : Binds K fd ["_law_ask"] [] := F.bindsN fun _ _ _ _ _ _ us hl => match us, hl with | [_], _ => rfl
abbrev s_law_refused_right : Stmt := top 64
abbrev N_law_refused_right : List Str := ["_law_bench_here", "_law_lengths_here", "_law_strands_here", "_law_lineup", "_law_many", "_law_heard_here", "_law_bad", "_law_odd", "_law_ring", "_law_wide", "_law_bar"]
theorem sc_law_refused_right : FnScope N_law_refused_right ["_law_bench_here", "_law_lengths_here", "_law_strands_here"] (defScope s_law_refused_right) := ⟨rfl, rfl, rfl, by decide +kernel, rfl, by decide +kernel, by decide +kernel⟩
theorem b_law_refused_right {K : PySem.W.Frag} {x qual : Str} {f : Addr} {fd : FuncData} (F : FunD K x qual (defArgs s_law_refused_right) (defBody s_law_refused_right) (defScope s_law_refused_right) [] [] f fd) : Binds K fd ["_law_bench_here", "_law_lengths_here", "_law_strands_here"] [] := F.bindsN fun _ _ _ _ _ _ us hl => match us, hl with | [_, _, _], _ => rfl
abbrev s_law : Stmt := top 65
abbrev N_law : List Str := ["_law_script", "_law_bench_here", "_law_turn", "_law_many", "_law_lengths_here", "_law_strands_here", "_law_lap", "_law_finer"]
theorem sc_law : FnScope N_law ["_law_script"] (defScope s_law) := ⟨rfl, rfl, rfl, by decide +kernel, rfl, by decide +kernel, by decide +kernel⟩
theorem b_law {K : PySem.W.Frag} {x qual : Str} {f : Addr} {fd : FuncData} (F : FunD K x qual (defArgs s_law) (defBody s_law) (defScope s_law) [] [] f fd) : Binds K fd ["_law_script"] [] := F.bindsN fun _ _ _ _ _ _ us hl => match us, hl with | [_], _ => rfl
abbrev s_Ring___init : Stmt := inClass (top 22) 0
abbrev N_Ring___init : List Str := ["self", "lengths"]
theorem sc_Ring___init : FnScope N_Ring___init ["self", "lengths"] (defScope s_Ring___init) := ⟨rfl, rfl, rfl, by decide +kernel, rfl, by decide +kernel, by decide +kernel⟩
theorem b_Ring___init {K : PySem.W.Frag} {x qual : Str} {f : Addr} {fd : FuncData} (F : FunD K x qual (defArgs s_Ring___init) (defBody s_Ring___init) (defScope s_Ring___init) [] [] f fd) : Binds K fd ["self", "lengths"] [] := F.bindsN fun _ _ _ _ _ _ us hl => match us, hl with | [_, _], _ => rfl
abbrev s_LineUp___init : Stmt := inClass (top 32) 0
abbrev N_LineUp___init : List Str := ["self", "strands", "pairs", "strand", "lot"]
theorem sc_LineUp___init : FnScope N_LineUp___init ["self", "strands"] (defScope s_LineUp___init) := ⟨rfl, rfl, rfl, by decide +kernel, rfl, by decide +kernel, by decide +kernel⟩
theorem b_LineUp___init {K : PySem.W.Frag} {x qual : Str} {f : Addr} {fd : FuncData} (F : FunD K x qual (defArgs s_LineUp___init) (defBody s_LineUp___init) (defScope s_LineUp___init) [] [] f fd) : Binds K fd ["self", "strands"] [] := F.bindsN fun _ _ _ _ _ _ us hl => match us, hl with | [_, _], _ => rfl
abbrev s_LineUp___str : Stmt := inClass (top 32) 3
abbrev N_LineUp___str : List Str := ["self", "strand", "pair"]
theorem sc_LineUp___str : FnScope N_LineUp___str ["self"] (defScope s_LineUp___str) := ⟨rfl, rfl, rfl, by decide +kernel, rfl, by decide +kernel, by decide +kernel⟩
theorem b_LineUp___str {K : PySem.W.Frag} {x qual : Str} {f : Addr} {fd : FuncData} (F : FunD K x qual (defArgs s_LineUp___str) (defBody s_LineUp___str) (defScope s_LineUp___str) [] [] f fd) : Binds K fd ["self"] [] := F.bindsN fun _ _ _ _ _ _ us hl => match us, hl with | [_], _ => rfl
abbrev s_Paper___init : Stmt := inClass (top 41) 0
abbrev N_Paper___init : List Str := ["self", "word", "parts"]
theorem sc_Paper___init : FnScope N_Paper___init ["self", "word", "parts"] (defScope s_Paper___init) := ⟨rfl, rfl, rfl, by decide +kernel, rfl, by decide +kernel, by decide +kernel⟩
abbrev s_Paper___bool : Stmt := inClass (top 41) 1
abbrev N_Paper___bool : List Str := ["self"]
theorem sc_Paper___bool : FnScope N_Paper___bool ["self"] (defScope s_Paper___bool) := ⟨rfl, rfl, rfl, by decide +kernel, rfl, by decide +kernel, by decide +kernel⟩
theorem b_Paper___bool {K : PySem.W.Frag} {x qual : Str} {f : Addr} {fd : FuncData} (F : FunD K x qual (defArgs s_Paper___bool) (defBody s_Paper___bool) (defScope s_Paper___bool) [] [] f fd) : Binds K fd ["self"] [] := F.bindsN fun _ _ _ _ _ _ us hl => match us, hl with | [_], _ => rfl
abbrev s_Denial___bool : Stmt := inClass (top 42) 0
abbrev N_Denial___bool : List Str := ["self"]
theorem sc_Denial___bool : FnScope N_Denial___bool ["self"] (defScope s_Denial___bool) := ⟨rfl, rfl, rfl, by decide +kernel, rfl, by decide +kernel, by decide +kernel⟩
theorem b_Denial___bool {K : PySem.W.Frag} {x qual : Str} {f : Addr} {fd : FuncData} (F : FunD K x qual (defArgs s_Denial___bool) (defBody s_Denial___bool) (defScope s_Denial___bool) [] [] f fd) : Binds K fd ["self"] [] := F.bindsN fun _ _ _ _ _ _ us hl => match us, hl with | [_], _ => rfl
abbrev s_Nets___init : Stmt := inClass (top 44) 0
abbrev s_TooGreat___init : Stmt := inClass (top 45) 0
abbrev s_BadRing___init : Stmt := inClass (top 7) 0
abbrev N_BadRing___init : List Str := ["self", "part"]
theorem sc_BadRing___init : FnScope N_BadRing___init ["self", "part"] (defScope s_BadRing___init) := ⟨rfl, rfl, rfl, by decide +kernel, rfl, by decide +kernel, by decide +kernel⟩
theorem b_BadRing___init {K : PySem.W.Frag} {x qual : Str} {f : Addr} {fd : FuncData} (F : FunD K x qual (defArgs s_BadRing___init) (defBody s_BadRing___init) (defScope s_BadRing___init) [] [] f fd) : Binds K fd ["self", "part"] [] := F.bindsN fun _ _ _ _ _ _ us hl => match us, hl with | [_, _], _ => rfl
abbrev s_BadLineUp___init : Stmt := inClass (top 8) 0
abbrev N_BadLineUp___init : List Str := ["self", "part"]
theorem sc_BadLineUp___init : FnScope N_BadLineUp___init ["self", "part"] (defScope s_BadLineUp___init) := ⟨rfl, rfl, rfl, by decide +kernel, rfl, by decide +kernel, by decide +kernel⟩
theorem b_BadLineUp___init {K : PySem.W.Frag} {x qual : Str} {f : Addr} {fd : FuncData} (F : FunD K x qual (defArgs s_BadLineUp___init) (defBody s_BadLineUp___init) (defScope s_BadLineUp___init) [] [] f fd) : Binds K fd ["self", "part"] [] := F.bindsN fun _ _ _ _ _ _ us hl => match us, hl with | [_, _], _ => rfl
abbrev s_Misfit___init : Stmt := inClass (top 9) 0
abbrev N_Misfit___init : List Str := ["self", "part"]
theorem sc_Misfit___init : FnScope N_Misfit___init ["self", "part"] (defScope s_Misfit___init) := ⟨rfl, rfl, rfl, by decide +kernel, rfl, by decide +kernel, by decide +kernel⟩
theorem b_Misfit___init {K : PySem.W.Frag} {x qual : Str} {f : Addr} {fd : FuncData} (F : FunD K x qual (defArgs s_Misfit___init) (defBody s_Misfit___init) (defScope s_Misfit___init) [] [] f fd) : Binds K fd ["self", "part"] [] := F.bindsN fun _ _ _ _ _ _ us hl => match us, hl with | [_, _], _ => rfl
/-! ### what is wanted of the heap behind the top -/
structure Tx (P : Program) (K : PySem.W.Frag) (mg : Str → Option Value) : Prop where
  f_isinstance : mg "isinstance" = none
  f_int : mg "int" = none
  f_bool : mg "bool" = none
  f_str : mg "str" = none
  f_list : mg "list" = none
  f_tuple : mg "tuple" = none
  f_len : mg "len" = none
  f_sum : mg "sum" = none
  f_max : mg "max" = none
  f_abs : mg "abs" = none
  f_all : mg "all" = none
  f_sorted : mg "sorted" = none
  f_range : mg "range" = none
  f_enumerate : mg "enumerate" = none
  f_super : mg "super" = none
  i_LEAST_BARS : ∃ t, mg "LEAST_BARS" = some (.int 3 t)
  i_MOST_BARS : ∃ t, mg "MOST_BARS" = some (.int 8 t)
  i_MOST_LENGTH : ∃ t, mg "MOST_LENGTH" = some (.int 1000000 t)
  g_RingError : mg "RingError" = some (.ref (CC K "RingError"))
  g_BadRing : mg "BadRing" = some (.ref (CC K "BadRing"))
  g_BadLineUp : mg "BadLineUp" = some (.ref (CC K "BadLineUp"))
  g_Misfit : mg "Misfit" = some (.ref (CC K "Misfit"))
  g_Ring : mg "Ring" = some (.ref (CC K "Ring"))
  g_LineUp : mg "LineUp" = some (.ref (CC K "LineUp"))
  g_Paper : mg "Paper" = some (.ref (CC K "Paper"))
  g_Denial : mg "Denial" = some (.ref (CC K "Denial"))
  g_Nets : mg "Nets" = some (.ref (CC K "Nets"))
  g_TooGreat : mg "TooGreat" = some (.ref (CC K "TooGreat"))
  cl_Ring : Cls K (CC K "Ring")
  mk_Ring : Mk K (CC K "Ring") (CI K "Ring")
  na_Ring_lengths : NoAttr K (CC K "Ring") "lengths"
  na_Ring_total : NoAttr K (CC K "Ring") "total"
  na_Ring_closes : NoAttr K (CC K "Ring") "closes"
  na_Ring_is_clear : NoAttr K (CC K "Ring") "is_clear"
  cl_LineUp : Cls K (CC K "LineUp")
  mk_LineUp : Mk K (CC K "LineUp") (CI K "LineUp")
  na_LineUp_strands : NoAttr K (CC K "LineUp") "strands"
  na_LineUp_lots : NoAttr K (CC K "LineUp") "lots"
  na_LineUp_many : NoAttr K (CC K "LineUp") "many"
  cl_Nets : Cls K (CC K "Nets")
  mk_Nets : Mk K (CC K "Nets") (CI K "Nets")
  na_Nets_word : NoAttr K (CC K "Nets") "word"
  na_Nets_parts : NoAttr K (CC K "Nets") "parts"
  na_Nets_nets : NoAttr K (CC K "Nets") "nets"
  cl_TooGreat : Cls K (CC K "TooGreat")
  mk_TooGreat : Mk K (CC K "TooGreat") (CI K "TooGreat")
  na_TooGreat_word : NoAttr K (CC K "TooGreat") "word"
  na_TooGreat_parts : NoAttr K (CC K "TooGreat") "parts"
  na_TooGreat_lot : NoAttr K (CC K "TooGreat") "lot"
  na_TooGreat_net : NoAttr K (CC K "TooGreat") "net"
  na_TooGreat_others : NoAttr K (CC K "TooGreat") "others"
  d_is_integer : DefF K mg "is_integer" s_is_integer
  d_is_within : DefF K mg "is_within" s_is_within
  d_are_lengths : DefF K mg "are_lengths" s_are_lengths
  d_sums_of : DefF K mg "sums_of" s_sums_of
  d_need_ring : DefF K mg "need_ring" s_need_ring
  d_is_sign : DefF K mg "is_sign" s_is_sign
  d_is_pair : DefF K mg "is_pair" s_is_pair
  d_is_strand : DefF K mg "is_strand" s_is_strand
  d_are_strands : DefF K mg "are_strands" s_are_strands
  d_strand_of : DefF K mg "strand_of" s_strand_of
  d_lot_of : DefF K mg "lot_of" s_lot_of
  d_pair_text : DefF K mg "pair_text" s_pair_text
  d_need_lineup : DefF K mg "need_lineup" s_need_lineup
  d_fixed : DefF K mg "fixed" s_fixed
  d_net_of : DefF K mg "net_of" s_net_of
  d_great_spot : DefF K mg "great_spot" s_great_spot
  d_can_line : DefF K mg "can_line" s_can_line
  d_law_bench : DefF K mg "_law_bench" s_law_bench
  d_law_draw : DefF K mg "_law_draw" s_law_draw
  d_law_pick : DefF K mg "_law_pick" s_law_pick
  d_law_mixed : DefF K mg "_law_mixed" s_law_mixed
  d_law_lengths : DefF K mg "_law_lengths" s_law_lengths
  d_law_strands : DefF K mg "_law_strands" s_law_strands
  d_law_right : DefF K mg "_law_right" s_law_right
  d_law_nets : DefF K mg "_law_nets" s_law_nets
  d_law_is_home : DefF K mg "_law_is_home" s_law_is_home
  d_law_paper_right : DefF K mg "_law_paper_right" s_law_paper_right
  d_law_parted : DefF K mg "_law_parted" s_law_parted
  d_law_pulled : DefF K mg "_law_pulled" s_law_pulled
  d_law_renumbered_right : DefF K mg "_law_renumbered_right" s_law_renumbered_right
  d_law_heard : DefF K mg "_law_heard" s_law_heard
  d_law_refused_right : DefF K mg "_law_refused_right" s_law_refused_right
  m_Ring___init : MetF K (He.ma K (He.ga K "Ring") "__init__") "__init__" "Ring.__init__" s_Ring___init
  m_LineUp___init : MetF K (He.ma K (He.ga K "LineUp") "__init__") "__init__" "LineUp.__init__" s_LineUp___init
  m_LineUp___str : MetF K (He.ma K (He.ga K "LineUp") "__str__") "__str__" "LineUp.__str__" s_LineUp___str
  m_Paper___init : MetF K (He.ma K (He.ga K "Paper") "__init__") "__init__" "Paper.__init__" s_Paper___init
  m_Paper___bool : MetF K (He.ma K (He.ga K "Paper") "__bool__") "__bool__" "Paper.__bool__" s_Paper___bool
  m_Denial___bool : MetF K (He.ma K (He.ga K "Denial") "__bool__") "__bool__" "Denial.__bool__" s_Denial___bool
  m_BadRing___init : MetF K (He.ma K (He.ga K "BadRing") "__init__") "__init__" "BadRing.__init__" s_BadRing___init
  m_BadLineUp___init : MetF K (He.ma K (He.ga K "BadLineUp") "__init__") "__init__" "BadLineUp.__init__" s_BadLineUp___init
  m_Misfit___init : MetF K (He.ma K (He.ga K "Misfit") "__init__") "__init__" "Misfit.__init__" s_Misfit___init
  sf_Nets : ∃ cc c, SupF P K ⟨"__init__", "Nets.__init__", defArgs s_Nets___init, defBody s_Nets___init, defScope s_Nets___init, [("__class__", cc)], c⟩ (CI K "Nets") cc (CC K "Nets")
  su_Nets : SupC K (CC K "Nets") (CC K "Nets") (CI K "Paper") "__init__"
  sf_TooGreat : ∃ cc c, SupF P K ⟨"__init__", "TooGreat.__init__", defArgs s_TooGreat___init, defBody s_TooGreat___init, defScope s_TooGreat___init, [("__class__", cc)], c⟩ (CI K "TooGreat") cc (CC K "TooGreat")
  su_TooGreat : SupC K (CC K "TooGreat") (CC K "TooGreat") (CI K "Paper") "__init__"
  bo_Nets : PySem.W.findIn K (.ref (CC K "Nets")) "__bool__" = some (some (.ref (He.ma K (CC K "Paper") "__bool__")))
  fb_Paper : PySem.W.isFn K (.ref (He.ma K (CC K "Paper") "__bool__")) = true
  bo_TooGreat : PySem.W.findIn K (.ref (CC K "TooGreat")) "__bool__" = some (some (.ref (He.ma K (CC K "Denial") "__bool__")))
  fb_Denial : PySem.W.isFn K (.ref (He.ma K (CC K "Denial") "__bool__")) = true
  ty_Ring : TyC K (CC K "Ring")
  ty_LineUp : TyC K (CC K "LineUp")
  ty_Nets : TyC K (CC K "Nets")
  ty_TooGreat : TyC K (CC K "TooGreat")
  ko_NoneType_Ring : PySem.W.kitOne K (.type "NoneType") (.ref (CC K "Ring")) = some false
  ko_int_Ring : PySem.W.kitOne K (.type "int") (.ref (CC K "Ring")) = some false
  ko_list_Ring : PySem.W.kitOne K (.type "list") (.ref (CC K "Ring")) = some false
  ko_str_Ring : PySem.W.kitOne K (.type "str") (.ref (CC K "Ring")) = some false
  ko_NoneType_LineUp : PySem.W.kitOne K (.type "NoneType") (.ref (CC K "LineUp")) = some false
  ko_bool_LineUp : PySem.W.kitOne K (.type "bool") (.ref (CC K "LineUp")) = some false
  ko_list_LineUp : PySem.W.kitOne K (.type "list") (.ref (CC K "LineUp")) = some false
  ko_str_LineUp : PySem.W.kitOne K (.type "str") (.ref (CC K "LineUp")) = some false
  ko_Nets_Paper : PySem.W.kitOne K (.ref (CC K "Nets")) (.ref (CC K "Paper")) = some true
  ko_TooGreat_Denial : PySem.W.kitOne K (.ref (CC K "TooGreat")) (.ref (CC K "Denial")) = some true
  st_LineUp : PySem.W.findIn K (.ref (CC K "LineUp")) "__str__" = some (some (.ref (He.ma K (He.ga K "LineUp") "__str__")))
  fs_LineUp : PySem.W.isFn K (.ref (He.ma K (He.ga K "LineUp") "__str__")) = true
  ox_BadRing : OexC K (CC K "BadRing")
  xp_BadRing : PySem.W.findIn K (.ref (CC K "BadRing")) "part" = some none
  xi_BadRing : PySem.W.findIn K (.ref (CC K "BadRing")) "__init__" = some (some (.ref (CI K "BadRing")))
  xt_BadRing : PySem.W.typeIn K (.ref (CI K "BadRing")) = some (.type "function")
  xc_BadRing : ExC K (CC K "BadRing")
  xm_BadRing : PySem.W.exmOne K (.ref (CC K "BadRing")) (.ref (CC K "RingError")) = some true
  kx_BadRing_BadLineUp : PySem.W.kitOne K (.ref (CC K "BadRing")) (.ref (CC K "BadLineUp")) = some false
  kx_BadRing_Misfit : PySem.W.kitOne K (.ref (CC K "BadRing")) (.ref (CC K "Misfit")) = some false
  ox_BadLineUp : OexC K (CC K "BadLineUp")
  xp_BadLineUp : PySem.W.findIn K (.ref (CC K "BadLineUp")) "part" = some none
  xi_BadLineUp : PySem.W.findIn K (.ref (CC K "BadLineUp")) "__init__" = some (some (.ref (CI K "BadLineUp")))
  xt_BadLineUp : PySem.W.typeIn K (.ref (CI K "BadLineUp")) = some (.type "function")
  xc_BadLineUp : ExC K (CC K "BadLineUp")
  xm_BadLineUp : PySem.W.exmOne K (.ref (CC K "BadLineUp")) (.ref (CC K "RingError")) = some true
  kx_BadLineUp_BadRing : PySem.W.kitOne K (.ref (CC K "BadLineUp")) (.ref (CC K "BadRing")) = some false
  kx_BadLineUp_Misfit : PySem.W.kitOne K (.ref (CC K "BadLineUp")) (.ref (CC K "Misfit")) = some false
  ox_Misfit : OexC K (CC K "Misfit")
  xp_Misfit : PySem.W.findIn K (.ref (CC K "Misfit")) "part" = some none
  xi_Misfit : PySem.W.findIn K (.ref (CC K "Misfit")) "__init__" = some (some (.ref (CI K "Misfit")))
  xt_Misfit : PySem.W.typeIn K (.ref (CI K "Misfit")) = some (.type "function")
  xc_Misfit : ExC K (CC K "Misfit")
  xm_Misfit : PySem.W.exmOne K (.ref (CC K "Misfit")) (.ref (CC K "RingError")) = some true
  kx_Misfit_BadRing : PySem.W.kitOne K (.ref (CC K "Misfit")) (.ref (CC K "BadRing")) = some false
  kx_Misfit_BadLineUp : PySem.W.kitOne K (.ref (CC K "Misfit")) (.ref (CC K "BadLineUp")) = some false
end KB

-- part KC1
namespace KB
open PySem PySem.Spec PyProof.Rows L2
variable {P : Program} {w : World} {K : PySem.W.Frag} {mg : Str → Option Value} {base : Heap}
theorem ifT {c : Bool} {A B : Prop} (h : c = true) (a : A) : if c = true then A else B := by rw [if_pos h]; exact a
theorem ifF {c : Bool} {A B : Prop} (h : c = false) (b : B) : if c = true then A else B := by rw [if_neg (by rw [h]; decide)]; exact b
def spIsInt : Sp := fun vs H Q _ => ∃ i, vs = [.int i] ∧ Q (.bl true) H
theorem G_is_integer (T : Tx P K mg) : DefOk P w K mg base CX0 1 "is_integer" spIsInt := by
  obtain ⟨f, fd, hm, F⟩ := T.d_is_integer.ex
  have nd := sc_is_integer.nd
  refine ⟨f, fd, _, hm, F.kp, b_is_integer F, F.ok sc_is_integer (fun vs H Q E h => ?_) (fun cdv A outer s H vs Q E hr h => ⟨_, PSs.nox 
      (pss_one (ps_ret (pe_and (pe_callB call_isi rfl T.f_isinstance (by decide +kernel) (pa_cons (pv 0) (pa_cons (pe_bty (n := "int") rfl T.f_int (by decide +kernel)) pa_nil))) (pe_one (pe_not (pe_callB call_isi rfl T.f_isinstance (by decide +kernel) (pa_cons (pv 0) (pa_cons (pe_bty (n := "bool") rfl T.f_bool (by decide +kernel)) pa_nil)))))))), ?_⟩)⟩
  · obtain ⟨i, rfl, _⟩ := h; rfl
  · obtain ⟨i, rfl, q⟩ := h
    refine ⟨_, rfl, _, _, _, _, true, rfl, .ty "int", .base (.int i), kit_ty (by decide +kernel), true, rfl, ?_⟩
    exact ⟨_, rfl, _, _, _, _, false, rfl, .ty "bool", .base (.int i), kit_ty (by decide +kernel), false, rfl, q⟩
def spWithin : Sp := fun vs H Q _ => ∃ i a b, vs = [.int i, .int a, .int b] ∧ Q (.bl (decide (a ≤ i ∧ i ≤ b))) H
theorem G_is_within (T : Tx P K mg) : DefOk P w K mg base CX0 2 "is_within" spWithin := by
  obtain ⟨f, fd, hm, F⟩ := T.d_is_within.ex
  have nd := sc_is_within.nd
  refine ⟨f, fd, _, hm, F.kp, b_is_within F, F.ok sc_is_within (fun vs H Q E h => ?_) (fun cdv A outer s H vs Q E hr h => ⟨_, PSs.nox 
      (pss_cons (ps_if (PW.pt (pw_or (pt_not (pt_val (pe_callD (G_is_integer T) (hr.mono (by decide)) rfl pass0 (pa_cons (pv 0) pa_nil)))) (pw_or1 (PW.pt (pw_and (pt_cmpR op_notN (pv 1) pe_non (nomark _)) (pw_and1 (pt_cmpR op_lt (pv 0) (pv 1) (nomark _)))))))) 
          (pss_one (ps_ret pe_bl)) pss_nil) 
      (pss_one (ps_ret (pe_or (pe_cmpR op_isN (pv 2) pe_non (nomark _)) (pe_one (pe_cmpR op_le (pv 0) (pv 2) (nomark _))))))), ?_⟩)⟩
  · obtain ⟨i, a, b, rfl, _⟩ := h; rfl
  · obtain ⟨i, a, b, rfl, q⟩ := h
    refine ⟨_, rfl, _, rfl, true, rfl, ?_⟩
    refine ifF rfl ⟨_, rfl, rfl, true, rfl, ifT rfl ⟨_, rfl, _, rfl, _, _, rfl, rfl, _, rfl, ?_⟩⟩
    by_cases h : i < a
    · refine ifT (decide_eq_true h) ?_
      have e : decide (a ≤ i ∧ i ≤ b) = false := decide_eq_false (by omega)
      rw [e] at q
      exact q
    · refine ifF (decide_eq_false h) ⟨_, rfl, rfl, _, rfl, ifF rfl ⟨_, rfl, _, rfl, _, _, rfl, rfl, ?_⟩⟩
      have e : decide (a ≤ i ∧ i ≤ b) = decide (i ≤ b) := decide_eq_decide.mpr ⟨fun z => z.2, fun z => ⟨by omega, z⟩⟩
      rw [e] at q
      exact q

/-! ### isinstance(x, (list, tuple)) -/
theorem rd_isiLT {σ : L2.St} {H : Hp} {i : Nat} {a : Addr} {xs : List V} {Q : VK} (hi : σ[i]? = some (some (.ref a))) (ha : H a = some (.lst xs) ∨ H a = some (.tup xs)) (q : ∀ H', Same H H' → Q (.bl true) H') :
    tCB (rIsiT K) (tCons (tVar i) (tCons (tTup (tCons (tC (.ty "list")) (tCons (tC (.ty "tuple")) tNil))) tNil)) σ H Q := by
  refine ⟨_, hi, by decide, fun p hp => ?_⟩
  have e := new_same (o := .tup [.ty "list", .ty "tuple"]) hp
  rcases ha with ha | ha
  · refine ⟨.ref a, p, _, _, _, true, rfl, upd_same, .cons (.ty "list") (.cons (.ty "tuple") .nil), .base (.lst (e _ _ ha)), kitAny_cons (b := true) (kit_ty (by decide +kernel)) (fun z => nomatch z) (fun _ => rfl), q _ e⟩
  · refine ⟨.ref a, p, _, _, _, true, rfl, upd_same, .cons (.ty "list") (.cons (.ty "tuple") .nil), .base (.tup (e _ _ ha)), kitAny_cons (b := false) (kit_ty (by decide +kernel)) (fun _ => kitAny_cons (b := true) (kit_ty (by decide +kernel)) (fun z => nomatch z) (fun _ => rfl)) (fun z => nomatch z), q _ e⟩
theorem all_true {α : Type} {as : List α} : ((as.map fun _ => true).all id) = true := by
  rw [List.all_map]; exact List.all_eq_true.mpr fun _ _ => rfl
def LensOk (ns : List Int) : Prop := (∀ x ∈ ns, 1 ≤ x ∧ x ≤ 1000000) ∧ 3 ≤ ns.length ∧ ns.length ≤ 8
def spLens : Sp := fun vs H Q _ => ∃ v ns, vs = [v] ∧ rInts H v ns ∧ LensOk ns ∧ ∀ H', Same H H' → Q (.bl true) H'
theorem G_are_lengths (T : Tx P K mg) : DefOk P w K mg base CX0 3 "are_lengths" spLens := by
  obtain ⟨f, fd, hm, F⟩ := T.d_are_lengths.ex
  have nd := sc_are_lengths.nd
  refine ⟨f, fd, _, hm, F.kp, b_are_lengths F, F.ok sc_are_lengths (fun vs H Q E h => ?_) (fun cdv A outer s H vs Q E hr h => ⟨_, PSs.nox 
      (pss_one (ps_ret (pe_and (pe_callB call_isiT rfl T.f_isinstance (by decide +kernel) (pa_cons (pv 0) (pa_cons (pe_tup (pa_cons (pe_bty (n := "list") rfl T.f_list (by decide +kernel)) (pa_cons (pe_bty (n := "tuple") rfl T.f_tuple (by decide +kernel)) pa_nil))) pa_nil))) (pe_one (pe_callB (cr_all rfl) rfl T.f_all (by decide +kernel) (pa_cons (pe_lc (own := [(("length" : Str), 1)]) rfl nd (pi_listK K (pv 0)) (blkOk_by (own := [(("length" : Str), 1)]) (N := N_are_lengths) (sc := defScope s_are_lengths) (by decide +kernel)) (fun _ _ _ _ _ => pg_name (i := 1) nd rfl (Or.inl rfl)) (fun _ _ _ _ _ => pts_nil) (fun _ _ _ _ _ => (pe_callD (G_is_within T) (hr.mono (by decide)) rfl pass0 (pa_cons (pv 1) (pa_cons pe_int (pa_cons (pe_gint T.i_MOST_LENGTH rfl) pa_nil)))))) pa_nil)))))), ?_⟩)⟩
  · obtain ⟨v, ns, rfl, _⟩ := h; rfl
  · obtain ⟨v, ns, rfl, ⟨a, xs, rfl, ha, hp⟩, hok, q⟩ := h
    refine rd_isiLT rfl (Or.inl ha) fun H1 e1 => ⟨true, rfl, ifT rfl ?_⟩
    refine cb1 (rd_lcL (R := rInt) (RO := rBl) (as := ns) (fun _ => true) (fun Z z => ⟨_, rfl, z _ _ (Same.refl _) ⟨a, xs, rfl, e1 _ _ ha, hp.mapF fun _ _ => Mn.mn e1⟩⟩) (by have := hok.2.2; omega) (fun x hx y H2 Z e2 r k => ⟨rfl, ?_⟩) (fun v H2 e2 hv => ?_))
    · obtain rfl : y = V.int x := r
      refine ⟨_, rfl, ⟨x, 1, 1000000, rfl, ?_⟩⟩
      have e : decide (1 ≤ x ∧ x ≤ 1000000) = true := decide_eq_true (hok.1 x hx)
      rw [e]
      exact k _ _ (Same.refl _) rfl
    · obtain ⟨D, ys, rfl, hD, hb⟩ := hv
      refine ⟨D, _, rfl, Evl.sq_of (bls_of hb ▸ hD), ?_⟩
      rw [all_true]
      exact q _ (e1.trans e2)
def spSign : Sp := fun vs H Q _ => ∃ i : Int, vs = [.int i] ∧ (i = 1 ∨ i = -1) ∧ Q (.bl true) H
theorem G_is_sign (T : Tx P K mg) : DefOk P w K mg base CX0 3 "is_sign" spSign := by
  obtain ⟨f, fd, hm, F⟩ := T.d_is_sign.ex
  have nd := sc_is_sign.nd
  refine ⟨f, fd, _, hm, F.kp, b_is_sign F, F.ok sc_is_sign (fun vs H Q E h => ?_) (fun cdv A outer s H vs Q E hr h => ⟨_, PSs.nox 
      (pss_one (ps_ret (pe_and (pe_callD (G_is_within T) (hr.mono (by decide)) rfl pass0 (pa_cons (pv 0) (pa_cons (pe_un un_neg pe_int) (pa_cons pe_int pa_nil)))) (pe_one (pe_cmpR op_ne (pv 0) pe_int (nomark _)))))), ?_⟩)⟩
  · obtain ⟨i, rfl, _⟩ := h; rfl
  · obtain ⟨i, rfl, hi, q⟩ := h
    refine ⟨_, rfl, _, rfl, ⟨i, -1, 1, rfl, true, ?_, ifT rfl ⟨_, rfl, ?_, ?_⟩⟩⟩
    · rw [decide_eq_true (by omega)]
    · rfl
    · have e : (!decide (V.int i = V.int 0)) = true := by
        rw [Bool.not_eq_true', decide_eq_false_iff_not]
        intro z
        have := V.int.inj z
        omega
      rw [e]
      exact q
def spPair : Sp := fun vs H Q _ => ∃ v p, vs = [v] ∧ rPair H v p ∧ (0 ≤ p.1 ∧ p.1 ≤ 7) ∧ (p.2 = 1 ∨ p.2 = -1) ∧ ∀ H', Same H H' → Q (.bl true) H'
theorem G_is_pair (T : Tx P K mg) : DefOk P w K mg base CX0 4 "is_pair" spPair := by
  obtain ⟨f, fd, hm, F⟩ := T.d_is_pair.ex
  have nd := sc_is_pair.nd
  refine ⟨f, fd, _, hm, F.kp, b_is_pair F, F.ok sc_is_pair (fun vs H Q E h => ?_) (fun cdv A outer s H vs Q E hr h => ⟨_, PSs.nox 
      (pss_cons (ps_if (PW.pt (pw_or (pt_not (pt_val (pe_callB call_isiT rfl T.f_isinstance (by decide +kernel) (pa_cons (pv 0) (pa_cons (pe_tup (pa_cons (pe_bty (n := "list") rfl T.f_list (by decide +kernel)) (pa_cons (pe_bty (n := "tuple") rfl T.f_tuple (by decide +kernel)) pa_nil))) pa_nil))))) (pw_or1 (pt_cmpR op_ne (pe_callB (call_lenK K) rfl T.f_len (by decide +kernel) (pa_cons (pv 0) pa_nil)) pe_int (nomark _))))) 
          (pss_one (ps_ret pe_bl)) pss_nil) 
      (pss_one (ps_ret (pe_and (pe_callD (G_is_within T) (hr.mono (by decide)) rfl pass0 (pa_cons (pe_ix (ix_tupK K) (pv 0) pe_int (fun _ _ => rfl)) (pa_cons pe_int (pa_cons (pe_op op_sub (pe_gint T.i_MOST_BARS rfl) pe_int) pa_nil)))) (pe_one (pe_callD (G_is_sign T) (hr.mono (by decide)) rfl pass0 (pa_cons (pe_ix (ix_tupK K) (pv 0) pe_int (fun _ _ => rfl)) pa_nil))))))), ?_⟩)⟩
  · obtain ⟨v, p, rfl, _⟩ := h; rfl
  · obtain ⟨v, p, rfl, ⟨a, rfl, ha⟩, h1, h2, q⟩ := h
    refine rd_isiLT rfl (Or.inr ha) fun H1 e1 => ⟨true, rfl, ifF rfl ?_⟩
    have ha1 := e1 _ _ ha
    refine ⟨_, rfl, ⟨a, _, rfl, Or.inr (Evl.st_of ha1), rfl, false, rfl, ifF rfl ?_⟩⟩
    refine ⟨_, rfl, ⟨a, _, 0, _, rfl, rfl, Evl.st_of ha1, rfl, ?_⟩⟩
    refine ⟨8, 1, rfl, rfl, p.1, 0, 7, rfl, true, ?_, ifT rfl ?_⟩
    · rw [decide_eq_true h1]
    refine ⟨_, rfl, ⟨a, _, 1, _, rfl, rfl, Evl.st_of ha1, rfl, ?_⟩⟩
    exact ⟨p.2, rfl, h2, q _ e1⟩
def StrandOk (st : List (Int × Int)) : Prop := st ≠ [] ∧ st.length ≤ 8 ∧ ∀ p ∈ st, (0 ≤ p.1 ∧ p.1 ≤ 7) ∧ (p.2 = 1 ∨ p.2 = -1)
def spStrand : Sp := fun vs H Q _ => ∃ v st, vs = [v] ∧ rStrand H v st ∧ StrandOk st ∧ ∀ H', Same H H' → Q (.bl true) H'
theorem G_is_strand (T : Tx P K mg) : DefOk P w K mg base CX0 5 "is_strand" spStrand := by
  obtain ⟨f, fd, hm, F⟩ := T.d_is_strand.ex
  have nd := sc_is_strand.nd
  refine ⟨f, fd, _, hm, F.kp, b_is_strand F, F.ok sc_is_strand (fun vs H Q E h => ?_) (fun cdv A outer s H vs Q E hr h => ⟨_, PSs.nox 
      (pss_one (ps_ret (pe_and (pe_callB call_isiT rfl T.f_isinstance (by decide +kernel) (pa_cons (pv 0) (pa_cons (pe_tup (pa_cons (pe_bty (n := "list") rfl T.f_list (by decide +kernel)) (pa_cons (pe_bty (n := "tuple") rfl T.f_tuple (by decide +kernel)) pa_nil))) pa_nil))) (pe_and (pe_cmpR op_gt (pe_callB (call_lenK K) rfl T.f_len (by decide +kernel) (pa_cons (pv 0) pa_nil)) pe_int (nomark _)) (pe_one (pe_callB (cr_all rfl) rfl T.f_all (by decide +kernel) (pa_cons (pe_lc (own := [(("pair" : Str), 1)]) rfl nd (pi_listK K (pv 0)) (blkOk_by (own := [(("pair" : Str), 1)]) (N := N_is_strand) (sc := defScope s_is_strand) (by decide +kernel)) (fun _ _ _ _ _ => pg_name (i := 1) nd rfl (Or.inl rfl)) (fun _ _ _ _ _ => pts_nil) (fun _ _ _ _ _ => (pe_callD (G_is_pair T) (hr.mono (by decide)) rfl pass0 (pa_cons (pv 1) pa_nil)))) pa_nil))))))), ?_⟩)⟩
  · obtain ⟨v, p, rfl, _⟩ := h; rfl
  · obtain ⟨v, st, rfl, ⟨a, xs, rfl, ha, hp⟩, hok, q⟩ := h
    refine rd_isiLT rfl (Or.inl ha) fun H1 e1 => ⟨true, rfl, ifT rfl ?_⟩
    have ha1 := e1 _ _ ha
    have hl : 0 < xs.length := by rw [hp.len]; exact List.length_pos_iff.mpr hok.1
    refine ⟨_, rfl, ⟨a, _, rfl, Or.inl (Evl.sq_of ha1), _, _, rfl, rfl, true, ?_, ifT rfl ?_⟩⟩
    · exact congrArg V.bl (decide_eq_true (by omega))
    refine cb1 (rd_lcL (R := rPair) (RO := rBl) (as := st) (fun _ => true) (fun Z z => ⟨_, rfl, z _ _ (Same.refl _) ⟨a, xs, rfl, ha1, hp.mapF fun _ _ => Mn.mn e1⟩⟩) (by have := hok.2.1; omega) (fun x hx y H2 Z e2 r k => ⟨rfl, ?_⟩) (fun v H2 e2 hv => ?_))
    · exact ⟨_, rfl, ⟨y, x, rfl, r, (hok.2.2 x hx).1, (hok.2.2 x hx).2, fun H' e' => k _ _ e' rfl⟩⟩
    · obtain ⟨D, ys, rfl, hD, hb⟩ := hv
      refine ⟨D, _, rfl, Evl.sq_of (bls_of hb ▸ hD), ?_⟩
      rw [all_true]
      exact q _ (e1.trans e2)
end KB

-- part KM0
namespace KB
open PySem PySem.Spec PyProof.Rows L2

/-! ### what the program computes, plainly -/
abbrev Pr := Int × Int
def srt (st : List Pr) : List Pr := st.mergeSort lePair
def hd2 (st : List Pr) : Int := (st.headD (0, 0)).2
def norm (st : List Pr) : List Pr := (srt st).map fun p => (p.1, p.2 * hd2 (srt st))
def right (ss : List (List Pr)) : List (List Pr) := (ss.map norm).mergeSort leRow
def lotOf (st : List Pr) : List Int := st.map (·.1)
def absI (i : Int) : Int := if i < 0 then -i else i
def netOf (ns : List Int) (st : List Pr) : Int := absI ((st.map fun p => ns.getD p.1.toNat 0 * p.2).sum)
def StrandsOk (n : Nat) (ss : List (List Pr)) : Prop := (∀ st ∈ ss, st ≠ [] ∧ ∀ p ∈ st, p.2 = 1 ∨ p.2 = -1) ∧ (ss.flatten.map (·.1)).Perm (rngI 0 n) ∧ 3 ≤ n ∧ n ≤ 8

theorem srt_perm (st : List Pr) : (srt st).Perm st := List.mergeSort_perm _ _
theorem norm_len (st : List Pr) : (norm st).length = st.length := by unfold norm; rw [List.length_map, (srt_perm st).length_eq]
theorem right_perm (ss : List (List Pr)) : (right ss).Perm (ss.map norm) := List.mergeSort_perm _ _
theorem rngI_mem {n : Nat} {i : Int} (h : i ∈ rngI 0 n) : 0 ≤ i ∧ i < n := by
  unfold rngI at h
  obtain ⟨j, hj, rfl⟩ := List.mem_map.mp h
  have := List.mem_range.mp hj
  omega
theorem StrandsOk.mem {n : Nat} {ss : List (List Pr)} (h : StrandsOk n ss) {p : Pr} (hp : p ∈ ss.flatten) : 0 ≤ p.1 ∧ p.1 < n :=
  rngI_mem (h.2.1.mem_iff.mp (List.mem_map.mpr ⟨p, hp, rfl⟩))
theorem StrandsOk.flen {n : Nat} {ss : List (List Pr)} (h : StrandsOk n ss) : ss.flatten.length = n := by
  have := h.2.1.length_eq
  rw [List.length_map, rngI_len] at this
  exact this
theorem flat_le {α : Type} : ∀ {ss : List (List α)}, (∀ st ∈ ss, st ≠ []) → ss.length ≤ ss.flatten.length
  | [], _ => Nat.le_refl _
  | st :: ss, h => by
    have h1 := flat_le fun t ht => h t (List.mem_cons_of_mem _ ht)
    have h2 : 0 < st.length := List.length_pos_iff.mpr (h st List.mem_cons_self)
    rw [List.length_cons, List.flatten_cons, List.length_append]
    omega
theorem mem_flat_le {α : Type} : ∀ {ss : List (List α)} {st : List α}, st ∈ ss → st.length ≤ ss.flatten.length
  | s :: ss, st, h => by
    rw [List.flatten_cons, List.length_append]
    rcases List.mem_cons.mp h with rfl | h
    · omega
    · have := mem_flat_le h
      omega
theorem StrandsOk.len {n : Nat} {ss : List (List Pr)} (h : StrandsOk n ss) : ss.length ≤ 8 := by
  have := flat_le fun st hs => (h.1 st hs).1
  have := h.flen
  have := h.2.2.2
  omega
theorem StrandsOk.strand {n : Nat} {ss : List (List Pr)} (h : StrandsOk n ss) {st : List Pr} (hs : st ∈ ss) : StrandOk st := by
  refine ⟨(h.1 st hs).1, ?_, fun p hp => ⟨?_, (h.1 st hs).2 p hp⟩⟩
  · have := mem_flat_le hs
    have := h.flen
    have := h.2.2.2
    omega
  · have := h.mem (List.mem_flatten.mpr ⟨st, hs, hp⟩)
    have := h.2.2.2
    omega
theorem StrandsOk.ne {n : Nat} {ss : List (List Pr)} (h : StrandsOk n ss) : ss ≠ [] := by
  intro z
  have := h.flen
  rw [z] at this
  have := h.2.2.1
  simp at *
  omega

/-! ### data -/
theorem alike_pair (p q : Pr) : PySem.W.alike (ePair p) (ePair q) = true := by simp [ePair, PySem.W.alike, PySem.W.alikeAll]
theorem alike_pairs : ∀ xs ys : List Pr, PySem.W.alikeAll (xs.map ePair) (ys.map ePair) = true
  | [], _ => by simp [PySem.W.alikeAll]
  | x :: xs, [] => by simp [PySem.W.alikeAll]
  | x :: xs, y :: ys => by simp only [List.map_cons, PySem.W.alikeAll, alike_pair, alike_pairs xs ys, Bool.and_self]
theorem alike_row (p q : List Pr) : PySem.W.alike (eRow p) (eRow q) = true := by simp only [eRow, PySem.W.alike, alike_pairs]
theorem al_pairs (st : List Pr) : PySem.W.AllAlike (st.map ePair) := by
  intro d hd d' hd'
  obtain ⟨p, _, rfl⟩ := List.mem_map.mp hd
  obtain ⟨q, _, rfl⟩ := List.mem_map.mp hd'
  exact alike_pair p q
theorem al_rows (ss : List (List Pr)) : PySem.W.AllAlike (ss.map eRow) := by
  intro d hd d' hd'
  obtain ⟨p, _, rfl⟩ := List.mem_map.mp hd
  obtain ⟨q, _, rfl⟩ := List.mem_map.mp hd'
  exact alike_row p q
theorem so_pairs (st : List Pr) : PySem.W.Sortable (st.map ePair) := by
  refine Or.inl fun d hd => ?_
  obtain ⟨p, _, rfl⟩ := List.mem_map.mp hd
  exact ⟨_, _, rfl⟩
theorem so_rows {ss : List (List Pr)} (h : ∀ st ∈ ss, st ≠ []) : PySem.W.Sortable (ss.map eRow) := by
  refine Or.inl fun d hd => ?_
  obtain ⟨p, hp, rfl⟩ := List.mem_map.mp hd
  cases p with
  | nil => exact absurd rfl (h _ hp)
  | cons x r => exact ⟨_, _, rfl⟩
theorem dep_pair (p : Pr) : (ePair p).depth ≤ 3 := by simp [ePair, PyData.depth, PyData.depthAll]
theorem dep_pairs : ∀ st : List Pr, PyData.depthAll (st.map ePair) ≤ 3
  | [] => by simp [PyData.depthAll]
  | p :: st => by
    have := dep_pairs st
    have := dep_pair p
    simp only [List.map_cons, PyData.depthAll]
    omega
theorem dep_row (st : List Pr) : (eRow st).depth ≤ 60 := by
  have := dep_pairs st
  simp only [eRow, PyData.depth]
  omega
theorem eqv_ints : ∀ (ns ms : List Int), PyData.eqvAll (ns.map .int) (ms.map .int) = decide (ns = ms)
  | [], [] => by simp [PyData.eqvAll]
  | [], _ :: _ => by simp [PyData.eqvAll]
  | _ :: _, [] => by simp [PyData.eqvAll]
  | x :: xs, y :: ys => by
    simp only [List.map_cons, PyData.eqvAll, eqv_ints xs ys, PyData.eqv, List.cons.injEq, Bool.decide_and]
    rfl
theorem can_ints : ∀ ns : List Int, PyData.canLayAll0 (ns.map .int) = true
  | [] => by simp [PyData.canLayAll0]
  | n :: ns => by simp [PyData.canLayAll0, PyData.canLay0, can_ints ns]
theorem dep_ints : ∀ ns : List Int, PyData.depthAll (ns.map .int) ≤ 1
  | [] => by simp [PyData.depthAll]
  | n :: ns => by
    have := dep_ints ns
    simp only [List.map_cons, PyData.depthAll, PyData.depth]
    omega
theorem sh_ints (ns : List Int) : SeqAt.shaped (.list (ns.map .int)) = true ∧ SeqAt.shaped (.tuple (ns.map .int)) = true := by
  have h1 := can_ints ns
  have h2 := dep_ints ns
  have h3 : 1 + PyData.depthAll (ns.map .int) ≤ 64 := by omega
  have h4 : PyData.depthAll (ns.map .int) + 1 ≤ 64 := by omega
  constructor <;> · unfold SeqAt.shaped; simp [PyData.canLay0, PyData.depth, h1, h3, h4]
theorem int_sorted_eq {xs ys : List Int} (h : xs.Perm ys) (h1 : xs.Pairwise (· ≤ ·)) (h2 : ys.Pairwise (· ≤ ·)) : xs = ys :=
  h.eq_of_pairwise (le := (· ≤ ·)) (fun a b _ _ p q => by omega) h1 h2
theorem rngI_sorted (n : Nat) : (rngI 0 n).Pairwise (· ≤ ·) := by
  unfold rngI
  rw [List.pairwise_map]
  exact List.Pairwise.imp (fun {a b} (h : a < b) => by omega) List.pairwise_lt_range
end KB

-- part KC2
namespace KB
open PySem PySem.Spec PyProof.Rows L2
variable {P : Program} {w : World} {K : PySem.W.Frag} {mg : Str → Option Value} {base : Heap}
/-- a pair as the target (i, j) -/
theorem rd_pairT {i j : Nat} {x : V} {p : Pr} {σ : L2.St} {H : Hp} {Q : L2.St → Hp → Prop} (h : rPair H x p) (q : Q ((σ.set i (some (.int p.1))).set j (some (.int p.2))) H) : gTup K 2 (gCons (gName i) (gCons (gName j) gNil)) x σ H Q := by
  obtain ⟨b, rfl, hb⟩ := h
  exact ⟨b, _, rfl, Evl.st_of hb, rfl, _, _, rfl, _, _, rfl, rfl, q⟩
theorem rd_tuple {α : Type} {R : Rl α} [Mn R] {H : Hp} {v : V} {as : List α} {Q : VK} (h : LOf R H v as) (k : ∀ v' H', Same H H' → TOf R H' v' as → Q v' H') : rTuple K [v] H Q := by
  obtain ⟨a, xs, rfl, ha, hp⟩ := h
  refine ⟨a, xs, rfl, Or.inl ⟨Evl.sq_of ha, fun l hl => k _ _ (new_same hl) ⟨l, xs, rfl, upd_same, hp.mapF fun _ _ => Mn.mn (new_same hl)⟩⟩⟩
def spStrands : Sp := fun vs H Q _ => ∃ v n ss, vs = [v] ∧ rStrands H v ss ∧ StrandsOk n ss ∧ ∀ H', Same H H' → Q (.bl true) H'
theorem G_are_strands (T : Tx P K mg) : DefOk P w K mg base CX0 6 "are_strands" spStrands := by
  obtain ⟨f, fd, hm, F⟩ := T.d_are_strands.ex
  have nd := sc_are_strands.nd
  refine ⟨f, fd, _, hm, F.kp, b_are_strands F, F.ok sc_are_strands (fun vs H Q E h => ?_) (fun cdv A outer s H vs Q E hr h => ⟨_, PSs.nox 
      (pss_cons (ps_if (PW.pt (pw_or (pt_not (pt_val (pe_callB call_isiT rfl T.f_isinstance (by decide +kernel) (pa_cons (pv 0) (pa_cons (pe_tup (pa_cons (pe_bty (n := "list") rfl T.f_list (by decide +kernel)) (pa_cons (pe_bty (n := "tuple") rfl T.f_tuple (by decide +kernel)) pa_nil))) pa_nil))))) (pw_or1 (pt_not (pt_val (pe_callB (cr_all rfl) rfl T.f_all (by decide +kernel) (pa_cons (pe_lc (own := [(("strand" : Str), 2)]) rfl nd (pi_listK K (pv 0)) (blkOk_by (own := [(("strand" : Str), 2)]) (N := N_are_strands) (sc := defScope s_are_strands) (by decide +kernel)) (fun _ _ _ _ _ => pg_name (i := 2) nd rfl (Or.inl rfl)) (fun _ _ _ _ _ => pts_nil) (fun _ _ _ _ _ => (pe_callD (G_is_strand T) (hr.mono (by decide)) rfl pass0 (pa_cons (pv 2) pa_nil)))) pa_nil))))))) 
          (pss_one (ps_ret pe_bl)) pss_nil) 
      (pss_cons (ps_set (i := 1) nd rfl (Or.inl rfl) (pe_callB cr_sortedI rfl T.f_sorted (by decide +kernel) (pa_cons (pe_lc2 (own := [(("strand" : Str), 2), (("bar" : Str), 3), (("sign" : Str), 4)]) (vs1 := [3, 4]) rfl nd (pi_listK K (pv 0)) (blkOk_by (own := [(("strand" : Str), 2), (("bar" : Str), 3), (("sign" : Str), 4)]) (N := N_are_strands) (sc := defScope s_are_strands) (by decide +kernel)) (by decide) (fun _ _ _ _ _ => pg_name (i := 2) nd rfl (Or.inl rfl)) (fun _ _ _ _ _ => pts_nil) (fun _ _ _ _ _ => (pi_listK K (pv 2))) (fun _ _ _ _ _ => pg_tupK K (n := 2) rfl (pgs_cons (pg_name (i := 3) nd rfl (Or.inl rfl)) (pgs_cons (pg_name (i := 4) nd rfl (Or.inl rfl)) pgs_nil))) (fun _ _ _ _ _ => pts_nil) (fun _ _ _ _ _ => (pv 3))) pa_nil))) 
      (pss_one (ps_ret (pe_and (pe_chain op_le op_le (pe_gint T.i_LEAST_BARS rfl) (pe_callB (call_lenK K) rfl T.f_len (by decide +kernel) (pa_cons (pv 1) pa_nil)) (pe_gint T.i_MOST_BARS rfl)) (pe_one (pe_cmpR (op_eqD hr.units) (pv 1) (pe_listRange rfl rfl rfl T.f_list T.f_range (pe_callB (call_lenK K) rfl T.f_len (by decide +kernel) (pa_cons (pv 1) pa_nil))) (nomark _)))))))), ?_⟩)⟩
  · obtain ⟨v, n, ss, rfl, _⟩ := h; rfl
  · obtain ⟨v, n, ss, rfl, ⟨a, xs, rfl, ha, hp⟩, hok, q⟩ := h
    refine rd_isiLT rfl (Or.inl ha) fun H1 e1 => ⟨true, rfl, ifF rfl ?_⟩
    refine cb1 (rd_lcL (R := rStrand) (RO := rBl) (as := ss) (fun _ => true) (fun Z z => ⟨_, rfl, z _ _ (Same.refl _) ⟨a, xs, rfl, e1 _ _ ha, hp.mapF fun _ _ => Mn.mn e1⟩⟩) (by have := hok.len; omega) (fun x hx y H2 Z e2 r k => ⟨rfl, ?_⟩) (fun v H2 e2 hv => ?_))
    · exact ⟨_, rfl, ⟨y, x, rfl, r, hok.strand hx, fun H' e' => k _ _ e' rfl⟩⟩
    · obtain ⟨D, ys, rfl, hD, hb⟩ := hv
      refine ⟨D, _, rfl, Evl.sq_of (bls_of hb ▸ hD), true, ?_, ifF rfl ?_⟩
      · rw [all_true]
      have e3 := e1.trans e2
      unfold tNext
      dsimp only
      refine seq_ (asg_ (cb1 (rd_lc2 (R := rPair) (RO := rInt) (ss := ss) (fun p => p.1) (fun Z z => ⟨_, rfl, z _ _ (Same.refl _) ⟨a, xs, rfl, e3 _ _ ha, hp.mapF fun _ _ => Mn.mn e3⟩⟩) (by rw [hok.flen]; have := hok.2.2.2; omega) (fun x => rfl) (fun x => rfl) (fun c hc y H3 x Z e4 r k => ?_) (fun v H3 e4 hv => ?_))))
      · exact rd_pairT r ⟨rfl, _, rfl, k _ _ (Same.refl _) rfl⟩
      · obtain ⟨L, zs, rfl, hL, hz⟩ := hv
        rw [ints_of hz] at hL
        refine ⟨L, _, rfl, Evl.sq_of hL, fun ns' p hperm hsort hpn => ?_⟩
        have hns : ns' = rngI 0 n := int_sorted_eq (hperm.trans hok.2.1) hsort (rngI_sorted n)
        subst hns
        have hl8 := hok.2.2
        have hlen : (((rngI 0 n).map V.int).length : Int) = (n : Int) := by rw [List.length_map, rngI_len]
        have eR : rgV 0 (((rngI 0 n).map V.int).length : Int) = (rngI 0 n).map V.int := by
          rw [hlen]
          unfold rgV rngI
          rw [List.map_map]
          simp
          try rfl
        unfold gName
        dsimp only
        have hlen' : ((List.map V.int (rngI 0 n)).length : Int) = (n : Int) := hlen
        refine ⟨_, rfl, p, _, rfl, Or.inl (Evl.sq_of upd_same), 3, _, rfl, rfl, _, rfl, ifT (decide_eq_true (by rw [hlen']; omega)) ⟨_, 8, rfl, rfl, _, rfl, ifT (decide_eq_true (by rw [hlen']; omega)) ?_⟩⟩
        refine ⟨_, rfl, _, rfl, p, _, rfl, Or.inl (Evl.sq_of upd_same), _, rfl, RgOk.of_le (by omega) (by rw [hlen']; omega) (by omega) (by omega), fun q' hq' => ?_⟩
        rw [eR]
        refine ⟨_, _, .lst (Evl.sq_of (new_same hq' _ _ upd_same)) (dpall (R := rInt) (of_ints (rngI 0 n) (H := H))), .lst (Evl.sq_of upd_same) (dpall (R := rInt) (of_ints (rngI 0 n) (H := H))), (sh_ints _).1, (sh_ints _).1, ?_⟩
        have e9 : PyData.eqv (.list ((rngI 0 n).map .int)) (.list ((rngI 0 n).map .int)) = true := by rw [PyData.eqv, eqv_ints, decide_eq_true rfl]
        rw [e9]
        exact q _ (((e3.trans e4).trans (new_same hpn)).trans (new_same hq'))
theorem sz2 : 2 ≤ sizeLine := by decide
theorem hd2_ok {st : List Pr} (h : StrandOk st) : hd2 (srt st) = 1 ∨ hd2 (srt st) = -1 := by
  unfold hd2
  cases e : srt st with
  | nil => exact absurd (List.Perm.nil_eq (e ▸ srt_perm st)).symm h.1
  | cons p r => exact (h.2.2 p ((srt_perm st).mem_iff.mp (by rw [e]; exact List.mem_cons_self))).2
def spStrandOf : Sp := fun vs H Q _ => ∃ v st, vs = [v] ∧ rStrand H v st ∧ StrandOk st ∧ ∀ v' H', Same H H' → rRow H' v' (norm st) → Q v' H'
theorem G_strand_of (T : Tx P K mg) : DefOk P w K mg base CX0 1 "strand_of" spStrandOf := by
  obtain ⟨f, fd, hm, F⟩ := T.d_strand_of.ex
  have nd := sc_strand_of.nd
  refine ⟨f, fd, _, hm, F.kp, b_strand_of F, F.ok sc_strand_of (fun vs H Q E h => ?_) (fun cdv A outer s H vs Q E hr h => ⟨_, PSs.nox 
      (pss_cons (ps_set (i := 1) nd rfl (Or.inr rfl) (pe_callB (cr_sortedD hr.units) rfl T.f_sorted (by decide +kernel) (pa_cons (pe_lc (own := [(("bar" : Str), 2), (("sign" : Str), 3)]) rfl nd (pi_listK K (pv 0)) (blkOk_by (own := [(("bar" : Str), 2), (("sign" : Str), 3)]) (N := N_strand_of) (sc := defScope s_strand_of) (by decide +kernel)) (fun _ _ _ _ _ => pg_tupK K (n := 2) rfl (pgs_cons (pg_name (i := 2) nd rfl (Or.inl rfl)) (pgs_cons (pg_name (i := 3) nd rfl (Or.inl rfl)) pgs_nil))) (fun _ _ _ _ _ => pts_nil) (fun _ _ _ _ _ => (pe_tup (pa_cons (pv 2) (pa_cons (pv 3) pa_nil))))) pa_nil))) 
      (pss_one (ps_ret (pe_callTy (call_tupleK K) rfl T.f_tuple (by decide +kernel) (pa_cons (pe_lc (own := [(("bar" : Str), 2), (("sign" : Str), 3)]) rfl nd (pi_listK K (pv 1)) (blkOk_by (own := [(("bar" : Str), 2), (("sign" : Str), 3)]) (N := N_strand_of) (sc := defScope s_strand_of) (by decide +kernel)) (fun _ _ _ _ _ => pg_tupK K (n := 2) rfl (pgs_cons (pg_name (i := 2) nd rfl (Or.inl rfl)) (pgs_cons (pg_name (i := 3) nd rfl (Or.inl rfl)) pgs_nil))) (fun _ _ _ _ _ => pts_nil) (fun _ _ _ _ _ => (pe_tup (pa_cons (pv 2) (pa_cons (pe_op op_mul (pv 3) (pe_ix (ix_tupK K) (pe_ix (ix_listK K) (pv 1) pe_int (fun _ _ => rfl)) pe_int (fun _ _ => rfl))) pa_nil))))) pa_nil))))), ?_⟩)⟩
  · obtain ⟨v, st, rfl, _⟩ := h; rfl
  · obtain ⟨v, st, rfl, ⟨a, xs, rfl, ha, hp⟩, hok, q⟩ := h
    refine seq_ (asg_ (cb1 (rd_lcL (R := rPair) (RO := rPair) (as := st) (fun p => p) (fun Z z => ⟨_, rfl, z _ _ (Same.refl _) ⟨a, xs, rfl, ha, hp⟩⟩) (by have := hok.2.1; omega) (fun p hx y H2 Z e2 r k => ?_) (fun v H2 e2 hv => ?_))))
    · exact rd_pairT r ⟨rfl, _, rfl, _, rfl, sz2, fun l hl => k _ _ (new_same hl) ⟨l, rfl, upd_same⟩⟩
    · rw [List.map_id'] at hv
      refine sort_out (R := rPair) hv (al_pairs st) (so_pairs st) (fun p hp => by have := dep_pair p; omega) fun v' H3 e3 hs => ?_
      unfold gName
      dsimp only
      refine ret_ (cb1 (rd_lcL (R := rPair) (RO := rPair) (as := srt st) (fun p => (p.1, p.2 * hd2 (srt st))) (fun Z z => ⟨_, rfl, z _ _ (Same.refl _) hs⟩) (by rw [(srt_perm st).length_eq]; have := hok.2.1; omega) (fun p hx y H4 Z e4 r k => ?_) (fun v2 H4 e4 hv2 => ?_)))
      · have hs : LOf rPair H3 v' (srt st) := hs
        obtain ⟨L, zs, rfl, hL, hz⟩ := hs
        have hL4 := e4 _ _ hL
        have hr2 : ∃ z r, zs = z :: r ∧ rPair H4 z ((srt st).headD (0, 0)) := by
          cases e : srt st with
          | nil => rw [e] at hx; cases hx
          | cons p0 r0 =>
            rw [e] at hz
            cases hz with
            | cons z1 z2 => exact ⟨_, _, rfl, Mn.mn e4 z1⟩
        obtain ⟨z0, zr, ez, ⟨b0, rfl, hb0⟩⟩ := hr2
        have hs1 := hd2_ok hok
        have hpm := (hok.2.2 p ((srt_perm st).mem_iff.mp hx)).2
        refine rd_pairT r ⟨rfl, _, rfl, _, rfl, _, rfl, L, zs, 0, _, rfl, rfl, Evl.sq_of hL4, at_nat (j := 0) (by rw [ez]; rfl), b0, _, 1, _, rfl, rfl, Evl.st_of hb0, rfl, p.2, hd2 (srt st), rfl, rfl, ?_, sz2, fun l hl => k _ _ (new_same hl) ⟨l, rfl, upd_same⟩⟩
        unfold CMul
        omega
      · exact rd_tuple hv2 fun v3 H5 e5 h5 => q _ _ (((e2.trans e3).trans e4).trans e5) h5
def spLotOf : Sp := fun vs H Q _ => ∃ v st, vs = [v] ∧ rRow H v st ∧ st.length ≤ 8 ∧ ∀ v' H', Same H H' → rIntT H' v' (lotOf st) → Q v' H'
theorem G_lot_of (T : Tx P K mg) : DefOk P w K mg base CX0 1 "lot_of" spLotOf := by
  obtain ⟨f, fd, hm, F⟩ := T.d_lot_of.ex
  have nd := sc_lot_of.nd
  refine ⟨f, fd, _, hm, F.kp, b_lot_of F, F.ok sc_lot_of (fun vs H Q E h => ?_) (fun cdv A outer s H vs Q E hr h => ⟨_, PSs.nox 
      (pss_one (ps_ret (pe_callTy (call_tupleK K) rfl T.f_tuple (by decide +kernel) (pa_cons (pe_lc (own := [(("bar" : Str), 1), (("sign" : Str), 2)]) rfl nd (pi_tupK K (pv 0)) (blkOk_by (own := [(("bar" : Str), 1), (("sign" : Str), 2)]) (N := N_lot_of) (sc := defScope s_lot_of) (by decide +kernel)) (fun _ _ _ _ _ => pg_tupK K (n := 2) rfl (pgs_cons (pg_name (i := 1) nd rfl (Or.inl rfl)) (pgs_cons (pg_name (i := 2) nd rfl (Or.inl rfl)) pgs_nil))) (fun _ _ _ _ _ => pts_nil) (fun _ _ _ _ _ => (pv 1))) pa_nil)))), ?_⟩)⟩
  · obtain ⟨v, st, rfl, _⟩ := h; rfl
  · obtain ⟨v, st, rfl, hv, hl, q⟩ := h
    refine ret_ (cb1 (rd_lcU (R := rPair) (RO := rInt) (as := st) (fun p => p.1) (fun Z z => ⟨_, rfl, z _ _ (Same.refl _) hv⟩) (by omega) (fun p hx y H2 Z e2 r k => ?_) (fun v H2 e2 hv => ?_)))
    · exact rd_pairT r ⟨rfl, _, rfl, k _ _ (Same.refl _) rfl⟩
    · exact rd_tuple hv fun v3 H5 e5 h5 => q _ _ (e2.trans e5) h5
end KB

-- part KC3
namespace KB
open PySem PySem.Spec PyProof.Rows L2
variable {P : Program} {w : World} {K : PySem.W.Frag} {mg : Str → Option Value} {base : Heap}
theorem nm_ {i : Nat} {v : V} {σ : L2.St} {H : Hp} {Q : L2.St → Hp → Prop} (h : Q (σ.set i (some v)) H) : gName i v σ H Q := h
/-- a loop over a list in a name -/
theorem rd_forL {i : Nat} {a : Addr} {xs : List V} {g : TG} {tb : TS} {D : Ends} {σ : L2.St} {H : Hp} (hi : σ[i]? = some (some (.ref a))) (ha : H a = some (.lst xs)) (Pv : Nat → L2.St → Hp → Prop) (h0 : Pv 0 σ H) (hl : ∀ i σ H, i ≤ xs.length → Pv i σ H → H a = some (.lst xs))
    (hs : ∀ i x σ H, xs[i]? = some x → Pv i σ H → g x σ H fun σ2 H2 => tb { D with nx := Pv (i + 1), ct := Pv (i + 1), bk := D.nx } σ2 H2) (hd : ∀ σ H, Pv xs.length σ H → D.nx σ H) : tFor (iList K (tVar i)) g tb D σ H :=
  ⟨_, hi, a, rfl, ⟨_, Evl.sq_of ha⟩, for_list (K := K) (xs := xs) Pv h0 (fun i σ H h p => Evl.sq_of (hl i σ H h p)) hs hd⟩
/-! ### a dict made of ints -/
def IntKeys (kvs : List (Key × V)) : Prop := ∀ p ∈ kvs, ∃ i : Int, p.1 = .inl i
theorem intKeys_put {kvs : List (Key × V)} {i : Int} {v : V} (h : IntKeys kvs) : IntKeys (putK kvs (.inl i) v) := by
  intro p hp
  unfold putK at hp
  split at hp
  · obtain ⟨q, hq, rfl⟩ := List.mem_map.mp hp
    obtain ⟨j, hj⟩ := h q hq
    by_cases e : q.1 = .inl i
    · rw [if_pos e]; exact ⟨j, hj⟩
    · rw [if_neg e]; exact ⟨j, hj⟩
  · rcases List.mem_append.mp hp with hp | hp
    · exact h p hp
    · rw [List.mem_singleton.mp hp]; exact ⟨i, rfl⟩
theorem intKeys_merge : ∀ {more kvs : List (Key × V)}, IntKeys kvs → IntKeys more → IntKeys (mergeK kvs more)
  | [], _, h, _ => h
  | p :: more, kvs, h, h2 => by
    obtain ⟨i, hi⟩ := h2 p List.mem_cons_self
    show IntKeys (mergeK (putK kvs p.1 p.2) more)
    rw [hi]
    exact intKeys_merge (intKeys_put h) fun q hq => h2 q (List.mem_cons_of_mem _ hq)
theorem dcI {J : It} {α : Type} {as : List α} {RI : α → V → Hp → Prop} {g : TG} {tk tv : TE} {vs : List Nat} {σ : L2.St} {H1 : Hp} {Q : VK} (key : α → Int) (W : Wk J H1 as RI) (hz : as.length ≤ 100000)
    (hs : ∀ a ∈ as, ∀ x H2 (Z : V → V → Hp → Prop), Same H1 H2 → RI a x H2 → (∀ z H4, Same H2 H4 → Z (.int (key a)) z H4) → g x (wipe σ vs) H2 fun σ2 H3 => wipe σ2 vs = wipe σ vs ∧ tk σ2 H3 fun y H4 => tv σ2 H4 fun z H5 => Z y z H5)
    (hd : ∀ D kvs H2, H1 D = none → Same H1 H2 → H2 D = some (.dK kvs) → kvs.length ≤ as.length → IntKeys kvs → Q (.ref D) H2) :
    ∀ D, H1 D = none → ∃ W : Nat → Nat → Hp → Prop, (∃ m, W 0 m (upd H1 D (.dK []))) ∧ ∀ i m H, W i m H →
      (J.stop i H ∧ Q (.ref D) H) ∨ (J.go i H ∧ ∃ Nx : Hp → Prop, (∀ H', Nx H' → ∃ m', m' < m ∧ W (i + 1) m' H') ∧ ∀ x H', J.yld i H x H' → g x (wipe σ vs) H' fun σ2 H2 => wipe σ2 vs = wipe σ vs ∧ tYes σ2 H2 fun b H3 =>
        if b = true then tk σ2 H3 fun y H4 => tv σ2 H4 fun z H5 => ∃ kvs k, y = kV k ∧ H5 D = some (.dK kvs) ∧ kvs.length < sizeLine ∧ Nx (upd H5 D (.dK (putK kvs k z))) else Nx H3) := by
  intro D hD
  let I : Nat → Hp → Prop := fun i H => Same H1 H ∧ ∃ acc, H D = some (.dK acc) ∧ acc.length ≤ i ∧ IntKeys acc
  refine ⟨fun i m H => m = as.length - i ∧ i ≤ as.length ∧ I i H, ⟨as.length, by simp, Nat.zero_le _, new_same hD, [], upd_same, Nat.le_refl _, fun p hp => by cases hp⟩, ?_⟩
  rintro i m H ⟨rfl, hi, e, acc, hacc, hlen, hik⟩
  by_cases hlt : i < as.length
  · refine Or.inr ⟨W.go i as[i] H (by simp [hlt]) e, I (i + 1), fun H' h' => ⟨as.length - (i + 1), by omega, rfl, hlt, h'⟩, fun x H' y => ?_⟩
    obtain ⟨e2, ri⟩ := W.yld i as[i] H x H' (by simp [hlt]) e y
    refine hs as[i] (List.getElem_mem hlt) x H' (fun y z H5 => ∃ kvs k, y = kV k ∧ H5 D = some (.dK kvs) ∧ kvs.length < sizeLine ∧ I (i + 1) (upd H5 D (.dK (putK kvs k z)))) (e.trans e2) ri fun z H4 e4 => ?_
    refine ⟨acc, .inl (key as[i]), rfl, (e2.trans e4) _ _ hacc, Evl.sz_lt (by omega), mut_same ((e.trans e2).trans e4) hD, _, upd_same, ?_, intKeys_put hik⟩
    have := length_putK acc (.inl (key as[i])) z
    omega
  · have ei : i = as.length := by omega
    subst ei
    exact Or.inl ⟨W.stop H e, hd D acc H hD e hacc hlen hik⟩
theorem rd_dcL {α : Type} {as : List α} {R : Rl α} [Mn R] {ta tk tv : TE} {g : TG} {σ : L2.St} {H : Hp} {Q : VK} {vs : List Nat} (key : α → Int) (hl : ∀ Z : VK, (∀ v H1, Same H H1 → LOf R H1 v as → Z v H1) → ta σ H Z) (hz : as.length ≤ 100000)
    (hs : ∀ a ∈ as, ∀ x H2 (Z : V → V → Hp → Prop), Same H H2 → R H2 x a → (∀ z H4, Same H2 H4 → Z (.int (key a)) z H4) → g x (wipe σ vs) H2 fun σ2 H3 => wipe σ2 vs = wipe σ vs ∧ tk σ2 H3 fun y H4 => tv σ2 H4 fun z H5 => Z y z H5)
    (hd : ∀ D kvs H2, H D = none → Same H H2 → H2 D = some (.dK kvs) → kvs.length ≤ as.length → IntKeys kvs → Q (.ref D) H2) : tDc (iList K ta) g tYes tk tv vs σ H Q := by
  refine hl _ fun v H1 e1 ⟨a, xs, ev, ha, hp⟩ => ⟨a, ev, ⟨_, Evl.sq_of ha⟩, ?_⟩
  exact dcI key (wk_list ha hp) hz (fun b hb x H2 Z e2 rr k => hs b hb x H2 Z (e1.trans e2) (Mn.mn e2 rr) k) fun D kvs H2 hD e2 h => hd D kvs H2 (e1.free hD) (e1.trans e2) h
def spSums : Sp := fun vs H Q _ => ∃ v ns, vs = [v] ∧ rInts H v ns ∧ ns.length ≤ 8 ∧ ∀ d kvs H', Same H H' → H' d = some (.dK kvs) → Q (.ref d) H'
theorem pow_le8 {i : Nat} (h : i ≤ 8) : 2 ^ i ≤ 256 := Nat.le_trans (Nat.pow_le_pow_right (by decide) h) (by decide)
theorem G_sums_of (T : Tx P K mg) : DefOk P w K mg base CX0 1 "sums_of" spSums := by
  obtain ⟨f, fd, hm, F⟩ := T.d_sums_of.ex
  have nd := sc_sums_of.nd
  refine ⟨f, fd, _, hm, F.kp, b_sums_of F, F.ok sc_sums_of (fun vs H Q E h => ?_) (fun cdv A outer s H vs Q E hr h => ⟨_, PSs.nox 
      (pss_cons (ps_set (i := 1) nd rfl (Or.inl rfl) (pe_disp (pps_cons pe_int pe_bl pps_nil) rfl rfl (by simp) (by decide))) 
      (pss_cons (ps_for PassesOwn.never rfl (pi_listK K (pv 0)) (pg_name (i := 2) nd rfl (Or.inr rfl)) 
          (pss_one (ps_expr (pe_bm PySem.F.plainAttrs_dict PySem.F.slot_dict_update PySem.F.type_dict_update mt_dupdate (pv 1) (pa_cons (pe_dc (own := [(("one" : Str), 3)]) rfl nd (pi_listK K (pe_callTy (call_list_dK rfl) rfl T.f_list (by decide +kernel) (pa_cons (pv 1) pa_nil))) (blkOk_by (own := [(("one" : Str), 3)]) (N := N_sums_of) (sc := defScope s_sums_of) (by decide +kernel)) (fun _ _ _ _ _ => pg_name (i := 3) nd rfl (Or.inl rfl)) (fun _ _ _ _ _ => pts_nil) (fun _ _ _ _ _ => (pe_op op_add (pv 3) (pv 2))) (fun _ _ _ _ _ => pe_bl)) pa_nil))))) 
      (pss_one (ps_ret (pv 1))))), ?_⟩)⟩
  · obtain ⟨v, ns, rfl, _⟩ := h; rfl
  · obtain ⟨v, ns, rfl, ⟨a, xs, rfl, ha, hp⟩, hl, q⟩ := h
    have hxs := ints_of hp
    refine seq_ (asg_ ?_)
    intro d hd
    refine ⟨upd_same, [(.inl 0, .bl true)], rfl, by decide, ?_⟩
    rw [upd_upd]
    refine nm_ ?_
    dsimp only
    have e0 : Same H (upd H d (.dK (mergeK [] [(Sum.inl 0, V.bl true)]))) := new_same hd
    refine seq_ (rd_forL rfl (e0 _ _ ha) (fun i σ H' => ∃ x2 kvs, σ = [some (.ref a), some (.ref d), x2, none] ∧ Same H H' ∧ H' d = some (.dK kvs) ∧ IntKeys kvs ∧ kvs.length ≤ 2 ^ i) ⟨none, _, rfl, e0, upd_same, ?_, ?_⟩ (fun i σ H' hi ⟨_, _, _, e, _⟩ => e _ _ ha) (fun i x σ H' hx hI => ?_) (fun σ H' hI => ?_))
    · intro p hp'
      have hp2 : p = (Sum.inl 0, V.bl true) := by simpa [mergeK, putK] using hp'
      rw [hp2]; exact ⟨0, rfl⟩
    · simp [mergeK, putK]
    · obtain ⟨x2, kvs, rfl, e, hdk, hik, hlen⟩ := hI
      have hix : i < 8 := by
        have h1 := (List.getElem?_eq_some_iff.mp hx).1
        have h2 := hp.len
        omega
      have hpow := pow_le8 (Nat.le_of_lt hix)
      obtain ⟨n, rfl⟩ : ∃ n : Int, x = .int n := by
        rw [hxs, List.getElem?_map] at hx
        cases hn : ns[i]? with
        | none => rw [hn] at hx; cases hx
        | some n => rw [hn] at hx; exact ⟨n, (Option.some.inj hx).symm⟩
      refine nm_ ?_
      refine ⟨_, rfl, Or.inr (Or.inr (Or.inl ⟨rfl, Or.inl ⟨_, hdk⟩⟩)), ?_⟩
      refine cons_ ?_
      have hkeys : ∃ js : List Int, kvs.map (fun kv => kV kv.1) = js.map V.int := by
        clear hdk hlen
        induction kvs with
        | nil => exact ⟨[], rfl⟩
        | cons p r ih =>
          obtain ⟨js, hj⟩ := ih fun z hz => hik z (List.mem_cons_of_mem _ hz)
          obtain ⟨i0, h0⟩ := hik p List.mem_cons_self
          exact ⟨i0 :: js, by rw [List.map_cons, List.map_cons, hj, h0]; rfl⟩
      obtain ⟨js, hjs⟩ := hkeys
      have hjl : js.length = kvs.length := by
        have := congrArg List.length hjs
        simpa using this.symm
      refine rd_dcL (R := rInt) (as := js) (fun j => j + n) (fun Z z => ⟨_, rfl, d, kvs, rfl, hdk, fun L hL => z _ _ (new_same hL) ⟨L, _, rfl, upd_same, by rw [hjs]; exact of_ints js⟩⟩) (by omega) (fun j hj y H2 Z e2 r k => ?_) (fun D kvs2 H2 hD e2 h2 hlen2 hik2 => ?_)
      · obtain rfl : y = V.int j := r
        exact ⟨rfl, _, rfl, _, rfl, _, _, rfl, rfl, k _ _ (Same.refl _)⟩
      · have hne : d ≠ D := by
          intro z
          subst z
          rw [hdk] at hD
          cases hD
        have hd2 := e2 _ _ hdk
        have hml := length_mergeK kvs2 kvs
        refine ⟨d, D, kvs, kvs2, rfl, rfl, hd2, h2, hne, Evl.sz_of (by omega), ?_⟩
        refine ⟨some (.int n), _, rfl, mut_same (e.trans e2) hd, upd_same, intKeys_merge hik hik2, ?_⟩
        have : 2 ^ (i + 1) = 2 ^ i * 2 := Nat.pow_succ 2 i
        omega
    · obtain ⟨x2, kvs, rfl, e, hdk, hik, hlen⟩ := hI
      dsimp only
      exact ⟨_, rfl, q d kvs H' e hdk⟩
end KB

-- part KC4
namespace KB
open PySem PySem.Spec PyProof.Rows L2
section
variable {K : PySem.W.Frag} {c : TT} {t u : TS} {D : Ends} {σ : L2.St} {H : Hp} {tv : TE} {f : Str} {x C dx : Addr} {fs : List (Str × V)}
theorem or_ {ta tb : TE} {Q : VK} (h : ta σ H fun x H1 => ∃ c, x = .bl c ∧ if c = true then Q (.bl true) H1 else tb σ H1 Q) : tOrV ta tb σ H Q := h
theorem dni_ {ta tb : TE} {Q : VK} (h : ta σ H fun y H1 => tb σ H1 fun x H2 => ∃ a o, x = .ref a ∧ DGet H2 a y o ∧ Q (.bl (!o.isSome)) H2) : tDNotIn ta tb σ H Q := h
theorem q_skip (hc : ∀ Z : Bool → Hp → Prop, (∀ H1, Same H H1 → Z false H1) → c σ H Z) (k : ∀ H1, Same H H1 → u D σ H1) : tSeq (tIfS c t tNext) u D σ H :=
  hc (fun b H1 => if b = true then t { D with nx := u D } σ H1 else u D σ H1) fun H1 e => ifF rfl (k H1 e)
theorem q_fld (Pv : V → Hp → Prop) (hx : σ[0]? = some (some (.ref x))) (hi : H x = some (.ins C dx fs)) (hC : Cls K C) (hn : NoAttr K C f) (hl : fs.length < 1000) (hv : ∀ Z : VK, (∀ y H1, Same H H1 → Pv y H1 → Z y H1) → tv σ H Z)
    (k : ∀ y H1, Same H H1 → Pv y H1 → u D σ (upd H1 x (.ins C dx (putF f y fs)))) : tSeq (sFld K (tVar 0) tv f) u D σ H :=
  hv (fun y H1 => ∃ v, σ[0]? = some (some v) ∧ ∃ a C dx fs, v = V.ref a ∧ H1 a = some (.ins C dx fs) ∧ Cls K C ∧ NoAttr K C f ∧ fs.length < 1000 ∧ u D σ (upd H1 a (.ins C dx (putF f y fs)))) fun y H1 e p => ⟨_, hx, x, C, dx, fs, rfl, e _ _ hi, hC, hn, hl, k y H1 e p⟩
theorem l_fld (Pv : V → Hp → Prop) (hx : σ[0]? = some (some (.ref x))) (hi : H x = some (.ins C dx fs)) (hC : Cls K C) (hn : NoAttr K C f) (hl : fs.length < 1000) (hv : ∀ Z : VK, (∀ y H1, Same H H1 → Pv y H1 → Z y H1) → tv σ H Z)
    (k : ∀ y H1, Same H H1 → Pv y H1 → D.nx σ (upd H1 x (.ins C dx (putF f y fs)))) : sFld K (tVar 0) tv f D σ H :=
  hv (fun y H1 => ∃ v, σ[0]? = some (some v) ∧ ∃ a C dx fs, v = V.ref a ∧ H1 a = some (.ins C dx fs) ∧ Cls K C ∧ NoAttr K C f ∧ fs.length < 1000 ∧ D.nx σ (upd H1 a (.ins C dx (putF f y fs)))) fun y H1 e p => ⟨_, hx, x, C, dx, fs, rfl, e _ _ hi, hC, hn, hl, k y H1 e p⟩
end
variable {P : Program} {w : World} {K : PySem.W.Frag} {mg : Str → Option Value} {base : Heap}
def closesB (ns : List Int) : Bool := decide (∀ x ∈ ns, 2 * x ≤ ns.sum)
def fRing (tp : Addr) (ns : List Int) (c : Bool) : List (Str × V) := [("lengths", .ref tp), ("total", .int ns.sum), ("closes", .bl (closesB ns)), ("is_clear", .bl c)]
def rRing (K : PySem.W.Frag) : Rl (List Int) := fun H v ns => ∃ x dx tp c, v = .ref x ∧ H x = some (.ins (CC K "Ring") dx (fRing tp ns c)) ∧ H tp = some (.tup (ns.map V.int))
instance : Mn (rRing K) := { mn := fun e ⟨x, dx, tp, c, h1, h2, h3⟩ => ⟨x, dx, tp, c, h1, e _ _ h2, e _ _ h3⟩ }
def spRingI (K : PySem.W.Frag) : Sp := fun vs H Q _ => ∃ x dx v ns, vs = [.ref x, v] ∧ H x = some (.ins (CC K "Ring") dx []) ∧ rInts H v ns ∧ LensOk ns ∧ ∀ H', Same (del H x) H' → rRing K H' (.ref x) ns → Q .non H'
theorem del_upd_same {H H1 : Hp} {x : Addr} {o : HO} (e : Same (del H x) H1) : Same (del H x) (upd H1 x o) := mut_same e del_same
theorem G_Ring_init (T : Tx P K mg) : ∃ fd, Binds K fd ["self", "lengths"] [] ∧ FnOk P w K mg base CX0 4 (CI K "Ring") fd ["self", "lengths"] (spRingI K) := by
  obtain ⟨fd, F⟩ := T.m_Ring___init.ex
  have nd := sc_Ring___init.nd
  refine ⟨fd, b_Ring___init F, F.ok sc_Ring___init (fun vs H Q E h => ?_) (fun cdv A outer s H vs Q E hr h => ⟨_, PSs.nox 
      (pss_cons (ps_if (pt_not (pt_val (pe_callD (G_are_lengths T) (hr.mono (by decide)) rfl pass0 (pa_cons (pv 1) pa_nil)))) 
          (pss_one ps_never) pss_nil) 
      (pss_cons (ps_if (pt_cmpR op_lt (pe_callB (call_lenK K) rfl T.f_len (by decide +kernel) (pa_cons (pv 1) pa_nil)) (pe_gint T.i_LEAST_BARS rfl) (nomark _)) 
          (pss_one ps_never) pss_nil) 
      (pss_cons (ps_if (pt_cmpR op_gt (pe_callB (call_lenK K) rfl T.f_len (by decide +kernel) (pa_cons (pv 1) pa_nil)) (pe_gint T.i_MOST_BARS rfl) (nomark _)) 
          (pss_one ps_never) pss_nil) 
      (pss_cons (ps_fld (pv 0) (pe_callTy (call_tupleK K) rfl T.f_tuple (by decide +kernel) (pa_cons (pv 1) pa_nil)) rfl) 
      (pss_cons (ps_fld (pv 0) (pe_callB (cr_sumK K rfl) rfl T.f_sum (by decide +kernel) (pa_cons (pv 1) pa_nil)) rfl) 
      (pss_cons (ps_fld (pv 0) (pe_cmpR op_le (pe_op op_mul pe_int (pe_callB (cr_max rfl) rfl T.f_max (by decide +kernel) (pa_cons (pv 1) pa_nil))) (pe_fldK K (pv 0) rfl) (nomark _)) rfl) 
      (pss_one (ps_fld (pv 0) (pe_or (pe_cmpR op_eq (pe_op op_mod (pe_fldK K (pv 0) rfl) pe_int) pe_int (nomark _)) (pe_one (pe_cmp (pc_dnotin (hu1 hr) (pe_op op_fdiv (pe_fldK K (pv 0) rfl) pe_int) (pe_callD (G_sums_of T) (hr.mono (by decide)) rfl pass0 (pa_cons (pv 1) pa_nil))) rfl))) rfl)))))))), ?_⟩)⟩
  · obtain ⟨x, dx, v, ns, rfl, _⟩ := h; rfl
  · obtain ⟨x, dx, v, ns, rfl, hx, ⟨a, xs, rfl, ha, hp⟩, hok, q⟩ := h
    have hne : a ≠ x := ne_of ha hx (fun z => nomatch z)
    have ha0 : del H x a = some (.lst xs) := by rw [del_ne hne]; exact ha
    have hxs := ints_of hp
    subst hxs
    have hl1 : ((ns.map V.int).length : Int) = (ns.length : Int) := by rw [List.length_map]
    refine q_skip (fun Z z => ⟨_, rfl, ⟨_, ns, rfl, ⟨a, _, rfl, ha, of_ints ns⟩, hok, fun H' e' => ⟨true, rfl, z H' e'⟩⟩⟩) fun H1 e1 => ?_
    have ha1 := e1 _ _ ha
    refine q_skip (fun Z z => ⟨_, rfl, a, _, rfl, Or.inl (Evl.sq_of ha1), _, 3, rfl, rfl, false, congrArg V.bl (decide_eq_false (by rw [hl1]; have := hok.2.1; omega)), z _ (Same.refl _)⟩) fun H2 e2 => ?_
    have ha2 := e2 _ _ ha1
    refine q_skip (fun Z z => ⟨_, rfl, a, _, rfl, Or.inl (Evl.sq_of ha2), _, 8, rfl, rfl, false, congrArg V.bl (decide_eq_false (by rw [hl1]; have := hok.2.2; omega)), z _ (Same.refl _)⟩) fun H3 e3 => ?_
    have e03 : Same H H3 := (e1.trans e2).trans e3
    refine q_fld (fun y H4 => ∃ tp, y = .ref tp ∧ tp ≠ x ∧ H4 tp = some (.tup (ns.map V.int))) rfl (e03 _ _ hx) T.cl_Ring T.na_Ring_lengths (by decide) (fun Z z => ⟨_, rfl, a, _, rfl, Or.inl ⟨Evl.sq_of (e03 _ _ ha), fun l hl => z _ _ (new_same hl) ⟨l, rfl, (ne_of_none (e03 _ _ hx) hl).symm, upd_same⟩⟩⟩) fun y H4 e4 ⟨tp, ey, htx, htp⟩ => ?_
    subst ey
    have f4 : Same (del H x) (upd H4 x (.ins (CC K "Ring") dx (putF "lengths" (V.ref tp) []))) := del_upd_same (fun b o h => e4 _ _ (e03 _ _ (del_in _ _ h)))
    have t4 : upd H4 x (.ins (CC K "Ring") dx (putF "lengths" (V.ref tp) [])) tp = some (.tup (ns.map V.int)) := by rw [upd_ne htx]; exact htp
    have g4 : upd H4 x (.ins (CC K "Ring") dx (putF "lengths" (V.ref tp) [])) x = some (.ins (CC K "Ring") dx [("lengths", V.ref tp)]) := upd_same
    generalize upd H4 x (.ins (CC K "Ring") dx (putF "lengths" (V.ref tp) [])) = G4 at f4 t4 g4 ⊢
    have hmax : ∀ m : Int, m ∈ ns → (∀ y, y ∈ ns → y ≤ m) → decide (2 * m ≤ ns.sum) = closesB ns := fun m hm hy => by
      unfold closesB
      refine decide_eq_decide.mpr ⟨fun h z hz => ?_, fun h => h m hm⟩
      have := hy z hz
      omega
    have hfl : ∀ {s1 : Str} {v1 : V} {fs : List (Str × V)} {Hn : Hp} {Z : VK} {σ : L2.St}, σ[0]? = some (some (.ref x)) → Hn x = some (.ins (CC K "Ring") dx fs) → NoAttr K (CC K "Ring") s1 → fs.lookup s1 = some v1 → Z v1 Hn → tFld K (tVar 0) s1 σ Hn Z := fun h5 h1 h2 h3 h4 => ⟨_, h5, x, _, dx, _, _, rfl, h1, T.cl_Ring, h2, h3, h4⟩
    refine q_fld (fun y H5 => y = .int ns.sum) rfl g4 T.cl_Ring T.na_Ring_total (by simp) (fun Z z => ⟨_, rfl, a, ns, rfl, Evl.sq_of (f4 _ _ ha0), z _ _ (Same.refl _) rfl⟩) fun y H5 e5 ey => ?_
    subst ey
    have f5 := del_upd_same (o := .ins (CC K "Ring") dx (putF "total" (V.int ns.sum) [("lengths", V.ref tp)])) (fun b o h => e5 _ _ (f4 _ _ h))
    have t5 : upd H5 x (.ins (CC K "Ring") dx (putF "total" (V.int ns.sum) [("lengths", V.ref tp)])) tp = some (.tup (ns.map V.int)) := by rw [upd_ne htx]; exact e5 _ _ t4
    have g5 : upd H5 x (.ins (CC K "Ring") dx (putF "total" (V.int ns.sum) [("lengths", V.ref tp)])) x = some (.ins (CC K "Ring") dx [("lengths", V.ref tp), ("total", V.int ns.sum)]) := by rw [upd_same]; rfl
    generalize upd H5 x (.ins (CC K "Ring") dx (putF "total" (V.int ns.sum) [("lengths", V.ref tp)])) = G5 at f5 t5 g5 ⊢
    refine q_fld (fun y H6 => y = .bl (closesB ns)) rfl g5 T.cl_Ring T.na_Ring_closes (by simp) (fun Z z => ?_) fun y H6 e6 ey => ?_
    · refine ⟨_, rfl, a, ns, rfl, Evl.sq_of (f5 _ _ ha0), by have := hok.2.1; omega, fun m hm hy => ?_⟩
      refine ⟨2, m, rfl, rfl, Or.inl (by omega), ?_⟩
      refine hfl rfl g5 T.na_Ring_total rfl ?_
      refine ⟨_, _, rfl, rfl, z _ _ (Same.refl _) (congrArg V.bl (hmax m hm hy))⟩
    subst ey
    have f6 := del_upd_same (o := .ins (CC K "Ring") dx (putF "closes" (V.bl (closesB ns)) [("lengths", V.ref tp), ("total", V.int ns.sum)])) (fun b o h => e6 _ _ (f5 _ _ h))
    have t6 : upd H6 x (.ins (CC K "Ring") dx (putF "closes" (V.bl (closesB ns)) [("lengths", V.ref tp), ("total", V.int ns.sum)])) tp = some (.tup (ns.map V.int)) := by rw [upd_ne htx]; exact e6 _ _ t5
    have g6 : upd H6 x (.ins (CC K "Ring") dx (putF "closes" (V.bl (closesB ns)) [("lengths", V.ref tp), ("total", V.int ns.sum)])) x = some (.ins (CC K "Ring") dx [("lengths", V.ref tp), ("total", V.int ns.sum), ("closes", V.bl (closesB ns))]) := by rw [upd_same]; rfl
    generalize upd H6 x (.ins (CC K "Ring") dx (putF "closes" (V.bl (closesB ns)) [("lengths", V.ref tp), ("total", V.int ns.sum)])) = G6 at f6 t6 g6 ⊢
    refine l_fld (fun y H7 => ∃ c, y = .bl c) rfl g6 T.cl_Ring T.na_Ring_is_clear (by simp) (fun Z z => ?_) fun y H7 e7 ⟨c, ey⟩ => ?_
    · refine or_ (op_ (op_ (hfl rfl g6 T.na_Ring_total rfl ?_)))
      refine ⟨_, 2, rfl, rfl, (by show (0:Int) < 2; decide), rfl, _, rfl, ?_⟩
      by_cases hm : decide (V.int (ns.sum % 2) = V.int 1) = true
      · exact ifT hm (z _ _ (Same.refl _) ⟨true, rfl⟩)
      · refine ifF (by simpa using hm) ?_
        refine dni_ (op_ (hfl rfl g6 T.na_Ring_total rfl ?_))
        refine ⟨_, 2, rfl, rfl, ⟨by decide, by decide⟩, ?_⟩
        refine ⟨_, rfl, _, ns, rfl, ⟨a, _, rfl, f6 _ _ ha0, of_ints ns⟩, hok.2.2, fun d kvs H' e' hd => ?_⟩
        exact ⟨d, _, rfl, DGet.k (k := .inl (ns.sum / 2)) hd, z _ _ e' ⟨_, rfl⟩⟩
    subst ey
    refine q _ (del_upd_same (fun b o h => e7 _ _ (f6 _ _ h))) ⟨x, dx, tp, c, rfl, ?_, ?_⟩
    · rw [upd_same]; rfl
    · rw [upd_ne htx]; exact e7 _ _ t6
theorem M_Ring (T : Tx P K mg) : MakeOk P w K mg base CX0 4 "Ring" (CC K "Ring") (spRingI K) := by
  obtain ⟨fd, hb, F⟩ := G_Ring_init (P := P) (w := w) (base := base) T
  exact ⟨_, fd, _, T.g_Ring, T.mk_Ring, hb, F⟩
/-- Ring(..) -/
theorem rd_Ring {H : Hp} {v : V} {ns : List Int} {Q : VK} (hv : rInts H v ns) (hok : LensOk ns) (k : ∀ v' H', Same H H' → rRing K H' v' ns → Q v' H') : ∀ x dx, H x = none → H dx = none → dx ≠ x → spRingI K (.ref x :: ([v] ++ [])) (upd (upd H dx (.own x)) x (.ins (CC K "Ring") dx [])) (fun v' H2 => v' = .non ∧ Q (.ref x) H2) E0 := by
  intro x dx hx hdx hne
  have e1 : Same H (upd (upd H dx (.own x)) x (.ins (CC K "Ring") dx [])) := mut_same (new_same hdx) hx
  refine ⟨x, dx, v, ns, rfl, upd_same, Mn.mn e1 hv, hok, fun H' e' hr => ⟨rfl, k _ _ (fun b o hb => e' _ _ ?_) hr⟩⟩
  rw [del_ne (ne_of_none hb hx)]
  exact e1 _ _ hb
end KB

-- part KC5
namespace KB
open PySem PySem.Spec PyProof.Rows L2
variable {P : Program} {w : World} {K : PySem.W.Frag} {mg : Str → Option Value} {base : Heap}
theorem perm_sum {xs ys : List Int} (h : xs.Perm ys) : xs.sum = ys.sum := by
  induction h with
  | nil => rfl
  | cons x _ ih => simp only [List.sum_cons, ih]
  | swap x y l => simp only [List.sum_cons]; omega
  | trans _ _ ih1 ih2 => exact ih1.trans ih2
def manyOf (ss : List (List Pr)) : Int := (((right ss).map lotOf).map fun l => (l.length : Int)).sum
theorem lens_sum {α : Type} : ∀ ss : List (List α), (ss.map fun l => (l.length : Int)).sum = (ss.flatten.length : Int)
  | [] => rfl
  | s :: ss => by
    rw [List.map_cons, List.sum_cons, lens_sum ss, List.flatten_cons, List.length_append]
    omega
theorem manyOf_eq (ss : List (List Pr)) : manyOf ss = (ss.flatten.length : Int) := by
  unfold manyOf
  rw [List.map_map, perm_sum ((right_perm ss).map _), List.map_map, ← lens_sum]
  congr 1
  refine List.map_congr_left fun st _ => ?_
  show ((lotOf (norm st)).length : Int) = _
  unfold lotOf
  rw [List.length_map, norm_len]
abbrev rLots : Rl (List (List Int)) := TOf rIntT
def fLine (ts tl : V) (ss : List (List Pr)) : List (Str × V) := [("strands", ts), ("lots", tl), ("many", .int (manyOf ss))]
def rLine (K : PySem.W.Frag) : Rl (List (List Pr)) := fun H v ss => ∃ x dx ts tl, v = .ref x ∧ H x = some (.ins (CC K "LineUp") dx (fLine ts tl ss)) ∧ rRows H ts (right ss) ∧ rLots H tl ((right ss).map lotOf)
instance : Mn (rLine K) := { mn := fun e ⟨x, dx, tp, c, h1, h2, h3, h4⟩ => ⟨x, dx, tp, c, h1, e _ _ h2, Mn.mn e h3, Mn.mn e h4⟩ }
def spLineI (K : PySem.W.Frag) : Sp := fun vs H Q _ => ∃ x dx v n ss, vs = [.ref x, v] ∧ H x = some (.ins (CC K "LineUp") dx []) ∧ rStrands H v ss ∧ StrandsOk n ss ∧ ∀ H', Same (del H x) H' → rLine K H' (.ref x) ss → Q .non H'
/-- what leans on no instance is kept where one is changed -/
class In {α : Type} (R : Rl α) : Prop extends Mn R where
  ind : ∀ {H : Hp} {v : V} {a : α} {x C dx : Addr} {fs : List (Str × V)}, H x = some (.ins C dx fs) → R H v a → R (del H x) v a
theorem ins_del {H : Hp} {a x C dx : Addr} {fs : List (Str × V)} {o : HO} (hD : H x = some (.ins C dx fs)) (ho : ∀ C dx fs, o ≠ .ins C dx fs) (h : H a = some o) : del H x a = some o := by
  have hne : a ≠ x := ne_of h hD (ho _ _ _)
  rw [del_ne hne]
  exact h
instance : In rInt := { mn := fun _ h => h, ind := fun _ h => h }
instance : In rPair := { mn := Mn.mn, ind := fun hD ⟨a, h1, h2⟩ => ⟨a, h1, ins_del hD (fun _ _ _ z => nomatch z) h2⟩ }
instance instInL {α : Type} (R : Rl α) [In R] : In (LOf R) := { mn := Mn.mn, ind := fun hD ⟨a, vs, h1, h2, h3⟩ => ⟨a, vs, h1, ins_del hD (fun _ _ _ z => nomatch z) h2, h3.mapF fun _ _ => In.ind hD⟩ }
instance instInT {α : Type} (R : Rl α) [In R] : In (TOf R) := { mn := Mn.mn, ind := fun hD ⟨a, vs, h1, h2, h3⟩ => ⟨a, vs, h1, ins_del hD (fun _ _ _ z => nomatch z) h2, h3.mapF fun _ _ => In.ind hD⟩ }
theorem rd_fld {C : Addr} {i : Nat} {s1 : Str} {v1 : V} {fs : List (Str × V)} {Hn : Hp} {Z : VK} {σ : L2.St} {x dx : Addr} (hC : Cls K C) (h5 : σ[i]? = some (some (.ref x))) (h1 : Hn x = some (.ins C dx fs)) (h2 : NoAttr K C s1) (h3 : fs.lookup s1 = some v1) (h4 : Z v1 Hn) : tFld K (tVar i) s1 σ Hn Z := ⟨_, h5, x, _, dx, _, _, rfl, h1, hC, h2, h3, h4⟩
theorem G_LineUp_init (T : Tx P K mg) : ∃ fd, Binds K fd ["self", "strands"] [] ∧ FnOk P w K mg base CX0 7 (CI K "LineUp") fd ["self", "strands"] (spLineI K) := by
  obtain ⟨fd, F⟩ := T.m_LineUp___init.ex
  have nd := sc_LineUp___init.nd
  refine ⟨fd, b_LineUp___init F, F.ok sc_LineUp___init (fun vs H Q E h => ?_) (fun cdv A outer s H vs Q E hr h => ⟨_, PSs.nox 
      (pss_cons (ps_if (pt_not (pt_val (pe_callD (G_are_strands T) (hr.mono (by decide)) rfl pass0 (pa_cons (pv 1) pa_nil)))) 
          (pss_one ps_never) pss_nil) 
      (pss_cons (ps_fld (pv 0) (pe_callTy (call_tupleK K) rfl T.f_tuple (by decide +kernel) (pa_cons (pe_callB (cr_sortedD hr.units) rfl T.f_sorted (by decide +kernel) (pa_cons (pe_lc (own := [(("pairs" : Str), 2)]) rfl nd (pi_listK K (pv 1)) (blkOk_by (own := [(("pairs" : Str), 2)]) (N := N_LineUp___init) (sc := defScope s_LineUp___init) (by decide +kernel)) (fun _ _ _ _ _ => pg_name (i := 2) nd rfl (Or.inl rfl)) (fun _ _ _ _ _ => pts_nil) (fun _ _ _ _ _ => (pe_callD (G_strand_of T) (hr.mono (by decide)) rfl pass0 (pa_cons (pv 2) pa_nil)))) pa_nil)) pa_nil)) rfl) 
      (pss_cons (ps_fld (pv 0) (pe_callTy (call_tupleK K) rfl T.f_tuple (by decide +kernel) (pa_cons (pe_lc (own := [(("strand" : Str), 3)]) rfl nd (pi_tupK K (pe_fldK K (pv 0) rfl)) (blkOk_by (own := [(("strand" : Str), 3)]) (N := N_LineUp___init) (sc := defScope s_LineUp___init) (by decide +kernel)) (fun _ _ _ _ _ => pg_name (i := 3) nd rfl (Or.inl rfl)) (fun _ _ _ _ _ => pts_nil) (fun _ _ _ _ _ => (pe_callD (G_lot_of T) (hr.mono (by decide)) rfl pass0 (pa_cons (pv 3) pa_nil)))) pa_nil)) rfl) 
      (pss_one (ps_fld (pv 0) (pe_callB (cr_sumK K rfl) rfl T.f_sum (by decide +kernel) (pa_cons (pe_lc (own := [(("lot" : Str), 4)]) rfl nd (pi_tupK K (pe_fldK K (pv 0) rfl)) (blkOk_by (own := [(("lot" : Str), 4)]) (N := N_LineUp___init) (sc := defScope s_LineUp___init) (by decide +kernel)) (fun _ _ _ _ _ => pg_name (i := 4) nd rfl (Or.inl rfl)) (fun _ _ _ _ _ => pts_nil) (fun _ _ _ _ _ => (pe_callB (call_lenK K) rfl T.f_len (by decide +kernel) (pa_cons (pv 4) pa_nil)))) pa_nil)) rfl))))), ?_⟩)⟩
  · obtain ⟨x, dx, v, n, ss, rfl, _⟩ := h; rfl
  · obtain ⟨x, dx, v, n, ss, rfl, hx, hv, hok, q⟩ := h
    have hv0 : rStrands (del H x) v ss := In.ind hx hv
    refine q_skip (fun Z z => ⟨_, rfl, ⟨_, n, ss, rfl, hv, hok, fun H' e' => ⟨true, rfl, z H' e'⟩⟩⟩) fun H1 e1 => ?_
    have hlen := hok.len
    refine q_fld (fun y H2 => rRows H2 y (right ss)) rfl (e1 _ _ hx) T.cl_LineUp T.na_LineUp_strands (by decide) (fun Z z => ?_) fun y H2 e2 hy => ?_
    · refine cb1 (cb1 (rd_lcL (R := rStrand) (RO := rRow) (as := ss) norm (fun Z' z' => ⟨_, rfl, z' _ _ (Same.refl _) (Mn.mn e1 hv)⟩) (by omega) (fun st hst y H2 Z' e2 r k => ⟨rfl, ?_⟩) (fun v2 H2 e2 h2 => ?_)))
      · exact ⟨_, rfl, ⟨y, st, rfl, r, hok.strand hst, fun v' H' e' h' => k _ _ e' h'⟩⟩
      · refine sort_out (R := rRow) h2 (al_rows (ss.map norm)) (so_rows fun st hst => ?_) (fun st hst => dep_row st) fun v' H3 e3 h3 => ?_
        · obtain ⟨st0, hs0, rfl⟩ := List.mem_map.mp hst
          intro z
          have := norm_len st0
          rw [z] at this
          exact (hok.1 st0 hs0).1 (List.length_eq_zero_iff.mp this.symm)
        · exact rd_tuple (R := rRow) h3 fun v4 H4 e4 h4 => z _ _ ((e2.trans e3).trans e4) h4
    have hx2 := e2 _ _ (e1 _ _ hx)
    have hy0 : rRows (del H2 x) y (right ss) := In.ind hx2 hy
    have f2 : Same (del H x) (upd H2 x (.ins (CC K "LineUp") dx (putF "strands" y []))) := del_upd_same (fun b o h => e2 _ _ (e1 _ _ (del_in _ _ h)))
    have g2 : upd H2 x (.ins (CC K "LineUp") dx (putF "strands" y [])) x = some (.ins (CC K "LineUp") dx [("strands", y)]) := upd_same
    have t2 : rRows (upd H2 x (.ins (CC K "LineUp") dx (putF "strands" y []))) y (right ss) := Mn.mn (del_upd_same (del_in)) hy0
    generalize upd H2 x (.ins (CC K "LineUp") dx (putF "strands" y [])) = G2 at f2 g2 t2 ⊢
    have hrl : (right ss).length = ss.length := by rw [(right_perm ss).length_eq, List.length_map]
    refine q_fld (fun z H3 => rLots H3 z ((right ss).map lotOf)) rfl g2 T.cl_LineUp T.na_LineUp_lots (by simp) (fun Z z => ?_) fun yl H3 e3 hl => ?_
    · refine cb1 (rd_lcU (R := rRow) (RO := rIntT) (as := right ss) lotOf (fun Z' z' => rd_fld T.cl_LineUp rfl g2 T.na_LineUp_strands rfl (z' _ _ (Same.refl _) t2)) (by omega) (fun st hst y H2 Z' e2 r k => ⟨rfl, ?_⟩) (fun v2 H2 e2 h2 => ?_))
      · refine ⟨_, rfl, ⟨y, st, rfl, r, ?_, fun v' H' e' h' => k _ _ e' h'⟩⟩
        obtain ⟨st0, hs0, rfl⟩ := List.mem_map.mp ((right_perm ss).mem_iff.mp hst)
        rw [norm_len]
        exact (hok.strand hs0).2.1
      · exact rd_tuple (R := rIntT) h2 fun v4 H4 e4 h4 => z _ _ (e2.trans e4) h4
    have hx3 := e3 _ _ g2
    have hl0 : rLots (del H3 x) yl ((right ss).map lotOf) := In.ind hx3 hl
    have t3' : rRows (del H3 x) y (right ss) := In.ind hx3 (Mn.mn e3 t2)
    have f3 : Same (del H x) (upd H3 x (.ins (CC K "LineUp") dx (putF "lots" yl [("strands", y)]))) := del_upd_same (fun b o h => e3 _ _ (f2 _ _ h))
    have g3 : upd H3 x (.ins (CC K "LineUp") dx (putF "lots" yl [("strands", y)])) x = some (.ins (CC K "LineUp") dx [("strands", y), ("lots", yl)]) := by rw [upd_same]; rfl
    have t3 : rRows (upd H3 x (.ins (CC K "LineUp") dx (putF "lots" yl [("strands", y)]))) y (right ss) := Mn.mn (del_upd_same (del_in)) t3'
    have l3 : rLots (upd H3 x (.ins (CC K "LineUp") dx (putF "lots" yl [("strands", y)]))) yl ((right ss).map lotOf) := Mn.mn (del_upd_same (del_in)) hl0
    generalize upd H3 x (.ins (CC K "LineUp") dx (putF "lots" yl [("strands", y)])) = G3 at f3 g3 t3 l3 ⊢
    refine l_fld (fun z H4 => z = .int (manyOf ss)) rfl g3 T.cl_LineUp T.na_LineUp_many (by simp) (fun Z z => ?_) fun yn H4 e4 hn => ?_
    · refine cb1 (rd_lcU (R := rIntT) (RO := rInt) (as := (right ss).map lotOf) (fun l => (l.length : Int)) (fun Z' z' => rd_fld T.cl_LineUp rfl g3 T.na_LineUp_lots rfl (z' _ _ (Same.refl _) l3)) (by rw [List.length_map]; omega) (fun st hst y H2 Z' e2 r k => ⟨rfl, ?_⟩) (fun v2 H2 e2 h2 => ?_))
      · obtain ⟨b, ys, rfl, hb, hp⟩ := r
        exact ⟨_, rfl, b, ys, rfl, Or.inr (Evl.st_of hb), k _ _ (Same.refl _) (congrArg V.int (congrArg Int.ofNat hp.len))⟩
      · obtain ⟨D, ys, rfl, hD, hp⟩ := h2
        exact ⟨D, _, rfl, Evl.sq_of (ints_of hp ▸ hD), z _ _ e2 rfl⟩
    subst hn
    have hx4 := e4 _ _ g3
    have t4 : rRows (del H4 x) y (right ss) := In.ind hx4 (Mn.mn e4 t3)
    have l4 : rLots (del H4 x) yl ((right ss).map lotOf) := In.ind hx4 (Mn.mn e4 l3)
    refine q _ (del_upd_same (fun b o h => e4 _ _ (f3 _ _ h))) ⟨x, dx, y, yl, rfl, ?_, Mn.mn (del_upd_same (del_in)) t4, Mn.mn (del_upd_same (del_in)) l4⟩
    rw [upd_same]; rfl
theorem M_LineUp (T : Tx P K mg) : MakeOk P w K mg base CX0 7 "LineUp" (CC K "LineUp") (spLineI K) := by
  obtain ⟨fd, hb, F⟩ := G_LineUp_init (P := P) (w := w) (base := base) T
  exact ⟨_, fd, _, T.g_LineUp, T.mk_LineUp, hb, F⟩
/-- LineUp(..) -/
theorem rd_Line {H : Hp} {v : V} {n : Nat} {ss : List (List Pr)} {Q : VK} (hv : rStrands H v ss) (hok : StrandsOk n ss) (k : ∀ v' H', Same H H' → rLine K H' v' ss → Q v' H') : ∀ x dx, H x = none → H dx = none → dx ≠ x → spLineI K (.ref x :: ([v] ++ [])) (upd (upd H dx (.own x)) x (.ins (CC K "LineUp") dx [])) (fun v' H2 => v' = .non ∧ Q (.ref x) H2) E0 := by
  intro x dx hx hdx hne
  have e1 : Same H (upd (upd H dx (.own x)) x (.ins (CC K "LineUp") dx [])) := mut_same (new_same hdx) hx
  refine ⟨x, dx, v, n, ss, rfl, upd_same, Mn.mn e1 hv, hok, fun H' e' hr => ⟨rfl, k _ _ (fun b o hb => e' _ _ ?_) hr⟩⟩
  rw [del_ne (ne_of_none hb hx)]
  exact e1 _ _ hb
end KB

-- part KC6
namespace KB
open PySem PySem.Spec PyProof.Rows L2
variable {P : Program} {w : World} {K : PySem.W.Frag} {mg : Str → Option Value} {base : Heap}
def NetOk (ns : List Int) (st : List Pr) : Prop := st.length ≤ 8 ∧ ∀ p ∈ st, (0 ≤ p.1 ∧ p.1 < ns.length) ∧ (p.2 = 1 ∨ p.2 = -1)
def spNet (K : PySem.W.Frag) : Sp := fun vs H Q _ => ∃ vr v ns st, vs = [vr, v] ∧ rRing K H vr ns ∧ rRow H v st ∧ NetOk ns st ∧ ∀ H', Same H H' → Q (.int (netOf ns st)) H'
theorem len_at {ns : List Int} {i : Int} (h : 0 ≤ i ∧ i < ns.length) : atI (ns.map V.int) i = some (.int (ns.getD i.toNat 0)) := by
  obtain ⟨j, rfl⟩ : ∃ j : Nat, i = (j : Int) := ⟨i.toNat, by omega⟩
  refine atI_nat ?_
  have hl : j < ns.length := by omega
  rw [List.getElem?_map, List.getElem?_eq_getElem hl, List.getD_eq_getElem?_getD, Int.toNat_natCast, List.getElem?_eq_getElem hl]
  rfl
theorem G_net_of (T : Tx P K mg) : DefOk P w K mg base CX0 1 "net_of" (spNet K) := by
  obtain ⟨f, fd, hm, F⟩ := T.d_net_of.ex
  have nd := sc_net_of.nd
  refine ⟨f, fd, _, hm, F.kp, b_net_of F, F.ok sc_net_of (fun vs H Q E h => ?_) (fun cdv A outer s H vs Q E hr h => ⟨_, PSs.nox 
      (pss_one (ps_ret (pe_callB call_abs rfl T.f_abs (by decide +kernel) (pa_cons (pe_callB (cr_sumK K rfl) rfl T.f_sum (by decide +kernel) (pa_cons (pe_lc (own := [(("bar" : Str), 2), (("sign" : Str), 3)]) rfl nd (pi_tupK K (pv 1)) (blkOk_by (own := [(("bar" : Str), 2), (("sign" : Str), 3)]) (N := N_net_of) (sc := defScope s_net_of) (by decide +kernel)) (fun _ _ _ _ _ => pg_tupK K (n := 2) rfl (pgs_cons (pg_name (i := 2) nd rfl (Or.inl rfl)) (pgs_cons (pg_name (i := 3) nd rfl (Or.inl rfl)) pgs_nil))) (fun _ _ _ _ _ => pts_nil) (fun _ _ _ _ _ => (pe_op op_mul (pe_ix (ix_tupK K) (pe_fldK K (pv 0) rfl) (pv 2) (fun _ _ => rfl)) (pv 3)))) pa_nil)) pa_nil)))), ?_⟩)⟩
  · obtain ⟨vr, v, ns, st, rfl, _⟩ := h; rfl
  · obtain ⟨vr, v, ns, st, rfl, ⟨x, dx, tp, c, rfl, hx, ht⟩, hv, hok, q⟩ := h
    refine ret_ (cb1 (cb1 (rd_lcU (R := rPair) (RO := rInt) (as := st) (fun p => ns.getD p.1.toNat 0 * p.2) (fun Z z => ⟨_, rfl, z _ _ (Same.refl _) hv⟩) (by have := hok.1; omega) (fun p hp y H2 Z e2 r k => ?_) (fun v2 H2 e2 h2 => ?_))))
    · have hpk := hok.2 p hp
      refine rd_pairT r ⟨rfl, op_ (op_ (rd_fld T.cl_Ring rfl (e2 _ _ hx) T.na_Ring_lengths rfl ⟨_, rfl, tp, _, p.1, _, rfl, rfl, Evl.st_of (e2 _ _ ht), len_at hpk.1, ?_⟩))⟩
      exact ⟨_, rfl, _, _, rfl, rfl, Or.inr (by omega), k _ _ (Same.refl _) rfl⟩
    · obtain ⟨D, ys, rfl, hD, hp⟩ := h2
      exact ⟨D, _, rfl, Evl.sq_of (ints_of hp ▸ hD), _, rfl, q _ e2⟩
/-- of an enumeration, with a test -/
theorem rd_lcE {β : Type} {as : List Int} {RO : Rl β} [Tn RO] {ta : TE} {tt : TT} {te : TE} {σ : L2.St} {H : Hp} {Q : VK} {vs : List Nat} {i j : Nat} (p : Int × Nat → Bool) (f : Int × Nat → β) (hl : ∀ Z : VK, (∀ v H1, Same H H1 → LOf rInt H1 v as → Z v H1) → ta σ H Z) (hz : as.length ≤ 100000)
    (hw : ∀ x y, wipe (((wipe σ vs).set i (some x)).set j (some y)) vs = wipe σ vs)
    (hs : ∀ a ∈ as.zipIdx, ∀ H2 (Zt : VK) (Zf : Hp → Prop), Same H H2 → (p a = true → ∀ y H4, Same H2 H4 → RO H4 y (f a) → Zt y H4) → (p a = false → ∀ H4, Same H2 H4 → Zf H4) →
      tt (((wipe σ vs).set i (some (.int (a.2 : Nat)))).set j (some (.int a.1))) H2 fun b H4 => if b = true then te (((wipe σ vs).set i (some (.int (a.2 : Nat)))).set j (some (.int a.1))) H4 Zt else Zf H4)
    (hd : ∀ v H2, Same H H2 → LOf RO H2 v ((as.zipIdx.filter p).map f) → Q v H2) : tLc (iEnum K (tCons ta tNil)) (gTup K 2 (gCons (gName i) (gCons (gName j) gNil))) tt te vs σ H Q := by
  refine hl _ fun v H1 e1 ⟨a, xs, ev, ha, hp⟩ => ⟨a, xs, by rw [ev], Evl.sq_of ha, ?_⟩
  refine lcF p f (wk_enum ha hp) (by rw [List.length_zipIdx]; exact hz) (fun b hb x H2 Zt Zf e2 rr kt kf => ?_) fun v H2 e2 h => hd v H2 (e1.trans e2) h
  obtain ⟨T, y, rfl, hT, hy⟩ := rr
  obtain rfl : y = V.int b.1 := hy
  exact ⟨T, _, rfl, Evl.st_of hT, rfl, _, _, rfl, _, _, rfl, rfl, hw _ _, hs b hb H2 Zt Zf (e1.trans e2) kt kf⟩
def greats (ns : List Int) : List Int := (ns.zipIdx.filter fun b => decide (ns.sum < 2 * b.1)).map fun b => ((b.2 : Nat) : Int)
def spotV (l : List Int) : V := match l with
  | [] => .non
  | i :: _ => .int i
def spGreat : Sp := fun vs H Q _ => ∃ v ns, vs = [v] ∧ rInts H v ns ∧ ns.length ≤ 8 ∧ ∀ H', Same H H' → Q (spotV (greats ns)) H'
theorem G_great_spot (T : Tx P K mg) : DefOk P w K mg base CX0 1 "great_spot" spGreat := by
  obtain ⟨f, fd, hm, F⟩ := T.d_great_spot.ex
  have nd := sc_great_spot.nd
  refine ⟨f, fd, _, hm, F.kp, b_great_spot F, F.ok sc_great_spot (fun vs H Q E h => ?_) (fun cdv A outer s H vs Q E hr h => ⟨_, PSs.nox 
      (pss_cons (ps_setLc (i := 1) (own := [(("at" : Str), 2), (("net" : Str), 3)]) rfl nd rfl rfl (sw_true rfl rfl rfl (by decide +kernel)) (pi_enum rfl T.f_enumerate (pa_cons (pv 0) pa_nil)) (blkOk_by (own := [(("at" : Str), 2), (("net" : Str), 3)]) (N := N_great_spot) (sc := defScope s_great_spot) (by decide +kernel)) (fun _ _ _ _ _ => pg_tupK K (n := 2) rfl (pgs_cons (pg_name (i := 2) nd rfl (Or.inl rfl)) (pgs_cons (pg_name (i := 3) nd rfl (Or.inl rfl)) pgs_nil))) (fun _ _ _ _ _ => pts_one (pt_cmpR op_gt (pe_op op_mul pe_int (pv 3)) (pe_callB (cr_sumK K rfl) rfl T.f_sum (by decide +kernel) (pa_cons (pv 0) pa_nil)) (nomark _))) (fun _ _ _ _ _ => (pv 2))) 
      (pss_one (ps_ret (pe_ifExp (pt_cmpR (op_neD hr.units) (pv 1) (pe_lst pa_nil) (nomark _)) (pe_ix (ix_listK K) (pv 1) pe_int (fun _ _ => rfl)) pe_non)))), ?_⟩)⟩
  · obtain ⟨v, ns, rfl, _⟩ := h; rfl
  · obtain ⟨v, ns, rfl, hv, hl, q⟩ := h
    refine seq_ (asg_ (rd_lcE (RO := rInt) (as := ns) (fun b => decide (ns.sum < 2 * b.1)) (fun b => ((b.2 : Nat) : Int)) (fun Z z => ⟨_, rfl, z _ _ (Same.refl _) hv⟩) (by omega) (fun x y => rfl) (fun b hb H2 Zt Zf e2 kt kf => ?_) (fun v2 H2 e2 h2 => ?_)))
    · obtain ⟨a, xs, rfl, ha, hp⟩ := hv
      rw [ints_of hp] at ha
      refine ⟨_, rfl, 2, b.1, rfl, rfl, Or.inl (by omega), _, rfl, a, ns, rfl, Evl.sq_of (e2 _ _ ha), _, _, rfl, rfl, _, rfl, ?_⟩
      by_cases h : ns.sum < 2 * b.1
      · exact ifT (decide_eq_true h) ⟨_, rfl, kt (decide_eq_true h) _ _ (Same.refl _) rfl⟩
      · exact ifF (decide_eq_false h) (kf (decide_eq_false h) _ (Same.refl _))
    · have h2 : LOf rInt H2 v2 (greats ns) := h2
      obtain ⟨D, ys, rfl, hD, hp⟩ := h2
      rw [ints_of hp] at hD
      refine nm_ ?_
      dsimp only
      refine ⟨_, rfl, by decide, fun l hl => ?_⟩
      have e3 := new_same (o := .lst []) hl
      have hD3 := e3 _ _ hD
      refine ⟨_, _, .lst (Evl.sq_of hD3) (dpall (R := rInt) (of_ints (greats ns) (H := H2))), .lst (Evl.sq_of upd_same) (dpall (R := rInt) (of_ints [] (H := H2))), (sh_ints _).1, (sh_ints []).1, _, rfl, ?_⟩
      have e9 : PyData.eqv (.list ((greats ns).map .int)) (.list (([] : List Int).map .int)) = decide (greats ns = []) := by rw [PyData.eqv, eqv_ints]
      rw [e9]
      have q2 := q _ (e2.trans e3)
      cases hg : greats ns with
      | nil =>
        rw [hg] at q2
        exact ifF (by decide) q2
      | cons i r =>
        rw [hg] at q2 hD3
        refine ifT (by simp) ⟨_, rfl, D, _, 0, _, rfl, rfl, Evl.sq_of hD3, atI_nat (j := 0) rfl, q2⟩
end KB

-- part KC7
namespace KB
open PySem PySem.Spec PyProof.Rows L2
variable {P : Program} {w : World} {K : PySem.W.Frag} {mg : Str → Option Value} {base : Heap}
/-- what is fixed: a number, a row of numbers -/
inductive Fx where
  | num (i : Int)
  | row (ns : List Int)
def rFi : Rl Fx := fun H v x => match x with
  | .num i => v = .int i
  | .row ns => rInts H v ns ∨ rIntT H v ns
def rFo : Rl Fx := fun H v x => match x with
  | .num i => v = .int i
  | .row ns => rIntT H v ns
theorem mn_rFi {H H' : Hp} {v : V} {a : Fx} (e : Same H H') (h : rFi H v a) : rFi H' v a := by
  cases a with
  | num i => exact h
  | row ns => exact h.elim (fun z => Or.inl (Mn.mn e z)) fun z => Or.inr (Mn.mn e z)
theorem mn_rFo {H H' : Hp} {v : V} {a : Fx} (e : Same H H') (h : rFo H v a) : rFo H' v a := by
  cases a with
  | num i => exact h
  | row ns => exact Mn.mn (R := rIntT) e h
theorem tn_rFo {H : Hp} {v : V} {a : Fx} {D : Addr} {xs : List V} (hD : H D = some (.lst xs)) (h : rFo H v a) : rFo (del H D) v a := by
  cases a with
  | num i => exact h
  | row ns => exact Tn.tn (R := rIntT) hD h
instance : Mn rFi := ⟨mn_rFi⟩
instance : Tn rFo := { mn := mn_rFo, tn := tn_rFo }
theorem rd_isiLT0 {σ : L2.St} {H : Hp} {i : Nat} {n : Int} {Q : VK} (hi : σ[i]? = some (some (.int n))) (q : ∀ H', Same H H' → Q (.bl false) H') :
    tCB (rIsiT K) (tCons (tVar i) (tCons (tTup (tCons (tC (.ty "list")) (tCons (tC (.ty "tuple")) tNil))) tNil)) σ H Q := by
  refine ⟨_, hi, by decide, fun p hp => ?_⟩
  have e := new_same (o := .tup [.ty "list", .ty "tuple"]) hp
  exact ⟨.int n, p, _, _, _, false, rfl, upd_same, .cons (.ty "list") (.cons (.ty "tuple") .nil), .base (.int n), kitAny_cons (b := false) (kit_ty (by decide +kernel)) (fun _ => kitAny_cons (b := false) (kit_ty (by decide +kernel)) (fun _ => rfl) (fun z => nomatch z)) (fun z => nomatch z), q _ e⟩
def spFix0 : Sp := fun vs H Q _ => ∃ i, vs = [.int i] ∧ ∀ H', Same H H' → Q (.int i) H'
theorem G_fixed0 (T : Tx P K mg) : DefOk P w K mg base CX0 1 "fixed" spFix0 := by
  obtain ⟨f, fd, hm, F⟩ := T.d_fixed.ex
  have nd := sc_fixed.nd
  refine ⟨f, fd, _, hm, F.kp, b_fixed F, F.ok sc_fixed (fun vs H Q E h => ?_) (fun cdv A outer s H vs Q E hr h => ⟨_, PSs.nox (pss_cons (ps_if (pt_not (pt_val (pe_callB call_isiT rfl T.f_isinstance (by decide +kernel) (pa_cons (pv 0) (pa_cons (pe_tup (pa_cons (pe_bty (n := "list") rfl T.f_list (by decide +kernel)) (pa_cons (pe_bty (n := "tuple") rfl T.f_tuple (by decide +kernel)) pa_nil))) pa_nil))))) 
          (pss_one (ps_ret (pv 0))) pss_nil) pss_never), ?_⟩)⟩
  · obtain ⟨i, rfl, _⟩ := h; rfl
  · obtain ⟨i, rfl, q⟩ := h
    exact rd_isiLT0 rfl fun H1 e1 => ⟨false, rfl, ifT rfl ⟨_, rfl, q _ e1⟩⟩
def spFix1 : Sp := fun vs H Q _ => ∃ v x, vs = [v] ∧ rFi H v x ∧ (∀ ns, x = .row ns → ns.length ≤ 100) ∧ ∀ v' H', Same H H' → rFo H' v' x → Q v' H'
theorem G_fixed1 (T : Tx P K mg) : DefOk P w K mg base CX0 2 "fixed" spFix1 := by
  obtain ⟨f, fd, hm, F⟩ := T.d_fixed.ex
  have nd := sc_fixed.nd
  refine ⟨f, fd, _, hm, F.kp, b_fixed F, F.ok sc_fixed (fun vs H Q E h => ?_) (fun cdv A outer s H vs Q E hr h => ?_)⟩
  · obtain ⟨v, x, rfl, _⟩ := h; rfl
  · obtain ⟨v, x, rfl, hv, hl, q⟩ := h
    cases x with
    | num i =>
      refine ⟨_, PSs.nox (pss_cons (ps_if (pt_not (pt_val (pe_callB call_isiT rfl T.f_isinstance (by decide +kernel) (pa_cons (pv 0) (pa_cons (pe_tup (pa_cons (pe_bty (n := "list") rfl T.f_list (by decide +kernel)) (pa_cons (pe_bty (n := "tuple") rfl T.f_tuple (by decide +kernel)) pa_nil))) pa_nil))))) 
          (pss_one (ps_ret (pv 0))) pss_nil) pss_never), ?_⟩
      obtain rfl : v = V.int i := hv
      exact rd_isiLT0 rfl fun H1 e1 => ⟨false, rfl, ifT rfl ⟨_, rfl, q _ _ e1 rfl⟩⟩
    | row ns =>
      have hl := hl ns rfl
      rcases hv with hv | hv
      · refine ⟨_, PSs.nox 
      (pss_cons (ps_if (pt_not (pt_val (pe_callB call_isiT rfl T.f_isinstance (by decide +kernel) (pa_cons (pv 0) (pa_cons (pe_tup (pa_cons (pe_bty (n := "list") rfl T.f_list (by decide +kernel)) (pa_cons (pe_bty (n := "tuple") rfl T.f_tuple (by decide +kernel)) pa_nil))) pa_nil))))) 
          (pss_one (ps_ret (pv 0))) pss_nil) 
      (pss_one (ps_ret (pe_callTy (call_tupleK K) rfl T.f_tuple (by decide +kernel) (pa_cons (pe_lc (own := [(("part" : Str), 1)]) rfl nd (pi_listK K (pv 0)) (blkOk_by (own := [(("part" : Str), 1)]) (N := N_fixed) (sc := defScope s_fixed) (by decide +kernel)) (fun _ _ _ _ _ => pg_name (i := 1) nd rfl (Or.inl rfl)) (fun _ _ _ _ _ => pts_nil) (fun _ _ _ _ _ => (pe_callD (G_fixed0 T) (hr.mono (by decide)) rfl pass0 (pa_cons (pv 1) pa_nil)))) pa_nil))))), ?_⟩
        have ⟨a, xs, ea, ha, hp⟩ := hv
        subst ea
        refine q_skip (fun Z z => rd_isiLT rfl (Or.inl ha) fun H1 e1 => ⟨true, rfl, z _ e1⟩) fun H1 e1 => ?_
        refine ret_ (cb1 (rd_lcL (R := rInt) (RO := rInt) (as := ns) (fun i => i) (fun Z z => ⟨_, rfl, z _ _ (Same.refl _) (Mn.mn e1 hv)⟩) (by omega) (fun i hi y H2 Z e2 r k => ⟨rfl, ?_⟩) (fun v2 H2 e2 h2 => ?_)))
        · obtain rfl : y = V.int i := r
          exact ⟨_, rfl, i, rfl, fun H' e' => k _ _ e' rfl⟩
        · rw [List.map_id'] at h2
          exact rd_tuple (R := rInt) h2 fun v4 H4 e4 h4 => q _ _ ((e1.trans e2).trans e4) h4
      · refine ⟨_, PSs.nox 
      (pss_cons (ps_if (pt_not (pt_val (pe_callB call_isiT rfl T.f_isinstance (by decide +kernel) (pa_cons (pv 0) (pa_cons (pe_tup (pa_cons (pe_bty (n := "list") rfl T.f_list (by decide +kernel)) (pa_cons (pe_bty (n := "tuple") rfl T.f_tuple (by decide +kernel)) pa_nil))) pa_nil))))) 
          (pss_one (ps_ret (pv 0))) pss_nil) 
      (pss_one (ps_ret (pe_callTy (call_tupleK K) rfl T.f_tuple (by decide +kernel) (pa_cons (pe_lc (own := [(("part" : Str), 1)]) rfl nd (pi_tupK K (pv 0)) (blkOk_by (own := [(("part" : Str), 1)]) (N := N_fixed) (sc := defScope s_fixed) (by decide +kernel)) (fun _ _ _ _ _ => pg_name (i := 1) nd rfl (Or.inl rfl)) (fun _ _ _ _ _ => pts_nil) (fun _ _ _ _ _ => (pe_callD (G_fixed0 T) (hr.mono (by decide)) rfl pass0 (pa_cons (pv 1) pa_nil)))) pa_nil))))), ?_⟩
        have ⟨a, xs, ea, ha, hp⟩ := hv
        subst ea
        refine q_skip (fun Z z => rd_isiLT rfl (Or.inr ha) fun H1 e1 => ⟨true, rfl, z _ e1⟩) fun H1 e1 => ?_
        refine ret_ (cb1 (rd_lcU (R := rInt) (RO := rInt) (as := ns) (fun i => i) (fun Z z => ⟨_, rfl, z _ _ (Same.refl _) (Mn.mn e1 hv)⟩) (by omega) (fun i hi y H2 Z e2 r k => ⟨rfl, ?_⟩) (fun v2 H2 e2 h2 => ?_)))
        · obtain rfl : y = V.int i := r
          exact ⟨_, rfl, i, rfl, fun H' e' => k _ _ e' rfl⟩
        · rw [List.map_id'] at h2
          exact rd_tuple (R := rInt) h2 fun v4 H4 e4 h4 => q _ _ ((e1.trans e2).trans e4) h4
def spFix2 : Sp := fun vs H Q _ => ∃ v xs, vs = [v] ∧ TOf rFi H v xs ∧ xs.length ≤ 100 ∧ (∀ ns, Fx.row ns ∈ xs → ns.length ≤ 100) ∧ ∀ v' H', Same H H' → TOf rFo H' v' xs → Q v' H'
theorem G_fixed (T : Tx P K mg) : DefOk P w K mg base CX0 3 "fixed" spFix2 := by
  obtain ⟨f, fd, hm, F⟩ := T.d_fixed.ex
  have nd := sc_fixed.nd
  refine ⟨f, fd, _, hm, F.kp, b_fixed F, F.ok sc_fixed (fun vs H Q E h => ?_) (fun cdv A outer s H vs Q E hr h => ⟨_, PSs.nox 
      (pss_cons (ps_if (pt_not (pt_val (pe_callB call_isiT rfl T.f_isinstance (by decide +kernel) (pa_cons (pv 0) (pa_cons (pe_tup (pa_cons (pe_bty (n := "list") rfl T.f_list (by decide +kernel)) (pa_cons (pe_bty (n := "tuple") rfl T.f_tuple (by decide +kernel)) pa_nil))) pa_nil))))) 
          (pss_one (ps_ret (pv 0))) pss_nil) 
      (pss_one (ps_ret (pe_callTy (call_tupleK K) rfl T.f_tuple (by decide +kernel) (pa_cons (pe_lc (own := [(("part" : Str), 1)]) rfl nd (pi_tupK K (pv 0)) (blkOk_by (own := [(("part" : Str), 1)]) (N := N_fixed) (sc := defScope s_fixed) (by decide +kernel)) (fun _ _ _ _ _ => pg_name (i := 1) nd rfl (Or.inl rfl)) (fun _ _ _ _ _ => pts_nil) (fun _ _ _ _ _ => (pe_callD (G_fixed1 T) (hr.mono (by decide)) rfl pass0 (pa_cons (pv 1) pa_nil)))) pa_nil))))), ?_⟩)⟩
  · obtain ⟨v, x, rfl, _⟩ := h; rfl
  · obtain ⟨v, xs, rfl, hv, hl, hl2, q⟩ := h
    have ⟨a, us, ea, ha, hp⟩ := hv
    subst ea
    refine q_skip (fun Z z => rd_isiLT rfl (Or.inr ha) fun H1 e1 => ⟨true, rfl, z _ e1⟩) fun H1 e1 => ?_
    refine ret_ (cb1 (rd_lcU (R := rFi) (RO := rFo) (as := xs) (fun i => i) (fun Z z => ⟨_, rfl, z _ _ (Same.refl _) (Mn.mn e1 hv)⟩) (by omega) (fun i hi y H2 Z e2 r k => ⟨rfl, ?_⟩) (fun v2 H2 e2 h2 => ?_)))
    · exact ⟨_, rfl, y, i, rfl, r, fun ns e => hl2 ns (e ▸ hi), fun v' H' e' h' => k _ _ e' h'⟩
    · rw [List.map_id'] at h2
      exact rd_tuple (R := rFo) h2 fun v4 H4 e4 h4 => q _ _ ((e1.trans e2).trans e4) h4
end KB

-- part KC8
namespace KB
open PySem PySem.Spec PyProof.Rows L2
variable {P : Program} {w : World} {K : PySem.W.Frag} {mg : Str → Option Value} {base : Heap}
structure PapC (K : PySem.W.Frag) (C : Addr) : Prop where
  cls : Cls K C
  wd : NoAttr K C "word"
  pt : NoAttr K C "parts"
def spPapIn (K : PySem.W.Frag) : Sp := fun vs H Q _ => ∃ x C dx p word rest xs, vs = [V.ref x, V.str word, V.ref p] ∧ H x = some (.ins C dx []) ∧ PapC K C ∧ H p = some (.tup rest) ∧ Paired (rFi H) rest xs ∧ xs.length ≤ 100 ∧ (∀ ns, Fx.row ns ∈ xs → ns.length ≤ 100) ∧
  ∀ tp H', Same (del H x) H' → H' x = some (.ins C dx [("word", V.str word), ("parts", tp)]) → TOf rFo H' tp xs → Q .non H'
instance : In rIntT := instInT rInt
instance : In rInts := instInL rInt
theorem in_rFi {H : Hp} {v : V} {a : Fx} {x C dx : Addr} {fs : List (Str × V)} (hD : H x = some (.ins C dx fs)) (h : rFi H v a) : rFi (del H x) v a := by
  cases a with
  | num i => exact h
  | row ns => exact h.elim (fun z => Or.inl (In.ind (R := rInts) hD z)) fun z => Or.inr (In.ind (R := rIntT) hD z)
instance : In rFi := { mn := mn_rFi, ind := in_rFi }
theorem in_rFo {H : Hp} {v : V} {a : Fx} {x C dx : Addr} {fs : List (Str × V)} (hD : H x = some (.ins C dx fs)) (h : rFo H v a) : rFo (del H x) v a := by
  cases a with
  | num i => exact h
  | row ns => exact In.ind (R := rIntT) hD h
instance : In rFo := { mn := mn_rFo, ind := in_rFo }
theorem G_Paper_init (T : Tx P K mg) : FnR P w K mg base CX0 4 (CI K "Paper") (fun vs H Q E => ∃ ws rest, vs = ws ++ rest ∧ ws.length = 2 ∧ rest.length ≤ sizeLine ∧ ∀ p, H p = Option.none → spPapIn K (ws ++ [V.ref p]) (upd H p (.tup rest)) Q E) := by
  obtain ⟨fd, F⟩ := T.m_Paper___init.ex
  obtain ⟨oc, od, dV, kV, doc, pm, an, cdv, ct, osl, rfl, lk, hcd, hD, _⟩ := F.ex
  have nd := sc_Paper___init.nd
  have hd : dV = .none := by
    rcases hD with ⟨_, rfl⟩ | ⟨e, _⟩
    · rfl
    · exact absurd rfl e
  subst hd
  refine StX.fn_star (ps := ["self", "word"]) (pv := "parts") (N := N_Paper___init) lk hcd sc_Paper___init StX.cxUp_none (fun us rest hl => ?_) (fun A outer s H vs Q E hr h => ⟨_, PSs.nox 
      (pss_cons (ps_fld (pv 0) (pv 1) rfl) 
      (pss_one (ps_fld (pv 0) (pe_callD (G_fixed T) (hr.mono (by decide)) rfl pass0 (pa_cons (pv 2) pa_nil)) rfl))), ?_⟩)
  · match us, hl, rest with
    | [_, _], _, [] => rfl
    | [_, _], _, _ :: _ => rfl
  · obtain ⟨x, C, dx, p, word, rest, xs, rfl, hx, hC, hp, hpr, hl1, hl2, q⟩ := h
    have hpr0 : Paired (rFi (del H x)) rest xs := hpr.mapF fun _ _ => In.ind hx
    have hp0 : del H x p = some (.tup rest) := ins_del hx (fun _ _ _ z => nomatch z) hp
    refine q_fld (fun y H2 => y = .str word) rfl hx hC.cls hC.wd (by decide) (fun Z z => ⟨_, rfl, z _ _ (Same.refl _) rfl⟩) fun y H2 e2 hy => ?_
    subst hy
    have f2 : Same (del H x) (upd H2 x (.ins C dx (putF "word" (V.str word) []))) := del_upd_same (fun b o h => e2 _ _ (del_in _ _ h))
    have g2 : upd H2 x (.ins C dx (putF "word" (V.str word) [])) x = some (.ins C dx [("word", V.str word)]) := upd_same
    generalize upd H2 x (.ins C dx (putF "word" (V.str word) [])) = G2 at f2 g2 ⊢
    refine l_fld (fun y H3 => TOf rFo H3 y xs) rfl g2 hC.cls hC.pt (by simp) (fun Z z => ⟨_, rfl, _, xs, rfl, ⟨p, rest, rfl, f2 _ _ hp0, hpr0.mapF fun _ _ => Mn.mn f2⟩, hl1, hl2, fun v' H' e' h' => z _ _ e' h'⟩) fun y H3 e3 hy => ?_
    have hx3 := e3 _ _ g2
    have hy0 : TOf rFo (del H3 x) y xs := In.ind hx3 hy
    refine q y _ (del_upd_same (fun b o h => e3 _ _ (f2 _ _ h))) ?_ (Mn.mn (del_upd_same del_in) hy0)
    rw [upd_same]; rfl
abbrev N_Nets : List Str := ["self", "nets", "__class__"]
abbrev fNets (tp tn : V) : List (Str × V) := [("word", .str "nets"), ("parts", tp), ("nets", tn)]
/-- Nets(ns): parts = (ns,), nets = the very tuple -/
def rNets (K : PySem.W.Frag) : Rl (List Int) := fun H v ns => ∃ x dx p t, v = .ref x ∧ H x = some (.ins (CC K "Nets") dx (fNets (.ref p) (.ref t))) ∧ H p = some (.tup [.ref t]) ∧ H t = some (.tup (ns.map V.int))
instance : Mn (rNets K) := { mn := fun e ⟨x, dx, p, t, h1, h2, h3, h4⟩ => ⟨x, dx, p, t, h1, e _ _ h2, e _ _ h3, e _ _ h4⟩ }
def spNetsI (K : PySem.W.Frag) : Sp := fun vs H Q _ => ∃ x dx v ns, vs = [.ref x, v] ∧ H x = some (.ins (CC K "Nets") dx []) ∧ rInts H v ns ∧ ns.length ≤ 100 ∧ ∀ H', Same (del H x) H' → rNets K H' (.ref x) ns → Q .non H'
theorem papNets (T : Tx P K mg) : PapC K (CC K "Nets") := ⟨T.cl_Nets, T.na_Nets_word, T.na_Nets_parts⟩
theorem G_Nets_init (T : Tx P K mg) : ∃ fd, Binds K fd ["self", "nets"] [] ∧ FnOk P w K mg base CX0 5 (CI K "Nets") fd ["self", "nets"] (spNetsI K) := by
  obtain ⟨cc, c, S⟩ := T.sf_Nets
  have nd : (N_Nets).Nodup := by decide
  refine sup_fn (N := N_Nets) S (NdefX.nscope_by (by show NdefX.nscB N_Nets ["self", "nets"] ["__class__"] (defScope s_Nets___init) = true; decide +kernel)) (fun vs H Q E h => ?_) (fun kV doc pm an ct us hl => match us, hl with | [_, _], _ => rfl) (fun A outer s H vs Q E hr h => ⟨_, fun pins s1 σ H1 Dn I h1 => sup_stmt (N := N_Nets) S rfl rfl rfl rfl rfl T.f_super rfl (G_Paper_init T) hr (pa_cons pe_str (pa_cons (pv 1) pa_nil)) (pss_one (ps_fld (pv 0) (pe_ix (ix_tupK K) (pe_fldK K (pv 0) rfl) pe_int (fun _ _ => rfl)) rfl)) rfl rfl rfl rfl I h1, ?_⟩)
  · obtain ⟨x, dx, v, ns, rfl, _⟩ := h; rfl
  · obtain ⟨x, dx, v, ns, rfl, hx, hv, hl, q⟩ := h
    refine ⟨x, _, dx, [], rfl, hx, T.su_Nets, fun k hk => ⟨_, rfl, upd_same, [.ref x, .str "nets"], [v], rfl, rfl, (by show 1 ≤ sizeLine; decide), fun p hp => ?_⟩⟩
    have e1 := (new_same (o := .met (CI K "Paper") x) hk).trans (new_same (o := .tup [v]) hp)
    refine ⟨x, _, dx, p, "nets", [v], [.row ns], rfl, e1 _ _ hx, papNets T, upd_same, .cons (Or.inl (Mn.mn e1 hv)) .nil, (by show 1 ≤ 100; decide), (fun ns' h' => by rw [List.mem_singleton] at h'; cases h'; exact hl), fun tp H' e' g' ht' => ?_⟩
    obtain ⟨p', us, rfl, hp', hus⟩ := ht'
    cases hus with
    | cons h1 h2 =>
      cases h2
      obtain ⟨t, ts, rfl, ht, hts⟩ := (show rIntT H' _ ns from h1)
      rw [ints_of hts] at ht
      dsimp only
      refine l_fld (fun y H3 => y = V.ref t) rfl g' T.cl_Nets T.na_Nets_nets (by simp) (fun Z z => op_ (rd_fld T.cl_Nets rfl g' T.na_Nets_parts rfl ⟨p', _, 0, _, rfl, rfl, Evl.st_of hp', atI_nat (j := 0) rfl, z _ _ (Same.refl _) rfl⟩)) fun y H3 e3 hy => ?_
      subst hy
      have n1 : p' ≠ x := ne_of hp' g' (fun z => nomatch z)
      have n2 : t ≠ x := ne_of ht g' (fun z => nomatch z)
      refine q _ (del_upd_same (fun b o h => e3 _ _ (e' _ _ (del_mono e1 _ _ h)))) ⟨x, dx, p', t, rfl, ?_, ?_, ?_⟩
      · rw [upd_same]; rfl
      · rw [upd_ne n1]; exact e3 _ _ hp'
      · rw [upd_ne n2]; exact e3 _ _ ht
theorem M_Nets (T : Tx P K mg) : MakeOk P w K mg base CX0 5 "Nets" (CC K "Nets") (spNetsI K) := by
  obtain ⟨fd, hb, F⟩ := G_Nets_init (P := P) (w := w) (base := base) T
  exact ⟨_, fd, _, T.g_Nets, T.mk_Nets, hb, F⟩
theorem rd_Nets {H : Hp} {v : V} {ns : List Int} {Q : VK} (hv : rInts H v ns) (hl : ns.length ≤ 100) (k : ∀ v' H', Same H H' → rNets K H' v' ns → Q v' H') : ∀ x dx, H x = none → H dx = none → dx ≠ x → spNetsI K (.ref x :: ([v] ++ [])) (upd (upd H dx (.own x)) x (.ins (CC K "Nets") dx [])) (fun v' H2 => v' = .non ∧ Q (.ref x) H2) E0 := by
  intro x dx hx hdx hne
  have e1 : Same H (upd (upd H dx (.own x)) x (.ins (CC K "Nets") dx [])) := mut_same (new_same hdx) hx
  refine ⟨x, dx, v, ns, rfl, upd_same, Mn.mn e1 hv, hl, fun H' e' hr => ⟨rfl, k _ _ (fun b o hb => e' _ _ ?_) hr⟩⟩
  rw [del_ne (ne_of_none hb hx)]
  exact e1 _ _ hb
/-! ### TooGreat -/
theorem len_putF (f : Str) (v : V) : ∀ fs : List (Str × V), (putF f v fs).length ≤ fs.length + 1
  | [] => Nat.le_refl _
  | (g, x) :: r => by
    unfold putF
    split
    · exact Nat.le_succ _
    · have := len_putF f v r
      simp only [List.length_cons]
      omega
theorem putF_lt {f : Str} {v : V} {fs : List (Str × V)} {n : Nat} (h : fs.length < n) : (putF f v fs).length < n + 1 := Nat.lt_of_le_of_lt (len_putF f v fs) (Nat.succ_lt_succ h)
abbrev N_TooGreat : List Str := ["self", "lot", "net", "others", "__class__"]
abbrev fTG (tp tl : V) (a b : Int) : List (Str × V) := [("word", .str "toogreat"), ("parts", tp), ("lot", tl), ("net", .int a), ("others", .int b)]
def rTG (K : PySem.W.Frag) : Rl (List Int × Int × Int) := fun H v z => ∃ x dx p t, v = .ref x ∧ H x = some (.ins (CC K "TooGreat") dx (fTG (.ref p) (.ref t) z.2.1 z.2.2)) ∧ H p = some (.tup [.ref t, .int z.2.1, .int z.2.2]) ∧ H t = some (.tup (z.1.map V.int))
instance : Mn (rTG K) := { mn := fun e ⟨x, dx, p, t, h1, h2, h3, h4⟩ => ⟨x, dx, p, t, h1, e _ _ h2, e _ _ h3, e _ _ h4⟩ }
def spTGI (K : PySem.W.Frag) : Sp := fun vs H Q _ => ∃ x dx v lot a b, vs = [.ref x, v, .int a, .int b] ∧ H x = some (.ins (CC K "TooGreat") dx []) ∧ rIntT H v lot ∧ lot.length ≤ 100 ∧ ∀ H', Same (del H x) H' → rTG K H' (.ref x) (lot, a, b) → Q .non H'
theorem papTG (T : Tx P K mg) : PapC K (CC K "TooGreat") := ⟨T.cl_TooGreat, T.na_TooGreat_word, T.na_TooGreat_parts⟩
theorem G_TooGreat_init (T : Tx P K mg) : ∃ fd, Binds K fd ["self", "lot", "net", "others"] [] ∧ FnOk P w K mg base CX0 5 (CI K "TooGreat") fd ["self", "lot", "net", "others"] (spTGI K) := by
  obtain ⟨cc, c, S⟩ := T.sf_TooGreat
  have nd : (N_TooGreat).Nodup := by decide
  refine sup_fn (N := N_TooGreat) S (NdefX.nscope_by (by show NdefX.nscB N_TooGreat ["self", "lot", "net", "others"] ["__class__"] (defScope s_TooGreat___init) = true; decide +kernel)) (fun vs H Q E h => ?_) (fun kV doc pm an ct us hl => match us, hl with | [_, _, _, _], _ => rfl) (fun A outer s H vs Q E hr h => ⟨_, fun pins s1 σ H1 Dn I h1 => sup_stmt (N := N_TooGreat) S rfl rfl rfl rfl rfl T.f_super rfl (G_Paper_init T) hr (pa_cons pe_str (pa_cons (pv 1) (pa_cons (pv 2) (pa_cons (pv 3) pa_nil)))) (pss_one (ps_asg (pe_fldK K (pv 0) rfl) (pg_tupK K (n := 3) rfl (pgs_cons (pg_fld (pv 0)) (pgs_cons (pg_fld (pv 0)) (pgs_cons (pg_fld (pv 0)) pgs_nil)))))) rfl rfl rfl rfl I h1, ?_⟩)
  · obtain ⟨x, dx, v, lot, a, b, rfl, _⟩ := h; rfl
  · obtain ⟨x, dx, v, lot, a, b, rfl, hx, hv, hl, q⟩ := h
    refine ⟨x, _, dx, [], rfl, hx, T.su_TooGreat, fun k hk => ⟨_, rfl, _, rfl, _, rfl, upd_same, [.ref x, .str "toogreat"], [v, .int a, .int b], rfl, rfl, (by show 3 ≤ sizeLine; decide), fun p hp => ?_⟩⟩
    have e1 := (new_same (o := .met (CI K "Paper") x) hk).trans (new_same (o := .tup [v, .int a, .int b]) hp)
    refine ⟨x, _, dx, p, "toogreat", [v, .int a, .int b], [.row lot, .num a, .num b], rfl, e1 _ _ hx, papTG T, upd_same, .cons (Or.inr (Mn.mn e1 hv)) (.cons rfl (.cons rfl .nil)), (by show 3 ≤ 100; decide), (fun ns' h' => by simp at h'; rw [h']; exact hl), fun tp H' e' g' ht' => ?_⟩
    obtain ⟨p', us, rfl, hp', hus⟩ := ht'
    cases hus with
    | cons h1 h2 =>
      cases h2 with
      | cons h3 h4 =>
        cases h4 with
        | cons h5 h6 =>
          cases h6
          obtain ⟨t, ts, rfl, ht, hts⟩ := (show rIntT H' _ lot from h1)
          rw [ints_of hts] at ht
          rw [show _ = V.int a from h3, show _ = V.int b from h5] at hp'
          dsimp only
          have n1 : p' ≠ x := ne_of hp' g' (fun z => nomatch z)
          have n2 : t ≠ x := ne_of ht g' (fun z => nomatch z)
          refine asg_ (rd_fld T.cl_TooGreat rfl g' T.na_TooGreat_parts rfl ⟨p', _, rfl, Evl.st_of hp', rfl, _, _, rfl, ?_⟩)
          refine ⟨_, rfl, x, _, dx, _, rfl, g', T.cl_TooGreat, T.na_TooGreat_lot, by simp, _, _, rfl, ?_⟩
          refine ⟨_, rfl, x, _, dx, _, rfl, upd_same, T.cl_TooGreat, T.na_TooGreat_net, putF_lt (n := 999) (by simp), _, _, rfl, ?_⟩
          refine ⟨_, rfl, x, _, dx, _, rfl, upd_same, T.cl_TooGreat, T.na_TooGreat_others, putF_lt (n := 999) (putF_lt (n := 998) (by simp)), rfl, ?_⟩
          refine q _ (del_upd_same (del_upd_same (del_upd_same (fun b o h => e' _ _ (del_mono e1 _ _ h))))) ⟨x, dx, p', t, rfl, ?_, ?_, ?_⟩
          · rw [upd_same]; rfl
          · rw [upd_ne n1, upd_ne n1, upd_ne n1]; exact hp'
          · rw [upd_ne n2, upd_ne n2, upd_ne n2]; exact ht
theorem M_TooGreat (T : Tx P K mg) : MakeOk P w K mg base CX0 5 "TooGreat" (CC K "TooGreat") (spTGI K) := by
  obtain ⟨fd, hb, F⟩ := G_TooGreat_init (P := P) (w := w) (base := base) T
  exact ⟨_, fd, _, T.g_TooGreat, T.mk_TooGreat, hb, F⟩
theorem rd_TG {H : Hp} {v : V} {lot : List Int} {a b : Int} {Q : VK} (hv : rIntT H v lot) (hl : lot.length ≤ 100) (k : ∀ v' H', Same H H' → rTG K H' v' (lot, a, b) → Q v' H') : ∀ x dx, H x = none → H dx = none → dx ≠ x → spTGI K (.ref x :: ([v, .int a, .int b] ++ [])) (upd (upd H dx (.own x)) x (.ins (CC K "TooGreat") dx [])) (fun v' H2 => v' = .non ∧ Q (.ref x) H2) E0 := by
  intro x dx hx hdx hne
  have e1 : Same H (upd (upd H dx (.own x)) x (.ins (CC K "TooGreat") dx [])) := mut_same (new_same hdx) hx
  refine ⟨x, dx, v, lot, a, b, rfl, upd_same, Mn.mn e1 hv, hl, fun H' e' hr => ⟨rfl, k _ _ (fun b o hb => e' _ _ ?_) hr⟩⟩
  rw [del_ne (ne_of_none hb hx)]
  exact e1 _ _ hb
end KB

-- part KC9
namespace KB
open PySem PySem.Spec PyProof.Rows L2
variable {P : Program} {w : World} {K : PySem.W.Frag} {mg : Str → Option Value} {base : Heap}
theorem kit_self (C : Addr) : PySem.W.kitOne K (.ref C) (.ref C) = some true := by unfold PySem.W.kitOne; simp
theorem tyx_ins {H : Hp} {x C dx : Addr} {fs : List (Str × V)} (h : H x = some (.ins C dx fs)) (c : Cls K C) (t : TyC K C) : TyX K H (.ref x) (.ref C) := .base (.ins h c t.ha t.hn t.ht t.hm)
def spNeedR (K : PySem.W.Frag) : Sp := fun vs H Q _ => ∃ v p ns, vs = [v, .str p] ∧ rRing K H v ns ∧ Q .non H
def spNeedL (K : PySem.W.Frag) : Sp := fun vs H Q _ => ∃ v p ns, vs = [v, .str p] ∧ rLine K H v ns ∧ Q .non H
theorem G_need_ring (T : Tx P K mg) : DefOk P w K mg base CX0 1 "need_ring" (spNeedR K) := by
  obtain ⟨f, fd, hm, F⟩ := T.d_need_ring.ex
  have nd := sc_need_ring.nd
  refine ⟨f, fd, _, hm, F.kp, b_need_ring F, F.ok sc_need_ring (fun vs H Q E h => ?_) (fun cdv A outer s H vs Q E hr h => ⟨_, PSs.nox 
      (pss_one (ps_if (pt_not (pt_val (pe_callB call_isi rfl T.f_isinstance (by decide +kernel) (pa_cons (pv 0) (pa_cons (pe_gref T.g_Ring rfl) pa_nil))))) 
          (pss_one ps_never) pss_nil)), ?_⟩)⟩
  · obtain ⟨v, p, ns, rfl, _⟩ := h; rfl
  · obtain ⟨v, p, ns, rfl, ⟨x, dx, tp, c, rfl, hx, ht⟩, q⟩ := h
    exact ⟨_, rfl, _, _, _, _, true, rfl, .own _, tyx_ins hx T.cl_Ring T.ty_Ring, kit_self _, true, rfl, ifF rfl q⟩
theorem G_need_lineup (T : Tx P K mg) : DefOk P w K mg base CX0 1 "need_lineup" (spNeedL K) := by
  obtain ⟨f, fd, hm, F⟩ := T.d_need_lineup.ex
  have nd := sc_need_lineup.nd
  refine ⟨f, fd, _, hm, F.kp, b_need_lineup F, F.ok sc_need_lineup (fun vs H Q E h => ?_) (fun cdv A outer s H vs Q E hr h => ⟨_, PSs.nox 
      (pss_one (ps_if (pt_not (pt_val (pe_callB call_isi rfl T.f_isinstance (by decide +kernel) (pa_cons (pv 0) (pa_cons (pe_gref T.g_LineUp rfl) pa_nil))))) 
          (pss_one ps_never) pss_nil)), ?_⟩)⟩
  · obtain ⟨v, p, ns, rfl, _⟩ := h; rfl
  · obtain ⟨v, p, ns, rfl, ⟨x, dx, tp, c, rfl, hx, ht⟩, q⟩ := h
    exact ⟨_, rfl, _, _, _, _, true, rfl, .own _, tyx_ins hx T.cl_LineUp T.ty_LineUp, kit_self _, true, rfl, ifF rfl q⟩
/-! ### can_line -/
theorem norm_mem {st : List Pr} (hs : StrandOk st) {p : Pr} (hp : p ∈ norm st) : (∃ q ∈ st, p.1 = q.1) ∧ (p.2 = 1 ∨ p.2 = -1) := by
  unfold norm at hp
  obtain ⟨q, hq, rfl⟩ := List.mem_map.mp hp
  have hq' := (srt_perm st).mem_iff.mp hq
  refine ⟨⟨q, hq', rfl⟩, ?_⟩
  rcases hd2_ok hs with h | h <;> rcases (hs.2.2 q hq').2 with h' | h' <;> simp [h, h']
theorem netOk_right {ns : List Int} {ss : List (List Pr)} (h : StrandsOk ns.length ss) {st : List Pr} (hs : st ∈ right ss) : NetOk ns st := by
  obtain ⟨s0, h0, rfl⟩ := List.mem_map.mp ((right_perm ss).mem_iff.mp hs)
  refine ⟨by rw [norm_len]; exact (h.strand h0).2.1, fun p hp => ?_⟩
  obtain ⟨⟨q, hq, e⟩, s1⟩ := norm_mem (h.strand h0) hp
  have := h.mem (List.mem_flatten.mpr ⟨s0, h0, hq⟩)
  rw [e]
  exact ⟨this, s1⟩
def netsOf (ns : List Int) (ss : List (List Pr)) : List Int := (right ss).map (netOf ns)
theorem right_len (ss : List (List Pr)) : (right ss).length = ss.length := by rw [(right_perm ss).length_eq, List.length_map]
theorem greats_mem {xs : List Int} {i : Int} (h : i ∈ greats xs) : ∃ j : Nat, i = (j : Int) ∧ ∃ x, xs[j]? = some x ∧ xs.sum < 2 * x := by
  unfold greats at h
  obtain ⟨b, hb, rfl⟩ := List.mem_map.mp h
  obtain ⟨h1, h2⟩ := List.mem_filter.mp hb
  exact ⟨b.2, rfl, b.1, (List.mem_zipIdx_iff_getElem?.mp h1), of_decide_eq_true h2⟩
def rCan (K : PySem.W.Frag) (ns : List Int) (ss : List (List Pr)) : Hp → V → Prop := fun H v =>
  (greats (netsOf ns ss) = [] ∧ rNets K H v (netsOf ns ss)) ∨ ∃ (j : Nat) (r : List Int) (x : Int) (st : List Pr), greats (netsOf ns ss) = (j : Int) :: r ∧ (netsOf ns ss)[j]? = some x ∧ (netsOf ns ss).sum < 2 * x ∧ (right ss)[j]? = some st ∧ rTG K H v (lotOf st, x, (netsOf ns ss).sum - x)
def spCan (K : PySem.W.Frag) : Sp := fun vs H Q _ => ∃ vr vl ns ss, vs = [vr, vl] ∧ rRing K H vr ns ∧ rLine K H vl ss ∧ LensOk ns ∧ StrandsOk ns.length ss ∧ ∀ v H', Same H H' → rCan K ns ss H' v → Q v H'
theorem F_can_line (T : Tx P K mg) {f : Addr} {fd : FuncData} (F : FunD K "can_line" "can_line" (defArgs s_can_line) (defBody s_can_line) (defScope s_can_line) [] [] f fd) : FnOk P w K mg base CX0 7 f fd ["ring", "lineup"] (spCan K) := by
  have nd := sc_can_line.nd
  refine F.ok sc_can_line (fun vs H Q E h => ?_) (fun cdv A outer s H vs Q E hr h => ⟨_, PSs.nox 
      (pss_cons (ps_expr (pe_callD (G_need_ring T) (hr.mono (by decide)) rfl pass0 (pa_cons (pv 0) (pa_cons pe_str pa_nil)))) 
      (pss_cons (ps_expr (pe_callD (G_need_lineup T) (hr.mono (by decide)) rfl pass0 (pa_cons (pv 1) (pa_cons pe_str pa_nil)))) 
      (pss_cons (ps_if (pt_cmpR op_ne (pe_fldK K (pv 1) rfl) (pe_callB (call_lenK K) rfl T.f_len (by decide +kernel) (pa_cons (pe_fldK K (pv 0) rfl) pa_nil)) (nomark _)) 
          (pss_one ps_never) pss_nil) 
      (pss_cons (ps_setLc (i := 2) (own := [(("strand" : Str), 4)]) rfl nd rfl rfl (sw_true rfl rfl rfl (by decide +kernel)) (pi_tupK K (pe_fldK K (pv 1) rfl)) (blkOk_by (own := [(("strand" : Str), 4)]) (N := N_can_line) (sc := defScope s_can_line) (by decide +kernel)) (fun _ _ _ _ _ => pg_name (i := 4) nd rfl (Or.inl rfl)) (fun _ _ _ _ _ => pts_nil) (fun _ _ _ _ _ => (pe_callD (G_net_of T) (hr.mono (by decide)) rfl pass0 (pa_cons (pv 0) (pa_cons (pv 4) pa_nil))))) 
      (pss_cons (ps_set (i := 3) nd rfl (Or.inl rfl) (pe_callD (G_great_spot T) (hr.mono (by decide)) rfl pass0 (pa_cons (pv 2) pa_nil))) 
      (pss_cons (ps_if (pt_cmpR op_isN (pv 3) pe_non (nomark _)) 
          (pss_one (ps_ret (pe_makeD (M_Nets T) (hr.mono (by decide)) rfl pass0 (pa_cons (pv 2) pa_nil)))) pss_nil) 
      (pss_one (ps_ret (pe_makeD (M_TooGreat T) (hr.mono (by decide)) rfl pass0 (pa_cons (pe_ix (ix_tupK K) (pe_fldK K (pv 1) rfl) (pv 3) (fun _ _ => rfl)) (pa_cons (pe_ix (ix_listK K) (pv 2) (pv 3) (fun _ _ => rfl)) (pa_cons (pe_op op_sub (pe_callB (cr_sumK K rfl) rfl T.f_sum (by decide +kernel) (pa_cons (pv 2) pa_nil)) (pe_ix (ix_listK K) (pv 2) (pv 3) (fun _ _ => rfl))) pa_nil)))))))))))), ?_⟩)
  · obtain ⟨vr, vl, ns, ss, rfl, _⟩ := h; rfl
  · obtain ⟨vr, vl, ns, ss, rfl, hR, hL, hok, hss, q⟩ := h
    have ⟨x, dx, tp, c, ex, hx, ht⟩ := hR
    have ⟨y, dy, ts, tl, ey, hy, hts, htl⟩ := hL
    subst ex ey
    refine seq_ ⟨_, rfl, .ref x, "ring", ns, rfl, hR, ?_⟩
    dsimp only
    refine seq_ ⟨_, rfl, .ref y, "lineup", ss, rfl, hL, ?_⟩
    dsimp only
    have em : manyOf ss = (ns.length : Int) := by rw [manyOf_eq, hss.flen]
    refine q_skip (fun Z z => op_ (rd_fld T.cl_LineUp rfl hy T.na_LineUp_many rfl (cb1 (rd_fld T.cl_Ring rfl hx T.na_Ring_lengths rfl ⟨tp, _, rfl, Or.inr (Evl.st_of ht), rfl, false, ?_, z _ (Same.refl _)⟩)))) fun H1 e1 => ?_
    · rw [List.length_map, em]
      exact congrArg V.bl (by simp)
    refine seq_ (asg_ (rd_lcU (R := rRow) (RO := rInt) (as := right ss) (netOf ns) (fun Z z => rd_fld T.cl_LineUp rfl (e1 _ _ hy) T.na_LineUp_strands rfl (z _ _ (Same.refl _) (Mn.mn e1 hts))) (by rw [right_len]; have := hss.len; omega) (fun st hst v H2 Z e2 r k => ⟨rfl, ?_⟩) (fun v2 H2 e2 h2 => ?_)))
    · exact ⟨_, rfl, _, rfl, _, _, ns, st, rfl, Mn.mn (e1.trans e2) hR, r, netOk_right hss hst, fun H' e' => k _ _ e' rfl⟩
    · have h2 : rInts H2 v2 (netsOf ns ss) := h2
      have hnl : (netsOf ns ss).length ≤ 8 := by unfold netsOf; rw [List.length_map, right_len]; exact hss.len
      refine nm_ ?_
      dsimp only
      have ⟨D, ys, eD, hD, hp⟩ := h2
      subst eD
      rw [ints_of hp] at hD
      refine seq_ ⟨_, rfl, _, _, rfl, h2, hnl, fun H3 e3 => ?_⟩
      refine nm_ ?_
      dsimp only
      have e123 := (e1.trans e2).trans e3
      cases hg : greats (netsOf ns ss) with
      | nil =>
        refine seq_ ⟨_, rfl, rfl, true, rfl, ifT rfl ?_⟩
        refine ⟨_, rfl, rd_Nets (Mn.mn e3 h2) (by omega) fun v' H4 e4 h4 => ?_⟩
        exact q _ _ (e123.trans e4) (Or.inl ⟨hg, h4⟩)
      | cons i r =>
        obtain ⟨j, rfl, z, hz, hgt⟩ := greats_mem (i := i) (by rw [hg]; exact List.mem_cons_self)
        have hst : ∃ st, (right ss)[j]? = some st ∧ netOf ns st = z := by
          unfold netsOf at hz
          rw [List.getElem?_map] at hz
          cases hs : (right ss)[j]? with
          | none => rw [hs] at hz; cases hz
          | some st => rw [hs] at hz; exact ⟨st, rfl, Option.some.inj hz⟩
        obtain ⟨st, hst, hzz⟩ := hst
        refine seq_ ⟨_, rfl, rfl, false, rfl, ifF rfl ?_⟩
        unfold tNext
        dsimp only
        have ⟨a, us, ea, ha, hp2⟩ := (Mn.mn e123 htl : rLots H3 tl ((right ss).map lotOf))
        subst ea
        obtain ⟨lv, hlv, hlot⟩ := hp2.at2 (i := j) (b := lotOf st) (by rw [List.getElem?_map, hst]; rfl)
        have hnz : atI ((netsOf ns ss).map V.int) (j : Int) = some (.int z) := atI_nat (by rw [List.getElem?_map, hz]; rfl)
        have hD3 := e3 _ _ hD
        refine ret_ ?_
        refine (op_ (rd_fld T.cl_LineUp rfl (e123 _ _ hy) T.na_LineUp_lots rfl ⟨_, rfl, a, us, (j : Int), lv, rfl, rfl, Evl.st_of ha, atI_nat hlv, ?_⟩))
        refine ⟨_, rfl, _, rfl, D, _, (j : Int), _, rfl, rfl, Evl.sq_of hD3, hnz, ?_⟩
        refine ⟨_, rfl, D, _, rfl, Evl.sq_of hD3, _, rfl, _, rfl, D, _, (j : Int), _, rfl, rfl, Evl.sq_of hD3, hnz, _, _, rfl, rfl, ?_⟩
        refine rd_TG hlot ?_ fun v' H4 e4 h4 => q _ _ (e123.trans e4) (Or.inr ⟨j, r, z, st, hg, hz, hgt, hst, h4⟩)
        have := (netOk_right hss (List.mem_of_getElem? hst)).1
        unfold lotOf
        rw [List.length_map]
        omega
theorem G_can_line (T : Tx P K mg) : DefOk P w K mg base CX0 7 "can_line" (spCan K) := by
  obtain ⟨f, fd, hm, F⟩ := T.d_can_line.ex
  exact ⟨f, fd, _, hm, F.kp, b_can_line F, F_can_line T F⟩
/-- can_line(lineup = .., ring = ..) -/
def swK (us ws : List Value) : List Value := match us, ws with
  | [], [a, b] => [b, a]
  | _, _ => []
def swV (us ws : List V) : List V := match us, ws with
  | [], [a, b] => [b, a]
  | _, _ => []
theorem kb_can_line {x qual : Str} {f : Addr} {fd : FuncData} (F : FunD K x qual (defArgs s_can_line) (defBody s_can_line) (defScope s_can_line) [] [] f fd) : KBinds K fd ["ring", "lineup"] ["lineup", "ring"] swK swV := by
  obtain ⟨oc, od, dV, kV, doc, pm, an, cdv, ct, osl, rfl, lk, hcd, hD, hK⟩ := F.ex
  rcases hD with ⟨_, rfl⟩ | ⟨e, _⟩
  · refine ⟨fun s us ws _ hl => ?_, fun {vs us zs ws} r rz => ?_⟩
    · match us, ws, hl with
      | [], [a, b], _ => exact .of_eq rfl
      | [], [], h => simp [swK] at h
      | [], [_], h => simp [swK] at h
      | [], _ :: _ :: _ :: _, h => simp [swK] at h
      | _ :: _, _, h => simp [swK] at h
    · cases r with
      | nil =>
        cases rz with
        | nil => exact .nil
        | cons r1 t1 =>
          cases t1 with
          | nil => exact .nil
          | cons r2 t2 =>
            cases t2 with
            | nil => exact .cons r2 (.cons r1 .nil)
            | cons r3 t3 => exact .nil
      | cons r1 t1 => exact .nil
  · exact absurd rfl e
end KB

-- part KD1
namespace KB
open PySem PySem.Spec PyProof.Rows L2
section
variable {c : TT} {t u w : TS} {D : Ends} {σ : L2.St} {H : Hp} {te to ti : TE} {i : Nat} {r : TSet}
theorem q_set (h : te σ H fun v H1 => u D (σ.set i (some v)) H1) : tSeq (tAsg te (gName i)) u D σ H := h
theorem q_sub (h : te σ H fun v H1 => to σ H1 fun o H2 => ti σ H2 fun i H3 => r o i v H3 fun H4 => u D σ H4) : tSeq (tAsg te (gSub to ti r)) u D σ H := h
theorem q_if (h : c σ H fun b H1 => if b = true then t { D with nx := u D } σ H1 else u D σ H1) : tSeq (tIfS c t tNext) u D σ H := h
theorem q_ifa (h : c σ H fun b H1 => if b = true then te σ H1 (fun v H2 => u D (σ.set i (some v)) H2) else u D σ H1) : tSeq (tIfS c (tAsg te (gName i)) tNext) u D σ H := h
theorem q_ifJ (bb : Bool) (v : V) (hc : ∀ Z : Bool → Hp → Prop, (∀ H1, Same H H1 → Z bb H1) → c σ H Z) (ht : bb = true → ∀ H1, Same H H1 → ∀ Z : VK, (∀ H2, Same H1 H2 → Z v H2) → te σ H1 Z) (hf : bb = false → σ.set i (some v) = σ)
    (k : ∀ H2, Same H H2 → u D (σ.set i (some v)) H2) : tSeq (tIfS c (tAsg te (gName i)) tNext) u D σ H := by
  refine q_ifa (hc _ fun H1 e1 => ?_)
  cases bb with
  | true => exact ifT rfl (ht rfl H1 e1 _ fun H2 e2 => k H2 (e1.trans e2))
  | false =>
    refine ifF rfl ?_
    have h := k H1 e1
    rw [hf rfl] at h
    exact h
theorem q_ifB (bb : Bool) (hc : ∀ Z : Bool → Hp → Prop, (∀ H1, Same H H1 → Z bb H1) → c σ H Z) (ht : bb = true → ∀ H1, Same H H1 → t { D with nx := u D } σ H1) (k : bb = false → ∀ H1, Same H H1 → u D σ H1) : tSeq (tIfS c t tNext) u D σ H := by
  refine q_if (hc _ fun H1 e1 => ?_)
  cases bb with
  | true => exact ifT rfl (ht rfl H1 e1)
  | false => exact ifF rfl (k rfl H1 e1)
theorem q_drop (h : te σ H fun _ H1 => u D σ H1) : tSeq (tDrop te) u D σ H := h
end
variable {P : Program} {w : World} {K : PySem.W.Frag} {mg : Str → Option Value} {base : Heap}
/-! ### the bench -/
def Bench (b c : Addr) (n : Int) (H : Hp) : Prop := ∃ (t g : Int) (cells : List Int), H b = some (.lst [.ref c, .int t, .int g]) ∧ c ≠ b ∧ H c = some (.lst (cells.map V.int)) ∧ cells.length ≤ 58 ∧ 0 ≤ t ∧ t ≤ n ∧ 0 ≤ g
theorem Bench.mono {b c : Addr} {n m : Int} {H : Hp} (h : Bench b c n H) (hm : n ≤ m) : Bench b c m H := by
  obtain ⟨t, g, cells, h1, h2, h3, h4, h5, h6, h7⟩ := h
  exact ⟨t, g, cells, h1, h2, h3, h4, h5, by omega, h7⟩
theorem Bench.same {b c : Addr} {n : Int} {H H' : Hp} (h : Bench b c n H) (e : Same H H') : Bench b c n H' := by
  obtain ⟨t, g, cells, h1, h2, h3, h4⟩ := h
  exact ⟨t, g, cells, e _ _ h1, h2, e _ _ h3, h4⟩
theorem Bench.fresh {b c l : Addr} {n : Int} {H : Hp} (h : Bench b c n H) (hl : H l = none) : l ≠ b ∧ l ≠ c := by
  obtain ⟨t, g, cells, h1, h2, h3, h4⟩ := h
  exact ⟨(ne_of_none h1 hl).symm, (ne_of_none h3 hl).symm⟩
theorem Bench.mut {b c l : Addr} {n : Int} {H : Hp} {o : HO} (h : Bench b c n H) (hl : l ≠ b ∧ l ≠ c) : Bench b c n (upd H l o) := by
  obtain ⟨t, g, cells, h1, h2, h3, h4⟩ := h
  exact ⟨t, g, cells, by rw [upd_ne hl.1.symm]; exact h1, h2, by rw [upd_ne hl.2.symm]; exact h3, h4⟩
/-- all but the bench at b is as it was -/
def But (b : Addr) (H H' : Hp) : Prop := Same (del H b) (del H' b)
theorem But.trans {b : Addr} {H H1 H2 : Hp} (h : But b H H1) (k : But b H1 H2) : But b H H2 := Same.trans h k
theorem But.of {b : Addr} {H H' : Hp} (h : Same H H') : But b H H' := del_mono h
theorem But.set1 {b : Addr} {H : Hp} {o : HO} : But b H (upd H b o) := by
  unfold But
  rw [del_upd]
  exact Same.refl _
theorem But.at {b a : Addr} {H H' : Hp} {o : HO} (h : But b H H') (hn : a ≠ b) (e : H a = some o) : H' a = some o := by
  have h1 : del H b a = some o := by rw [del_ne hn]; exact e
  have h2 := h a o h1
  rw [del_ne hn] at h2
  exact h2
def spDraw : Sp := fun vs H Q _ => ∃ b c m n, vs = [.ref b, .int m] ∧ Bench b c n H ∧ n < 100000 ∧ (0 < m ∧ m < 1000000000) ∧ ∀ d H', (0 ≤ d ∧ d < m) → Bench b c (n + 1) H' → But b H H' → Q (.int d) H'
theorem G_law_draw (T : Tx P K mg) : DefOk P w K mg base CX0 1 "_law_draw" spDraw := by
  obtain ⟨f, fd, hm, F⟩ := T.d_law_draw.ex
  have nd := sc_law_draw.nd
  refine ⟨f, fd, _, hm, F.kp, b_law_draw F, F.ok sc_law_draw (fun vs H Q E h => ?_) (fun cdv A outer s H vs Q E hr h => ⟨_, PSs.nox 
      (pss_cons (ps_if (pt_cmpR op_gt (pe_ix (ix_listK K) (pv 0) pe_int (fun _ _ => rfl)) pe_int (nomark _)) 
          (pss_cons (ps_set (i := 2) nd rfl (Or.inl rfl) (pe_op op_mod (pe_callTy call_int1 rfl T.f_int (by decide +kernel) (pa_cons (pe_ix (ix_listK K) (pv 0) pe_int (fun _ _ => rfl)) pa_nil)) (pv 1))) 
          (pss_cons (ps_asg (pe_op op_fdiv (pe_callTy call_int1 rfl T.f_int (by decide +kernel) (pa_cons (pe_ix (ix_listK K) (pv 0) pe_int (fun _ _ => rfl)) pa_nil)) (pv 1)) (pg_sub (pv 0) pe_int set_list)) 
          (pss_one (ps_ret (pv 2))))) pss_nil) 
      (pss_cons (ps_set (i := 3) nd rfl (Or.inl rfl) (pe_ix (ix_listK K) (pv 0) pe_int (fun _ _ => rfl))) 
      (pss_cons (ps_asg (pe_op op_add (pv 3) pe_int) (pg_sub (pv 0) pe_int set_list)) 
      (pss_cons (ps_set (i := 4) nd rfl (Or.inl rfl) (pe_op op_add (pe_op op_mul pe_int (pv 3)) pe_int)) 
      (pss_cons (ps_if (pt_cmpR (op_neD hr.units) (pe_ix (ix_listK K) (pv 0) pe_int (fun _ _ => rfl)) (pe_lst pa_nil) (nomark _)) 
          (pss_one (ps_set (i := 4) nd rfl (Or.inl rfl) (pe_ix (ix_listK K) (pe_ix (ix_listK K) (pv 0) pe_int (fun _ _ => rfl)) (pe_op op_mod (pe_callTy call_int1 rfl T.f_int (by decide +kernel) (pa_cons (pv 3) pa_nil)) (pe_callB (call_lenK K) rfl T.f_len (by decide +kernel) (pa_cons (pe_ix (ix_listK K) (pv 0) pe_int (fun _ _ => rfl)) pa_nil))) (fun _ _ => rfl)))) pss_nil) 
      (pss_cons (ps_if (PW.pt (pw_and (pt_cmpR op_lt (pv 3) (pe_callB (call_lenK K) rfl T.f_len (by decide +kernel) (pa_cons (pe_ix (ix_listK K) (pv 0) pe_int (fun _ _ => rfl)) pa_nil)) (nomark _)) (pw_and1 (pt_cmpR op_ge (pe_callB call_abs rfl T.f_abs (by decide +kernel) (pa_cons (pv 4) pa_nil)) (pe_op op_pow pe_int pe_int) (nomark _))))) 
          (pss_cons (ps_set (i := 5) nd rfl (Or.inl rfl) (pe_op op_add (pe_op op_mul pe_int (pe_op op_sub (pe_callB call_abs rfl T.f_abs (by decide +kernel) (pa_cons (pv 4) pa_nil)) (pe_op op_pow pe_int pe_int))) (pe_callTy call_int1 rfl T.f_int (by decide +kernel) (pa_cons (pe_cmpR op_lt (pv 4) pe_int (nomark _)) pa_nil)))) 
          (pss_cons (ps_asg (pe_op op_fdiv (pe_callTy call_int1 rfl T.f_int (by decide +kernel) (pa_cons (pv 5) pa_nil)) (pv 1)) (pg_sub (pv 0) pe_int set_list)) 
          (pss_one (ps_ret (pe_op op_mod (pe_callTy call_int1 rfl T.f_int (by decide +kernel) (pa_cons (pv 5) pa_nil)) (pv 1)))))) pss_nil) 
      (pss_cons (ps_set (i := 6) nd rfl (Or.inl rfl) (pe_op op_mod (pe_callTy call_int1 rfl T.f_int (by decide +kernel) (pa_cons (pe_op op_pow (pe_op op_add (pe_op op_add (pe_op op_mod (pe_callTy call_int1 rfl T.f_int (by decide +kernel) (pa_cons (pv 4) pa_nil)) pe_int) (pe_op op_mul pe_int (pv 3))) pe_int) pe_int) pa_nil)) pe_int)) 
      (pss_cons (ps_set (i := 6) nd rfl (Or.inl rfl) (pe_op op_mod (pe_callTy call_int1 rfl T.f_int (by decide +kernel) (pa_cons (pe_op op_pow (pe_op op_add (pe_op op_add (pe_op op_mul (pv 6) (pe_op op_add (pe_op op_mul pe_int (pv 3)) pe_int)) (pe_op op_mul (pe_op op_mul pe_int (pv 3)) (pv 3))) pe_int) pe_int) pa_nil)) pe_int)) 
      (pss_one (ps_ret (pe_op op_mod (pe_callTy call_int1 rfl T.f_int (by decide +kernel) (pa_cons (pe_op op_fdiv (pv 6) pe_int) pa_nil)) (pv 1)))))))))))), ?_⟩)⟩
  · obtain ⟨b, c, m, n, rfl, _⟩ := h; rfl
  · obtain ⟨b, c, m, n, rfl, ⟨t, g, cells, hb, hcb, hc, hcl, ht0, htn, hg0⟩, hn, ⟨hm0, hm1⟩, q⟩ := h
    have cdiv : CDiv g m := ⟨hm0, by omega⟩
    refine q_if ⟨_, rfl, b, _, 2, _, rfl, rfl, Evl.sq_of hb, rfl, g, 0, rfl, rfl, _, rfl, ?_⟩
    by_cases hgp : 0 < g
    · refine ifT (decide_eq_true hgp) ?_
      refine q_set ⟨_, rfl, b, _, 2, _, rfl, rfl, Evl.sq_of hb, rfl, Or.inl ⟨g, rfl, _, rfl, g, m, rfl, rfl, hm0, ?_⟩⟩
      refine q_sub ⟨_, rfl, b, _, 2, _, rfl, rfl, Evl.sq_of hb, rfl, Or.inl ⟨g, rfl, _, rfl, g, m, rfl, rfl, cdiv, ?_⟩⟩
      refine ⟨_, rfl, b, _, 2, 2, rfl, rfl, hb, rfl, ?_⟩
      refine ⟨_, rfl, q _ _ ⟨Int.emod_nonneg _ (by omega), Int.emod_lt_of_pos _ hm0⟩ ?_ But.set1⟩
      exact ⟨t, g / m, cells, upd_same, hcb, by rw [upd_ne hcb]; exact hc, hcl, ht0, by omega, Int.ediv_nonneg hg0 (by omega)⟩
    · refine ifF (decide_eq_false hgp) ?_
      refine q_set ⟨_, rfl, b, _, 1, _, rfl, rfl, Evl.sq_of hb, rfl, ?_⟩
      refine q_sub ⟨_, rfl, t, 1, rfl, rfl, _, rfl, b, _, 1, 1, rfl, rfl, hb, rfl, ?_⟩
      have g1 : upd H b (.lst [.ref c, .int (t + 1), .int g]) b = some (.lst [.ref c, .int (t + 1), .int g]) := upd_same
      have c1 : upd H b (.lst [.ref c, .int (t + 1), .int g]) c = some (.lst (cells.map V.int)) := by rw [upd_ne hcb]; exact hc
      have b1 : But b H (upd H b (.lst [.ref c, .int (t + 1), .int g])) := But.set1
      show tSeq _ _ _ _ (upd H b (.lst [.ref c, .int (t + 1), .int g]))
      generalize upd H b (.lst [.ref c, .int (t + 1), .int g]) = H1 at g1 c1 b1 ⊢
      refine q_set ⟨_, rfl, 63031, t, rfl, rfl, Or.inl (by omega), _, _, rfl, rfl, ?_⟩
      have hcell : ∃ cell : Int, (cells = [] → cell = 63031 * t + 2207) ∧ (cells ≠ [] → atI (cells.map V.int) (t % (cells.length : Int)) = some (.int cell)) := by
        by_cases hce : cells = []
        · exact ⟨_, fun _ => rfl, fun z => absurd hce z⟩
        · have hl : 0 < cells.length := List.length_pos_iff.mpr hce
          have h1 : 0 ≤ t % (cells.length : Int) := Int.emod_nonneg _ (by omega)
          have h2 : t % (cells.length : Int) < (cells.length : Int) := Int.emod_lt_of_pos _ (by omega)
          exact ⟨_, fun z => absurd z hce, fun _ => len_at ⟨h1, h2⟩⟩
      obtain ⟨cell, hce0, hce1⟩ := hcell
      have hlen1 : ((cells.map V.int).length : Int) = (cells.length : Int) := by rw [List.length_map]
      refine q_ifJ (!decide (cells = [])) (.int cell) (fun Z z => ?_) (fun hbb H2 e2 Z z => ?_) (fun hbb => ?_) fun H2 e2 => ?_
      · refine ⟨_, rfl, b, _, 0, _, rfl, rfl, Evl.sq_of g1, rfl, by decide, fun l hl => ?_⟩
        have e3 := new_same (o := .lst []) hl
        refine ⟨_, _, .lst (Evl.sq_of (e3 _ _ c1)) (dpall (R := rInt) (of_ints cells (H := H1))), .lst (Evl.sq_of upd_same) (dpall (R := rInt) (of_ints [] (H := H1))), (sh_ints _).1, (sh_ints []).1, _, rfl, ?_⟩
        have e9 : PyData.eqv (.list (cells.map .int)) (.list (([] : List Int).map .int)) = decide (cells = []) := by rw [PyData.eqv, eqv_ints]
        rw [e9]
        exact z _ e3
      · have hne : cells ≠ [] := by simpa using hbb
        have hl : 0 < cells.length := List.length_pos_iff.mpr hne
        refine ⟨_, rfl, b, _, 0, _, rfl, rfl, Evl.sq_of (e2 _ _ g1), rfl, ?_⟩
        refine ⟨_, rfl, Or.inl ⟨t, rfl, ?_⟩⟩
        refine ⟨_, rfl, b, _, 0, _, rfl, rfl, Evl.sq_of (e2 _ _ g1), rfl, c, _, rfl, Or.inl (Evl.sq_of (e2 _ _ c1)), ?_⟩
        refine ⟨t, _, rfl, rfl, (by show (0 : Int) < _; rw [hlen1]; omega), c, _, _, _, rfl, rfl, Evl.sq_of (e2 _ _ c1), ?_, z _ (Same.refl _)⟩
        rw [hlen1]
        exact hce1 hne
      · have he : cells = [] := by simpa using hbb
        rw [hce0 he]
        rfl
      have g2 := e2 _ _ g1
      have c2 := e2 _ _ c1
      have b2 : But b H H2 := b1.trans (But.of e2)
      have hpow : ((10 : Int) ^ (18 : Int).toNat) = 1000000000000000000 := by decide
      have hcp : CPow 10 18 := ⟨by decide, by decide, by decide⟩
      refine q_ifB (decide (t < (cells.length : Int)) && decide (1000000000000000000 ≤ absI cell)) (fun Z z => ?_) (fun hbb H3 e3 => ?_) fun hbb H3 e3 => ?_
      · refine ⟨_, rfl, _, rfl, b, _, 0, _, rfl, rfl, Evl.sq_of g2, rfl, c, _, rfl, Or.inl (Evl.sq_of c2), t, _, rfl, rfl, _, rfl, ?_⟩
        by_cases h1 : t < (cells.length : Int)
        · refine ifT (decide_eq_true (by rw [hlen1]; exact h1)) ⟨_, rfl, cell, rfl, 10, 18, rfl, rfl, hcp, _, _, rfl, rfl, _, rfl, ?_⟩
          rw [hpow, decide_eq_true h1, Bool.true_and] at *
          exact z _ (Same.refl _)
        · refine ifF (decide_eq_false (by rw [hlen1]; exact h1)) ?_
          rw [decide_eq_false h1, Bool.false_and] at z
          exact z _ (Same.refl _)
      · have ha : 1000000000000000000 ≤ absI cell := by
          simp only [Bool.and_eq_true, decide_eq_true_eq] at hbb
          exact hbb.2
        have g3 := e3 _ _ g2
        have c3 := e3 _ _ c2
        have b3 : But b H H3 := b2.trans (But.of e3)
        refine q_set ⟨_, rfl, cell, rfl, 10, 18, rfl, rfl, hcp, _, _, rfl, rfl, 2, _, rfl, rfl, Or.inl (by omega), _, rfl, cell, 0, rfl, rfl, Or.inr ⟨_, rfl, _, _, rfl, rfl, ?_⟩⟩
        dsimp only
        rw [hpow]
        have hg : 0 ≤ 2 * ((if cell < 0 then -cell else cell) - 1000000000000000000) + (if decide (cell < 0) = true then 1 else 0) := by
          have : absI cell = if cell < 0 then -cell else cell := rfl
          rw [← this]
          split <;> omega
        generalize 2 * ((if cell < 0 then -cell else cell) - 1000000000000000000) + (if decide (cell < 0) = true then 1 else 0) = gr at hg ⊢
        refine q_sub ⟨_, rfl, Or.inl ⟨gr, rfl, _, rfl, gr, m, rfl, rfl, ⟨hm0, by omega⟩, _, rfl, b, _, 2, 2, rfl, rfl, g3, rfl, ?_⟩⟩
        refine ⟨_, rfl, Or.inl ⟨gr, rfl, _, rfl, gr, m, rfl, rfl, hm0, ?_⟩⟩
        refine q _ _ ⟨Int.emod_nonneg _ (by omega), Int.emod_lt_of_pos _ hm0⟩ ?_ (b3.trans But.set1)
        exact ⟨t + 1, gr / m, cells, upd_same, hcb, by rw [upd_ne hcb]; exact c3, hcl, by omega, by omega, Int.ediv_nonneg hg (by omega)⟩
      · have g3 := e3 _ _ g2
        have c3 := e3 _ _ c2
        have b3 : But b H H3 := b2.trans (But.of e3)
        have r0 : 0 ≤ cell % 2147483587 ∧ cell % 2147483587 < 2147483587 := ⟨Int.emod_nonneg _ (by decide), Int.emod_lt_of_pos _ (by decide)⟩
        refine q_set ⟨_, rfl, Or.inl ⟨cell, rfl, _, _, rfl, rfl, (by show (0:Int) < 2147483587; decide), _, rfl, 61043, t, rfl, rfl, Or.inl (by omega), _, _, rfl, rfl, _, _, rfl, rfl, _, 5, rfl, rfl, ⟨by decide, by decide, by omega⟩, ?_⟩⟩
        refine Or.inl ⟨_, rfl, _, _, rfl, rfl, (by show (0:Int) < 2147483629; decide), ?_⟩
        have r1 : 0 ≤ (cell % 2147483587 + 61043 * t + 2207) ^ (5 : Int).toNat % 2147483629 ∧ (cell % 2147483587 + 61043 * t + 2207) ^ (5 : Int).toNat % 2147483629 < 2147483629 := ⟨Int.emod_nonneg _ (by decide), Int.emod_lt_of_pos _ (by decide)⟩
        dsimp only
        generalize (cell % 2147483587 + 61043 * t + 2207) ^ (5 : Int).toNat % 2147483629 = mx at r1 ⊢
        have r2 : 0 ≤ mx * (2 * t + 2311) ∧ mx * (2 * t + 2311) ≤ 2147483629 * (2 * 100000 + 2311) := ⟨Int.mul_nonneg r1.1 (by omega), Int.mul_le_mul (by omega) (by omega) (by omega) (by decide)⟩
        have r3 : 0 ≤ 63031 * t * t ∧ 63031 * t * t ≤ 63031 * 100000 * 100000 := ⟨Int.mul_nonneg (by omega) ht0, Int.mul_le_mul (by omega) (by omega) (by omega) (by decide)⟩
        refine q_set ⟨_, rfl, _, rfl, 2, t, rfl, rfl, Or.inl (by omega), _, _, rfl, rfl, mx, _, rfl, rfl, Or.inl (by omega), ?_⟩
        refine ⟨_, rfl, 63031, t, rfl, rfl, Or.inl (by omega), _, rfl, _, t, rfl, rfl, Or.inr (by omega), _, _, rfl, rfl, _, _, rfl, rfl, _, 3, rfl, rfl, ⟨by decide, by decide, by omega⟩, ?_⟩
        refine Or.inl ⟨_, rfl, _, _, rfl, rfl, (by show (0:Int) < 2147483549; decide), ?_⟩
        refine ⟨_, rfl, _, 64, rfl, rfl, ⟨by decide, by decide⟩, Or.inl ⟨_, rfl, _, rfl, _, m, rfl, rfl, hm0, ?_⟩⟩
        exact q _ _ ⟨Int.emod_nonneg _ (by omega), Int.emod_lt_of_pos _ hm0⟩ ⟨t + 1, g, cells, g3, hcb, c3, hcl, by omega, by omega, hg0⟩ b3
end KB

-- part KD2
namespace KB
open PySem PySem.Spec PyProof.Rows L2
variable {P : Program} {w : World} {K : PySem.W.Frag} {mg : Str → Option Value} {base : Heap}
theorem But.mut {b l : Addr} {H H1 : Hp} {o : HO} (h : But b H H1) (hn : H l = none) : But b H (upd H1 l o) := by
  intro a u e
  have e0 : H a = some u := del_in a u e
  have hal : a ≠ l := ne_of_none e0 hn
  have hab : a ≠ b := by
    intro z
    rw [z, del_same] at e
    cases e
  rw [del_ne hab, upd_ne hal]
  have h1 := h a u e
  rw [del_ne hab] at h1
  exact h1
theorem But.refl {b : Addr} {H : Hp} : But b H H := Same.refl _
theorem But.free {b a : Addr} {H H1 : Hp} (h : But b H H1) (hn : H1 a = none) (hb : a ≠ b) : H a = none := by
  cases q : H a with
  | none => rfl
  | some o => rw [h.at hb q] at hn; cases hn
/-- a loop over range(n) -/
theorem rd_forR {n : Nat} {ta : TA} {g : TG} {tb : TS} {D : Ends} {σ : L2.St} {H : Hp} (hr : ∀ R : It → Hp → Prop, R (Itr 0 ((n : Int)).toNat) H → iRng1 ta σ H R) (Pv : Nat → L2.St → Hp → Prop) (h0 : Pv 0 σ H)
    (hs : ∀ i σ H, i < n → Pv i σ H → g (.int (0 + (i : Int))) σ H fun σ2 H2 => tb { D with nx := Pv (i + 1), ct := Pv (i + 1), bk := D.nx } σ2 H2) (hd : ∀ σ H, Pv n σ H → D.nx σ H) : tFor (iRng1 ta) g tb D σ H :=
  hr _ (for_range (n := ((n : Int)).toNat) Pv h0 (fun i σ H h p => hs i σ H (by simpa using h) p) (fun σ H p => hd σ H (by simpa using p)))
def spBench (K : PySem.W.Frag) : Sp := fun vs H Q _ => ∃ (s : Addr) (ns : List Int), vs = [.ref s] ∧ SqL K H s (ns.map V.int) ∧ ∀ b c H', Same H H' → H b = none → Bench b c 0 H' → Q (.ref b) H'
theorem perm_take {α : Type} : ∀ {ls : List α} {j : Nat} (hj : j < ls.length), ([ls[j]] ++ ls.eraseIdx j).Perm ls
  | x :: ls, 0, _ => by simp
  | x :: ls, j + 1, hj => by
    have h := perm_take (ls := ls) (j := j) (by simpa using hj)
    simp only [List.getElem_cons_succ, List.eraseIdx_cons_succ]
    refine List.Perm.trans ?_ (List.Perm.cons x h)
    exact List.Perm.swap _ _ _
theorem cut_take (xs : List V) (k : Nat) : cutV xs none (some (k : Int)) = xs.take k := by
  unfold cutV
  rw [HT.sIx_none, HT.sIx_nat, List.drop_zero, Nat.sub_zero]
  by_cases h : k ≤ xs.length
  · rw [Nat.min_eq_left h]
  · rw [Nat.min_eq_right (by omega), List.take_length, List.take_of_length_le (by omega)]
theorem cut_drop (xs : List V) (k : Nat) : cutV xs (some (k : Int)) none = xs.drop k := by
  unfold cutV
  rw [HT.sIx_none, HT.sIx_nat]
  by_cases h : k ≤ xs.length
  · rw [Nat.min_eq_left h, List.take_of_length_le (by rw [List.length_drop]; omega)]
  · rw [Nat.min_eq_right (by omega), List.drop_length, List.drop_of_length_le (by omega), List.take_nil]
theorem cut_last (xs : List V) : cutV xs none (some (-1)) = xs.dropLast := by
  unfold cutV
  rw [HT.sIx_none, List.drop_zero, Nat.sub_zero, List.dropLast_eq_take]
  congr 1
  unfold HT.sIx
  simp only
  rw [if_pos (by decide)]
  omega
theorem G_law_bench (T : Tx P K mg) : DefOk P w K mg base CX0 1 "_law_bench" (spBench K) := by
  obtain ⟨f, fd, hm, F⟩ := T.d_law_bench.ex
  have nd := sc_law_bench.nd
  refine ⟨f, fd, _, hm, F.kp, b_law_bench F, F.ok sc_law_bench (fun vs H Q E h => ?_) (fun cdv A outer s H vs Q E hr h => ⟨_, PSs.nox 
      (pss_one (ps_ret (pe_lst (pa_cons (pe_lc (own := [(("_law_cell" : Str), 1)]) rfl nd (pi_listK K (pe_slice sl_list (pv 0) po_none (po_some pe_int))) (blkOk_by (own := [(("_law_cell" : Str), 1)]) (N := N_law_bench) (sc := defScope s_law_bench) (by decide +kernel)) (fun _ _ _ _ _ => pg_name (i := 1) nd rfl (Or.inl rfl)) (fun _ _ _ _ _ => pts_nil) (fun _ _ _ _ _ => (pe_callTy call_int1 rfl T.f_int (by decide +kernel) (pa_cons (pv 1) pa_nil)))) (pa_cons pe_int (pa_cons pe_int pa_nil)))))), ?_⟩)⟩
  · obtain ⟨s, ns, rfl, _⟩ := h; rfl
  · obtain ⟨s, ns, rfl, hs, q⟩ := h
    have hcut : cutV (ns.map V.int) none (some 58) = (ns.take 58).map V.int := by
      rw [show (58 : Int) = ((58 : Nat) : Int) from rfl, cut_take, List.map_take]
    refine ret_ ?_
    refine cons_ (rd_lcL (R := rInt) (RO := rInt) (as := ns.take 58) (fun i => i) (fun Z z => ⟨_, rfl, 58, rfl, s, _, rfl, hs, fun p hp => z _ _ (new_same hp) ⟨p, _, rfl, upd_same, hcut ▸ of_ints _⟩⟩) (by rw [List.length_take]; omega) (fun i hi y H2 Z e2 r k => ⟨rfl, ?_⟩) (fun v H2 e2 h2 => ?_))
    · obtain rfl : y = V.int i := r
      exact ⟨_, rfl, Or.inl ⟨i, rfl, k _ _ (Same.refl _) rfl⟩⟩
    · rw [List.map_id'] at h2
      obtain ⟨D, ys, rfl, hD, hp⟩ := h2
      rw [ints_of hp] at hD
      refine ⟨by show 3 ≤ sizeLine; decide, fun b hb => q b D _ (e2.trans (new_same hb)) (e2.free hb) ⟨0, 0, ns.take 58, upd_same, ne_of_none hD hb, by rw [upd_ne (ne_of_none hD hb)]; exact hD, by rw [List.length_take]; omega, Int.le_refl _, Int.le_refl _, Int.le_refl _⟩⟩
def spPick : Sp := fun vs H Q _ => ∃ b c p xs n, vs = [.ref b, .ref p] ∧ Bench b c n H ∧ n < 100000 ∧ H p = some (.lst xs) ∧ p ≠ b ∧ xs ≠ [] ∧ xs.length ≤ 100 ∧ ∀ x H', x ∈ xs → Bench b c (n + 1) H' → But b H H' → Q x H'
theorem G_law_pick (T : Tx P K mg) : DefOk P w K mg base CX0 2 "_law_pick" spPick := by
  obtain ⟨f, fd, hm, F⟩ := T.d_law_pick.ex
  have nd := sc_law_pick.nd
  refine ⟨f, fd, _, hm, F.kp, b_law_pick F, F.ok sc_law_pick (fun vs H Q E h => ?_) (fun cdv A outer s H vs Q E hr h => ⟨_, PSs.nox 
      (pss_one (ps_ret (pe_ix (ix_listK K) (pv 1) (pe_callD (G_law_draw T) (hr.mono (by decide)) rfl pass0 (pa_cons (pv 0) (pa_cons (pe_callB (call_lenK K) rfl T.f_len (by decide +kernel) (pa_cons (pv 1) pa_nil)) pa_nil))) (fun _ _ => rfl)))), ?_⟩)⟩
  · obtain ⟨b, c, p, xs, n, rfl, _⟩ := h; rfl
  · obtain ⟨b, c, p, xs, n, rfl, hb, hn, hp, hpb, hne, hl, q⟩ := h
    have hpos : 0 < xs.length := List.length_pos_iff.mpr hne
    refine ⟨_, rfl, _, rfl, _, rfl, p, xs, rfl, Or.inl (Evl.sq_of hp), b, c, _, n, rfl, hb, hn, ⟨by omega, by omega⟩, fun d H' hd hb' hbt => ?_⟩
    obtain ⟨j, rfl⟩ : ∃ j : Nat, d = (j : Int) := ⟨d.toNat, by omega⟩
    have hj : j < xs.length := by omega
    exact ⟨p, xs, (j : Int), xs[j], rfl, rfl, Evl.sq_of (hbt.at hpb hp), atI_nat (List.getElem?_eq_getElem hj), q _ _ (List.getElem_mem hj) hb' hbt⟩
def spMixed : Sp := fun vs H Q _ => ∃ b c p xs n, vs = [.ref b, .ref p] ∧ Bench b c n H ∧ n < 90000 ∧ H p = some (.lst xs) ∧ p ≠ b ∧ xs.length ≤ 100 ∧ ∀ f ys H', ys.Perm xs → H' f = some (.lst ys) → H f = none → Bench b c (n + xs.length) H' → But b H H' → Q (.ref f) H'
theorem G_law_mixed (T : Tx P K mg) : DefOk P w K mg base CX0 2 "_law_mixed" spMixed := by
  obtain ⟨f, fd, hm, F⟩ := T.d_law_mixed.ex
  have nd := sc_law_mixed.nd
  refine ⟨f, fd, _, hm, F.kp, b_law_mixed F, F.ok sc_law_mixed (fun vs H Q E h => ?_) (fun cdv A outer s H vs Q E hr h => ⟨_, PSs.nox 
      (pss_cons (ps_par (i := 2) (j := 3) rfl nd rfl rfl (by decide) rfl rfl (pa_cons (pe_callTy (call_listK K) rfl T.f_list (by decide +kernel) (pa_cons (pv 1) pa_nil)) (pa_cons (pe_lst pa_nil) pa_nil)) (by rfl)) 
      (pss_cons (ps_for PassesOwn.never rfl (pi_range1 rfl T.f_range (pa_cons (pe_callB (call_lenK K) rfl T.f_len (by decide +kernel) (pa_cons (pv 1) pa_nil)) pa_nil)) (pg_name (i := 4) nd rfl (Or.inl rfl)) 
          (pss_one (ps_expr (pe_bm PySem.F.plainAttrs_list PySem.F.slot_list_append PySem.F.type_list_append mt_append (pv 3) (pa_cons (pe_bm PySem.F.plainAttrs_list PySem.F.slot_list_pop PySem.F.type_list_pop mt_popAt (pv 2) (pa_cons (pe_callD (G_law_draw T) (hr.mono (by decide)) rfl pass0 (pa_cons (pv 0) (pa_cons (pe_callB (call_lenK K) rfl T.f_len (by decide +kernel) (pa_cons (pv 2) pa_nil)) pa_nil))) pa_nil)) pa_nil))))) 
      (pss_one (ps_ret (pv 3))))), ?_⟩)⟩
  · obtain ⟨b, c, p, xs, n, rfl, _⟩ := h; rfl
  · obtain ⟨b, c, p, xs, n, rfl, hb, hn, hp, hpb, hl, q⟩ := h
    refine seq_ ⟨_, rfl, p, xs, rfl, Or.inl (Evl.sq_of hp), fun l hl1 => ⟨by decide, fun f hf1 => ⟨_, _, rfl, ?_⟩⟩⟩
    dsimp only
    have hlb := hb.fresh hl1
    have hfl : f ≠ l := fun z => by rw [z, upd_same] at hf1; cases hf1
    have hf0 : H f = none := by rw [upd_ne hfl] at hf1; exact hf1
    have hfb := hb.fresh hf0
    have e1 := (new_same (o := .lst xs) hl1).trans (new_same (o := .lst []) hf1)
    have hll : upd (upd H l (.lst xs)) f (.lst []) l = some (.lst xs) := by rw [upd_ne hfl.symm, upd_same]
    refine seq_ (rd_forR (n := xs.length) (fun Z z => ⟨_, rfl, p, xs, rfl, Or.inl (Evl.sq_of (e1 _ _ hp)), _, rfl, by omega, by omega, z⟩)
      (fun i σ H' => ∃ x4 ls fs, σ = [some (.ref b), some (.ref p), some (.ref l), some (.ref f), x4] ∧ H' l = some (.lst ls) ∧ H' f = some (.lst fs) ∧ (fs ++ ls).Perm xs ∧ fs.length = i ∧ Bench b c (n + i) H' ∧ But b H H') ⟨none, xs, [], rfl, hll, upd_same, by simp, rfl, by simpa using hb.same e1, But.of e1⟩ (fun i σ H' hi hI => ?_) (fun σ H' hI => ?_))
    · obtain ⟨x4', ls, fs, rfl, h1, h2, h3, h4, h5, h6⟩ := hI
      have hlen : ls.length = xs.length - i := by
        have := h3.length_eq
        rw [List.length_append] at this
        omega
      refine nm_ ?_
      dsimp only
      refine ⟨_, rfl, Or.inl ⟨rfl, _, Evl.sq_of h2⟩, ⟨_, rfl, Or.inl ⟨rfl, _, Evl.sq_of h1⟩, ⟨_, rfl, _, rfl, l, ls, rfl, Or.inl (Evl.sq_of h1), b, c, _, n + i, rfl, h5, by omega, ⟨by omega, by omega⟩, fun d H2 hd hb2 hbt => ?_⟩⟩⟩
      obtain ⟨j, rfl⟩ : ∃ j : Nat, d = (j : Int) := ⟨d.toNat, by omega⟩
      have hj : j < ls.length := by omega
      have h1' := hbt.at hlb.1 h1
      have h2' := hbt.at hfb.1 h2
      refine ⟨l, ls, (j : Int), j, ls[j], rfl, rfl, h1', by omega, by omega, (ixN_seq (Evl.ixN_nat hj)).1, List.getElem?_eq_getElem hj, ?_⟩
      refine ⟨f, fs, ls[j], rfl, rfl, by rw [upd_ne hfl]; exact h2', Evl.sz_lt (by omega), ?_⟩
      refine ⟨some (.int (0 + (i : Int))), ls.eraseIdx j, fs ++ [ls[j]], rfl, ?_, upd_same, ?_, by simp [h4], ?_, ?_⟩
      · rw [upd_ne hfl.symm, upd_same]
      · refine List.Perm.trans ?_ h3
        rw [List.append_assoc]
        refine List.Perm.append_left _ ?_
        exact perm_take hj
      · have hb3 := (hb2.mut (o := .lst (ls.eraseIdx j)) hlb).mut (o := .lst (fs ++ [ls[j]])) hfb
        have e5 : n + (i : Int) + 1 = n + ((i + 1 : Nat) : Int) := by omega
        rw [e5] at hb3
        exact hb3
      · exact But.mut (But.mut (h6.trans hbt) hl1) hf0
    · obtain ⟨x4', ls, fs, rfl, h1, h2, h3, h4, h5, h6⟩ := hI
      have hls : ls = [] := by
        have := h3.length_eq
        rw [List.length_append] at this
        exact List.length_eq_zero_iff.mp (by omega)
      subst hls
      rw [List.append_nil] at h3
      dsimp only
      exact ⟨_, rfl, q f fs H' h3 h2 hf0 h5 h6⟩
end KB

-- part KD3
namespace KB
open PySem PySem.Spec PyProof.Rows L2
variable {P : Program} {w : World} {K : PySem.W.Frag} {mg : Str → Option Value} {base : Heap}
theorem rd_lcR {n : Nat} {ta : TA} {g : TG} {tt : TT} {te : TE} {vs : List Nat} {σ : L2.St} {H : Hp} {Q : VK} (hr : ∀ R : It → Hp → Prop, R (Itr 0 n) H → iRng1 ta σ H R) (Pv : Addr → Nat → Hp → Prop) (h0 : ∀ D, H D = none → Pv D 0 (upd H D (.lst [])))
    (hs : ∀ D i H', H D = none → i < n → Pv D i H' → g (.int (0 + (i : Int))) (wipe σ vs) H' fun σ2 H2 => wipe σ2 vs = wipe σ vs ∧ tt σ2 H2 fun b H3 => if b = true then te σ2 H3 fun y H4 => ∃ acc, H4 D = some (.lst acc) ∧ acc.length < sizeLine ∧ Pv D (i + 1) (upd H4 D (.lst (acc ++ [y]))) else Pv D (i + 1) H3)
    (hd : ∀ D H', H D = none → Pv D n H' → Q (.ref D) H') : tLc (iRng1 ta) g tt te vs σ H Q :=
  hr _ fun D hD => lc_range (Pv D) (h0 D hD) (fun i H' hi p => hs D i H' hD hi p) fun H' p => hd D H' hD p
theorem q_setJ {te : TE} {i : Nat} {u : TS} {D : Ends} {σ : L2.St} {H : Hp} (v : V) (hv : ∀ Z : VK, (∀ H1, Same H H1 → Z v H1) → te σ H Z) (k : ∀ H1, Same H H1 → u D (σ.set i (some v)) H1) : tSeq (tAsg te (gName i)) u D σ H := hv _ k
/-! ### sums, bounded -/
theorem sum_le {ns : List Int} {m : Int} (h : ∀ x ∈ ns, x ≤ m) : ns.sum ≤ (ns.length : Int) * m := by
  induction ns with
  | nil => simp
  | cons x r ih =>
    have h1 := h x List.mem_cons_self
    have h2 := ih fun y hy => h y (List.mem_cons_of_mem _ hy)
    rw [List.sum_cons, List.length_cons]
    have : ((r.length + 1 : Nat) : Int) * m = (r.length : Int) * m + m := by rw [Int.natCast_add, Int.add_mul]; simp
    omega
theorem sum_split {ns : List Int} {j : Nat} (hj : j < ns.length) : ns.sum = ns[j] + (ns.eraseIdx j).sum := by
  have h := perm_sum (perm_take hj)
  simp only [List.cons_append, List.nil_append, List.sum_cons] at h
  exact h.symm
theorem mem_set_of {ns : List Int} {j : Nat} {v x : Int} (h : x ∈ ns.set j v) : x ∈ ns ∨ x = v := by
  rcases List.mem_or_eq_of_mem_set h with h | h
  · exact Or.inl h
  · exact Or.inr h
def spLengths : Sp := fun vs H Q _ => ∃ b c m n, vs = [.ref b, .int m] ∧ Bench b c n H ∧ n < 90000 ∧ (3 ≤ m ∧ m ≤ 8) ∧ ∀ l ns H', H' l = some (.lst (ns.map V.int)) → LensOk ns → (ns.length : Int) = m → Bench b c (n + 13) H' → But b H H' → H l = none → Q (.ref l) H'
theorem G_law_lengths (T : Tx P K mg) : DefOk P w K mg base CX0 2 "_law_lengths" spLengths := by
  obtain ⟨f, fd, hm, F⟩ := T.d_law_lengths.ex
  have nd := sc_law_lengths.nd
  refine ⟨f, fd, _, hm, F.kp, b_law_lengths F, F.ok sc_law_lengths (fun vs H Q E h => ?_) (fun cdv A outer s H vs Q E hr h => ⟨_, PSs.nox 
      (pss_cons (ps_set (i := 2) nd rfl (Or.inl rfl) (pe_callD (G_law_draw T) (hr.mono (by decide)) rfl pass0 (pa_cons (pv 0) (pa_cons pe_int pa_nil)))) 
      (pss_cons (ps_set (i := 3) nd rfl (Or.inr rfl) (pe_ifExp (pt_cmpR op_lt (pv 2) pe_int (nomark _)) pe_int (pe_ifExp (pt_cmpR op_lt (pv 2) pe_int (nomark _)) pe_int (pe_op op_fdiv (pe_op op_pow pe_int pe_int) (pv 1))))) 
      (pss_cons (ps_setLc (i := 4) (own := [(("_law_bar" : Str), 6)]) rfl nd rfl rfl (sw_true rfl rfl rfl (by decide +kernel)) (pi_range1 rfl T.f_range (pa_cons (pv 1) pa_nil)) (blkOk_by (own := [(("_law_bar" : Str), 6)]) (N := N_law_lengths) (sc := defScope s_law_lengths) (by decide +kernel)) (fun _ _ _ _ _ => pg_name (i := 6) nd rfl (Or.inl rfl)) (fun _ _ _ _ _ => pts_nil) (fun _ _ _ _ _ => (pe_op op_add pe_int (pe_callD (G_law_draw T) (hr.mono (by decide)) rfl pass0 (pa_cons (pv 0) (pa_cons (pv 3) pa_nil)))))) 
      (pss_cons (ps_if (pt_cmpR op_eq (pe_callD (G_law_draw T) (hr.mono (by decide)) rfl pass0 (pa_cons (pv 0) (pa_cons pe_int pa_nil))) pe_int (nomark _)) 
          (pss_cons (ps_set (i := 5) nd rfl (Or.inl rfl) (pe_callD (G_law_draw T) (hr.mono (by decide)) rfl pass0 (pa_cons (pv 0) (pa_cons (pv 1) pa_nil)))) 
          (pss_cons (ps_asg (pe_op op_sub (pe_op op_add (pe_op op_sub (pe_callB (cr_sumK K rfl) rfl T.f_sum (by decide +kernel) (pa_cons (pv 4) pa_nil)) (pe_ix (ix_listK K) (pv 4) (pv 5) (fun _ _ => rfl))) (pe_callD (G_law_draw T) (hr.mono (by decide)) rfl pass0 (pa_cons (pv 0) (pa_cons pe_int pa_nil)))) pe_int) (pg_sub (pv 4) (pv 5) set_list)) 
          (pss_one (ps_asg (pe_callB (call_max2 rfl) rfl T.f_max (by decide +kernel) (pa_cons pe_int (pa_cons (pe_ix (ix_listK K) (pv 4) (pv 5) (fun _ _ => rfl)) pa_nil))) (pg_sub (pv 4) (pv 5) set_list))))) pss_nil) 
      (pss_one (ps_ret (pv 4))))))), ?_⟩)⟩
  · obtain ⟨b, c, m, n, rfl, _⟩ := h; rfl
  · obtain ⟨b, c, m, n, rfl, hb, hn, hm38, q⟩ := h
    refine q_set ⟨_, rfl, b, c, 8, n, rfl, hb, by omega, ⟨by decide, by decide⟩, fun way H1 hway hb1 hB1 => ?_⟩
    have hmost : ∃ mo : Int, (1 ≤ mo ∧ mo * m ≤ 1000000) ∧ (way < 4 → mo = 9) ∧ (¬ way < 4 → way < 6 → mo = 3) ∧ (¬ way < 4 → ¬ way < 6 → mo = 1000000 / m) := by
      by_cases h1 : way < 4
      · exact ⟨9, ⟨by decide, by omega⟩, fun _ => rfl, fun z => absurd h1 z, fun z => absurd h1 z⟩
      · by_cases h2 : way < 6
        · exact ⟨3, ⟨by decide, by omega⟩, fun z => absurd z h1, fun _ _ => rfl, fun _ z => absurd h2 z⟩
        · refine ⟨1000000 / m, ⟨?_, Int.ediv_mul_le _ (by omega)⟩, fun z => absurd z h1, fun _ z => absurd z h2, fun _ _ => rfl⟩
          exact Int.le_ediv_of_mul_le (by omega) (by omega)
    obtain ⟨mo, ⟨hmo1, hmo2⟩, hw1, hw2, hw3⟩ := hmost
    have hmo3 : mo * 3 ≤ mo * m := Int.mul_le_mul_of_nonneg_left hm38.1 (by omega)
    refine q_setJ (.int mo) (fun Z z => ⟨_, rfl, way, 4, rfl, rfl, _, rfl, ?_⟩) fun H2 e2 => ?_
    · by_cases h1 : way < 4
      · refine ifT (decide_eq_true h1) ?_
        rw [hw1 h1] at z
        exact z _ (Same.refl _)
      · refine ifF (decide_eq_false h1) ⟨_, rfl, way, 6, rfl, rfl, _, rfl, ?_⟩
        by_cases h2 : way < 6
        · refine ifT (decide_eq_true h2) ?_
          rw [hw2 h1 h2] at z
          exact z _ (Same.refl _)
        · refine ifF (decide_eq_false h2) ⟨10, 6, rfl, rfl, ⟨by decide, by decide, by decide⟩, _, rfl, _, m, rfl, rfl, ⟨by omega, by omega⟩, ?_⟩
          rw [hw3 h1 h2] at z
          exact z _ (Same.refl _)
    have hb2 := hb1.same e2
    have hB2 := hB1.trans (But.of e2)
    have hmn : ∃ k : Nat, m = (k : Int) := ⟨m.toNat, by omega⟩
    obtain ⟨mk, rfl⟩ := hmn
    refine seq_ (asg_ (rd_lcR (n := mk) (fun R r => ⟨_, rfl, _, rfl, by omega, by omega, by simpa using r⟩) (fun D i H' => ∃ ns : List Int, H' D = some (.lst (ns.map V.int)) ∧ ns.length = i ∧ (∀ x ∈ ns, 1 ≤ x ∧ x ≤ mo) ∧ Bench b c (n + 1 + i) H' ∧ But b H H') (fun D hD => ⟨[], upd_same, rfl, (fun x hx => by cases hx), ?_, hB2.mut (hB2.free hD (hb2.fresh hD).1)⟩) (fun D i H' hD hi hI => ?_) (fun D H' hD hI => ?_)))
    · simpa using hb2.mut (o := .lst []) (hb2.fresh hD)
    · obtain ⟨ns, h1, h2, h3, h4, h5⟩ := hI
      have hDf := hb2.fresh hD
      refine ⟨rfl, _, rfl, _, rfl, b, c, mo, n + 1 + i, rfl, h4, by omega, ⟨by omega, by omega⟩, fun d H3 hd hb3 hB3 => ⟨1, d, rfl, rfl, ns.map V.int, hB3.at hDf.1 h1, Evl.sz_lt (by rw [List.length_map]; omega), ns ++ [1 + d], ?_, by simp [h2], fun x hx => ?_, ?_, ?_⟩⟩
      · rw [upd_same, List.map_append]; rfl
      · rcases List.mem_append.mp hx with hx | hx
        · exact h3 x hx
        · rw [List.mem_singleton.mp hx]; omega
      · have := hb3.mut (o := .lst (ns.map V.int ++ [.int (1 + d)])) hDf
        rw [show n + 1 + (i : Int) + 1 = n + 1 + ((i + 1 : Nat) : Int) by omega] at this
        exact this
      · exact (h5.trans hB3).mut (hB2.free hD hDf.1)
    · obtain ⟨ns, h1, h2, h3, h4, h5⟩ := hI
      have hDf := hb2.fresh hD
      have hD0 := hB2.free hD hDf.1
      refine nm_ ?_
      dsimp only
      have hlens : ∀ ns' : List Int, ns'.length = mk → (∀ x ∈ ns', 1 ≤ x ∧ x ≤ 1000000) → LensOk ns' := fun ns' h h' => ⟨h', by omega, by omega⟩
      refine q_if ⟨_, rfl, b, c, 7, _, rfl, h4, by omega, ⟨by decide, by decide⟩, fun d H3 hd hb3 hB3 => ⟨rfl, _, rfl, ?_⟩⟩
      have hD3 := hB3.at hDf.1 h1
      by_cases hd0 : decide (V.int d = V.int 0) = true
      · refine ifT hd0 ?_
        refine q_set ⟨_, rfl, _, rfl, b, c, mk, _, rfl, hb3, by omega, ⟨by omega, by omega⟩, fun at_ H4 hat hb4 hB4 => ?_⟩
        have hD4 := hB4.at hDf.1 hD3
        obtain ⟨j, rfl⟩ : ∃ j : Nat, at_ = (j : Int) := ⟨at_.toNat, by omega⟩
        have hj : j < ns.length := by omega
        refine q_sub ⟨_, rfl, D, ns, rfl, Evl.sq_of hD4, _, rfl, _, rfl, D, _, (j : Int), .int ns[j], rfl, rfl, Evl.sq_of hD4, atI_nat (by rw [List.getElem?_map, List.getElem?_eq_getElem hj]; rfl), _, _, rfl, rfl, ?_⟩
        refine ⟨_, rfl, b, c, 3, _, rfl, hb4, by omega, ⟨by decide, by decide⟩, fun e H5 he hb5 hB5 => ⟨_, _, rfl, rfl, _, 1, rfl, rfl, ?_⟩⟩
        have hD5 := hB5.at hDf.1 hD4
        refine ⟨_, rfl, _, rfl, D, _, (j : Int), j, rfl, rfl, hD5, Evl.ixN_nat (by rw [List.length_map]; exact hj), ?_⟩
        have e6 : (ns.map V.int).set j (.int (ns.sum - ns[j] + e - 1)) = (ns.set j (ns.sum - ns[j] + e - 1)).map V.int := by rw [List.map_set]
        have hj' : j < (ns.set j (ns.sum - ns[j] + e - 1)).length := by rw [List.length_set]; exact hj
        have hg6 : (ns.set j (ns.sum - ns[j] + e - 1))[j] = ns.sum - ns[j] + e - 1 := List.getElem_set_self hj'
        have hB6 : But b H (upd H5 D (.lst ((ns.map V.int).set j (.int (ns.sum - ns[j] + e - 1))))) := ((((h5.trans hB3).trans hB4).trans hB5).mut hD0)
        have hb6 := hb5.mut (o := .lst ((ns.map V.int).set j (.int (ns.sum - ns[j] + e - 1)))) hDf
        have hD6 : upd H5 D (.lst ((ns.map V.int).set j (.int (ns.sum - ns[j] + e - 1)))) D = some (.lst ((ns.set j (ns.sum - ns[j] + e - 1)).map V.int)) := by rw [upd_same, e6]
        show tAsg _ _ _ _ (upd H5 D (.lst ((ns.map V.int).set j (.int (ns.sum - ns[j] + e - 1)))))
        generalize upd H5 D (.lst ((ns.map V.int).set j (.int (ns.sum - ns[j] + e - 1)))) = H6 at hB6 hb6 hD6 ⊢
        refine asg_ ⟨_, rfl, _, rfl, D, _, (j : Int), .int (ns.sum - ns[j] + e - 1), rfl, rfl, Evl.sq_of hD6, atI_nat (by rw [List.getElem?_map, List.getElem?_eq_getElem hj', hg6]; rfl), 1, _, rfl, ?_⟩
        refine ⟨_, rfl, _, rfl, D, _, (j : Int), j, rfl, rfl, hD6, Evl.ixN_nat (by rw [List.length_map]; exact hj'), ?_⟩
        have hsp := sum_split hj
        have hel : ((ns.eraseIdx j).length : Int) = mk - 1 := by rw [List.length_eraseIdx_of_lt hj]; omega
        have hes := sum_le (ns := ns.eraseIdx j) (m := mo) fun x hx => (h3 x (List.mem_of_mem_eraseIdx hx)).2
        rw [hel] at hes
        have hmm : ((mk : Int) - 1) * mo = mo * mk - mo := by rw [Int.sub_mul, Int.one_mul, Int.mul_comm]
        generalize hv : (if ns.sum - ns[j] + e - 1 > 1 then ns.sum - ns[j] + e - 1 else 1) = v
        have hv2 : 1 ≤ v ∧ v ≤ 1000000 := by
          subst hv
          split <;> omega
        have e7 : ((ns.set j (ns.sum - ns[j] + e - 1)).map V.int).set j (.int v) = (ns.set j v).map V.int := by
          rw [← List.map_set, List.set_set]
        dsimp only
        rw [e7]
        refine ⟨_, rfl, q D (ns.set j v) _ upd_same (hlens _ (by rw [List.length_set]; exact h2) fun x hx => ?_) (by rw [List.length_set]; omega) ?_ (hB6.mut hD0) hD0⟩
        · rcases mem_set_of hx with hx | hx
          · have := h3 x hx
            omega
          · omega
        · exact (hb6.mut hDf).mono (by omega)
      · refine ifF (by simpa using hd0) ?_
        refine ⟨_, rfl, q D ns H3 hD3 (hlens ns h2 fun x hx => ?_) (by omega) (hb3.mono (by omega)) (h5.trans hB3) hD0⟩
        have := h3 x hx
        omega
end KB

-- part KD4
namespace PySem
theorem Paired.ofAt {α β : Type} {F : α → β → Prop} : ∀ {l₁ : List α} {l₂ : List β}, l₁.length = l₂.length → (∀ (i : Nat) (a : α) (b : β), l₁[i]? = some a → l₂[i]? = some b → F a b) → Paired F l₁ l₂
  | [], [], _, _ => .nil
  | [], _ :: _, h, _ => by simp at h
  | _ :: _, [], h, _ => by simp at h
  | a :: l₁, b :: l₂, h, f => .cons (f 0 a b rfl rfl) (Paired.ofAt (by simpa using h) fun i x y h1 h2 => f (i + 1) x y (by simpa using h1) (by simpa using h2))
theorem Paired.both {α β : Type} {F : α → β → Prop} {l₁ : List α} {l₂ : List β} {i : Nat} {a : α} {b : β} (h : Paired F l₁ l₂) (h1 : l₁[i]? = some a) (h2 : l₂[i]? = some b) : F a b := by
  obtain ⟨c, hc, r⟩ := h.at h1
  rw [h2] at hc
  cases hc
  exact r
theorem Paired.mem1' {α β : Type} {F : α → β → Prop} {l₁ : List α} {l₂ : List β} (h : Paired F l₁ l₂) {a : α} (ha : a ∈ l₁) : ∃ b, F a b := by
  obtain ⟨i, hi⟩ := List.mem_iff_getElem?.mp ha
  obtain ⟨b, _, r⟩ := h.at hi
  exact ⟨b, r⟩
theorem Paired.mapL {α β γ : Type} {F : α → β → Prop} {f : γ → α} : ∀ {l : List γ} {l2 : List β}, Paired (fun c b => F (f c) b) l l2 → Paired F (l.map f) l2
  | _, _, .nil => .nil
  | _, _, .cons r t => .cons r (Paired.mapL t)
end PySem
namespace KB
open PySem PySem.Spec PyProof.Rows L2
variable {P : Program} {w : World} {K : PySem.W.Frag} {mg : Str → Option Value} {base : Heap}
theorem But.rl {α : Type} {R : Rl α} [Tn R] {b : Addr} {H H' : Hp} {v : V} {a : α} {xs : List V} (h : But b H H') (hb : H b = some (.lst xs)) (r : R H v a) : R H' v a := Mn.mn del_in (Mn.mn h (Tn.tn hb r))
theorem upd_rl {α : Type} {R : Rl α} [Tn R] {l : Addr} {H : Hp} {v : V} {a : α} {xs : List V} {o : HO} (hl : H l = some (.lst xs)) (r : R H v a) : R (upd H l o) v a := by
  refine Mn.mn (H := del H l) (fun c u e => ?_) (Tn.tn hl r)
  have hc : c ≠ l := by
    intro z
    rw [z, del_same] at e
    cases e
  rw [upd_ne hc]
  exact del_in c u e
theorem Bench.lst {b c : Addr} {n : Int} {H : Hp} (h : Bench b c n H) : ∃ xs, H b = some (.lst xs) := by
  obtain ⟨t, g, cells, h1, _⟩ := h
  exact ⟨_, h1⟩
/-- the list at a is this strand -/
def IA (H : Hp) (a : Addr) (st : List Pr) : Prop := ∃ vs, H a = some (.lst vs) ∧ Paired (rPair H) vs st
theorem IA.but {b a : Addr} {H H' : Hp} {st : List Pr} {xs : List V} (h : But b H H') (hb : H b = some (.lst xs)) (hn : a ≠ b) (r : IA H a st) : IA H' a st := by
  obtain ⟨vs, h1, h2⟩ := r
  exact ⟨vs, h.at hn h1, h2.mapF fun _ _ z => h.rl hb z⟩
theorem IA.same {a : Addr} {H H' : Hp} {st : List Pr} (h : Same H H') (r : IA H a st) : IA H' a st := by
  obtain ⟨vs, h1, h2⟩ := r
  exact ⟨vs, h _ _ h1, h2.mapF fun _ _ z => Mn.mn h z⟩
theorem IA.upd_ne {a l : Addr} {H : Hp} {st : List Pr} {xs : List V} {o : HO} (hl : H l = some (.lst xs)) (hn : a ≠ l) (r : IA H a st) : IA (upd H l o) a st := by
  obtain ⟨vs, h1, h2⟩ := r
  exact ⟨vs, by rw [L2.upd_ne hn]; exact h1, h2.mapF fun _ _ z => upd_rl hl z⟩
theorem flat_set {α : Type} {p : α} : ∀ {ss : List (List α)} {k : Nat} (hk : k < ss.length), ((ss.set k (ss[k] ++ [p])).flatten).Perm (ss.flatten ++ [p])
  | s :: ss, 0, _ => by
    simp only [List.set_cons_zero, List.getElem_cons_zero, List.flatten_cons, List.append_assoc]
    exact List.Perm.append_left _ (List.perm_append_comm)
  | s :: ss, k + 1, hk => by
    have h := flat_set (p := p) (ss := ss) (k := k) (by simpa using hk)
    simp only [List.set_cons_succ, List.getElem_cons_succ, List.flatten_cons, List.append_assoc]
    exact List.Perm.append_left _ h
theorem nodup_at {α : Type} {l : List α} (h : l.Nodup) {i j : Nat} (hi : i < l.length) (hj : j < l.length) (e : l[i] = l[j]) : i = j := by
  have hp := List.pairwise_iff_getElem.mp h
  rcases Nat.lt_trichotomy i j with k | k | k
  · exact absurd e (hp i j hi hj k)
  · exact k
  · exact absurd e.symm (hp j i hj hi k)
theorem rngI_succ (i : Nat) : rngI 0 (i + 1) = rngI 0 i ++ [(i : Int)] := by
  unfold rngI
  rw [List.range_succ, List.map_append]
  simp
def spStrandsD : Sp := fun vs H Q _ => ∃ b c m n, vs = [.ref b, .int (m : Nat)] ∧ Bench b c n H ∧ n < 90000 ∧ (3 ≤ m ∧ m ≤ 8) ∧ ∀ v ss H', rStrands (del H' b) v ss → StrandsOk m ss → Bench b c (n + 17) H' → But b H H' → Q v H'
theorem G_law_strands (T : Tx P K mg) : DefOk P w K mg base CX0 3 "_law_strands" spStrandsD := by
  obtain ⟨f, fd, hm, F⟩ := T.d_law_strands.ex
  have nd := sc_law_strands.nd
  refine ⟨f, fd, _, hm, F.kp, b_law_strands F, F.ok sc_law_strands (fun vs H Q E h => ?_) (fun cdv A outer s H vs Q E hr h => ⟨_, PSs.nox 
      (pss_cons (ps_par (i := 2) (j := 3) rfl nd rfl rfl (by decide) rfl rfl (pa_cons (pe_lst pa_nil) (pa_cons (pe_callD (G_law_pick T) (hr.mono (by decide)) rfl pass0 (pa_cons (pv 0) (pa_cons (pe_lst (pa_cons pe_int (pa_cons pe_int (pa_cons pe_int (pa_cons pe_int (pa_cons pe_int (pa_cons (pv 1) pa_nil))))))) pa_nil))) pa_nil)) (by rfl)) 
      (pss_cons (ps_for PassesOwn.never rfl (pi_range1 rfl T.f_range (pa_cons (pv 1) pa_nil)) (pg_name (i := 4) nd rfl (Or.inl rfl)) 
          (pss_cons (ps_par (i := 5) (j := 6) rfl nd rfl rfl (by decide) rfl rfl (pa_cons (pe_callD (G_law_draw T) (hr.mono (by decide)) rfl pass0 (pa_cons (pv 0) (pa_cons (pv 3) pa_nil))) (pa_cons (pe_tup (pa_cons (pv 4) (pa_cons (pe_op op_sub pe_int (pe_op op_mul pe_int (pe_callD (G_law_draw T) (hr.mono (by decide)) rfl pass0 (pa_cons (pv 0) (pa_cons pe_int pa_nil))))) pa_nil))) pa_nil)) (by rfl)) 
          (pss_one (ps_if (pt_cmpR op_lt (pv 5) (pe_callB (call_lenK K) rfl T.f_len (by decide +kernel) (pa_cons (pv 2) pa_nil)) (nomark _)) 
              (pss_one (ps_expr (pe_bm PySem.F.plainAttrs_list PySem.F.slot_list_append PySem.F.type_list_append mt_append (pe_ix (ix_listK K) (pv 2) (pv 5) (fun _ _ => rfl)) (pa_cons (pv 6) pa_nil)))) 
              (pss_one (ps_expr (pe_bm PySem.F.plainAttrs_list PySem.F.slot_list_append PySem.F.type_list_append mt_append (pv 2) (pa_cons (pe_lst (pa_cons (pv 6) pa_nil)) pa_nil)))))))) 
      (pss_one (ps_ret (pv 2))))), ?_⟩)⟩
  · obtain ⟨b, c, m, n, rfl, _⟩ := h; rfl
  · obtain ⟨b, c, m, n, rfl, hb, hn, hm38, q⟩ := h
    refine seq_ ⟨by decide, fun f hf => ⟨_, rfl, _, rfl, (by show 6 ≤ sizeLine; decide), fun p hp => ?_⟩⟩
    have e1 := (new_same (o := .lst []) hf).trans (new_same (o := .lst [.int 1, .int 2, .int 3, .int 3, .int 4, .int (m : Nat)]) hp)
    have hb1 := hb.same e1
    refine ⟨b, c, p, _, n, rfl, hb1, by omega, upd_same, (hb.same (new_same (o := .lst []) hf)).fresh hp |>.1, (fun z => nomatch z), (by show 6 ≤ 100; decide), fun x H1 hx hb2 hB2 => ⟨_, _, rfl, ?_⟩⟩
    have hx2 : ∃ mo : Int, x = .int mo ∧ 1 ≤ mo ∧ mo ≤ 8 := by
      simp only [List.mem_cons, List.not_mem_nil, or_false] at hx
      rcases hx with rfl | rfl | rfl | rfl | rfl | rfl
      · exact ⟨1, rfl, by omega, by omega⟩
      · exact ⟨2, rfl, by omega, by omega⟩
      · exact ⟨3, rfl, by omega, by omega⟩
      · exact ⟨3, rfl, by omega, by omega⟩
      · exact ⟨4, rfl, by omega, by omega⟩
      · exact ⟨_, rfl, by omega, by omega⟩
    obtain ⟨mo, rfl, hmo1, hmo2⟩ := hx2
    have hfb := hb.fresh hf
    have hff : H1 f = some (.lst []) := hB2.at hfb.1 (new_same hp _ _ upd_same)
    have hB : But b H H1 := (But.of e1).trans hB2
    dsimp only
    refine seq_ (rd_forR (n := m) (fun R r => ⟨_, rfl, _, rfl, by omega, by omega, r⟩)
      (fun i σ H' => ∃ x4 x5 x6 as ss, σ = [some (.ref b), some (.int (m : Nat)), some (.ref f), some (.int mo), x4, x5, x6] ∧ H' f = some (.lst (as.map V.ref)) ∧ as.Nodup ∧ (∀ a ∈ as, H a = none ∧ a ≠ f) ∧ Paired (IA H') as ss ∧ (ss.flatten.map (·.1)).Perm (rngI 0 i) ∧ (∀ st ∈ ss, st ≠ [] ∧ ∀ p ∈ st, p.2 = 1 ∨ p.2 = -1) ∧ Bench b c (n + 1 + 2 * i) H' ∧ But b H H')
      ⟨none, none, none, [], [], rfl, hff, List.nodup_nil, (fun a ha => by cases ha), .nil, (by exact List.Perm.refl _), (fun st hs => by cases hs), by simpa using hb2, hB⟩ (fun i σ H' hi hI => ?_) (fun σ H' hI => ?_))
    · obtain ⟨x4, x5, x6, as, ss, rfl, h1, h2, h3, h4, h5, h6, h7, h8⟩ := hI
      refine nm_ ?_
      dsimp only
      refine seq_ ⟨_, rfl, _, rfl, b, c, mo, _, rfl, h7, by omega, ⟨by omega, by omega⟩, fun d H2 hd hb3 hB3 => ?_⟩
      refine ⟨_, rfl, _, rfl, b, c, 2, _, rfl, hb3, by omega, ⟨by decide, by decide⟩, fun e H3 he hb4 hB4 => ⟨2, e, rfl, rfl, Or.inl (by omega), _, _, rfl, rfl, sz2, fun tp htp => ⟨_, _, rfl, ?_⟩⟩⟩
      dsimp only
      have hB34 : But b H' (upd H3 tp (.tup [.int (0 + (i : Int)), .int (1 - 2 * e)])) := (hB3.trans hB4).trans (But.of (new_same htp))
      have hb5 := hb4.same (new_same (o := .tup [.int (0 + (i : Int)), .int (1 - 2 * e)]) htp)
      have htp5 : upd H3 tp (.tup [.int (0 + (i : Int)), .int (1 - 2 * e)]) tp = some (.tup [.int (0 + (i : Int)), .int (1 - 2 * e)]) := upd_same
      generalize upd H3 tp (.tup [.int (0 + (i : Int)), .int (1 - 2 * e)]) = G at hB34 hb5 htp5 ⊢
      have hsg : 1 - 2 * e = 1 ∨ 1 - 2 * e = -1 := by omega
      generalize 1 - 2 * e = sg at htp5 hsg ⊢
      have hpp : rPair G (.ref tp) ((i : Int), sg) := ⟨tp, rfl, by rw [htp5, Int.zero_add]⟩
      obtain ⟨xb, hxb⟩ := h7.lst
      have h1g := hB34.at hfb.1 h1
      have hasb : ∀ a ∈ as, a ≠ b ∧ a ≠ c := fun a ha => hb.fresh (h3 a ha).1
      have h4g : Paired (IA G) as ss := Paired.ofAt h4.len fun j a st ha hs => (h4.both ha hs).but hB34 hxb (hasb a (List.mem_of_getElem? ha)).1
      have hBG : But b H G := h8.trans hB34
      have hlen : as.length ≤ i := by
        rw [h4.len]
        have := flat_le fun st hs => (h6 st hs).1
        have h5l := h5.length_eq
        rw [List.length_map, rngI_len] at h5l
        omega
      have hbn : n + 1 + 2 * (i : Int) + 1 + 1 = n + 1 + 2 * ((i + 1 : Nat) : Int) := by omega
      refine ⟨_, rfl, _, rfl, f, _, rfl, Or.inl (Evl.sq_of h1g), d, _, rfl, rfl, _, rfl, ?_⟩
      by_cases hlt : d < ((as.map V.ref).length : Int)
      · refine ifT (decide_eq_true hlt) ?_
        rw [List.length_map] at hlt
        obtain ⟨k, rfl⟩ : ∃ k : Nat, d = (k : Int) := ⟨d.toNat, by omega⟩
        have hk : k < as.length := by omega
        have hks : k < ss.length := by rw [← h4.len]; exact hk
        obtain ⟨vs, k1, k2⟩ := h4g.both (List.getElem?_eq_getElem hk) (List.getElem?_eq_getElem hks)
        have hak : as[k] ∈ as := List.getElem_mem hk
        have hkf : as[k] ≠ f := (h3 _ hak).2
        have hvl : vs.length ≤ 8 := by
          rw [k2.len]
          have := mem_flat_le (List.getElem_mem hks)
          have h5l := h5.length_eq
          rw [List.length_map, rngI_len] at h5l
          omega
        refine ⟨_, rfl, _, rfl, f, _, (k : Int), .ref as[k], rfl, rfl, Evl.sq_of h1g, atI_nat (by rw [List.getElem?_map, List.getElem?_eq_getElem hk]; rfl), Or.inl ⟨rfl, _, Evl.sq_of k1⟩, _, rfl, as[k], vs, _, rfl, rfl, k1, Evl.sz_lt (by omega), ?_⟩
        refine ⟨some (.int (0 + (i : Int))), some (.int (k : Int)), some (.ref tp), as, ss.set k (ss[k] ++ [((i : Int), sg)]), rfl, by rw [upd_ne hkf.symm]; exact h1g, h2, h3, ?_, ?_, ?_, ?_, hBG.mut (h3 _ hak).1⟩
        · refine Paired.ofAt (by rw [List.length_set]; exact h4.len) fun j a st ha hs => ?_
          by_cases hjk : j = k
          · subst hjk
            rw [List.getElem?_set_self hks] at hs
            have ha' := ha
            rw [List.getElem?_eq_getElem hk] at ha'
            cases ha'
            cases hs
            refine ⟨vs ++ [.ref tp], upd_same, Paired.app (k2.mapF fun _ _ z => upd_rl k1 z) (.cons (upd_rl k1 hpp) .nil)⟩
          · rw [List.getElem?_set_ne (fun z => hjk z.symm)] at hs
            refine (h4g.both ha hs).upd_ne k1 fun z => hjk ?_
            obtain ⟨hj', ej⟩ := List.getElem?_eq_some_iff.mp ha
            exact nodup_at h2 hj' hk (ej.trans z)
        · rw [rngI_succ]
          refine ((flat_set (p := ((i : Int), sg)) hks).map _).trans ?_
          rw [List.map_append]
          exact h5.append_right _
        · intro st hs
          rcases List.mem_or_eq_of_mem_set hs with hs | rfl
          · exact h6 st hs
          · refine ⟨by simp, fun p hp => ?_⟩
            rcases List.mem_append.mp hp with hp | hp
            · exact (h6 _ (List.getElem_mem hks)).2 p hp
            · rw [List.mem_singleton.mp hp]; exact hsg
        · rw [← hbn]
          exact hb5.mut (hasb _ hak)
      · refine ifF (decide_eq_false hlt) ?_
        refine ⟨_, rfl, Or.inl ⟨rfl, _, Evl.sq_of h1g⟩, ⟨_, rfl, (by show 1 ≤ sizeLine; decide), fun z hz => ⟨f, _, _, rfl, rfl, new_same hz _ _ h1g, Evl.sz_lt (by rw [List.length_map]; omega), ?_⟩⟩⟩
        have hz0 : H z = none := hBG.free hz (hb5.fresh hz).1
        have hzf : z ≠ f := (ne_of_none h1g hz).symm
        have hpp2 : rPair (upd G z (.lst [.ref tp])) (.ref tp) ((i : Int), sg) := Mn.mn (new_same hz) hpp
        have h4z : Paired (IA (upd G z (.lst [.ref tp]))) as ss := h4g.mapF fun _ _ r => r.same (new_same hz)
        have hfz := new_same (o := .lst [.ref tp]) hz _ _ h1g
        refine ⟨some (.int (0 + (i : Int))), some (.int d), some (.ref tp), as ++ [z], ss ++ [[((i : Int), sg)]], rfl, ?_, ?_, ?_, ?_, ?_, ?_, ?_, (hBG.trans (But.of (new_same hz))).mut hf⟩
        · rw [upd_same, List.map_append]; rfl
        · refine List.nodup_append.mpr ⟨h2, by simp, fun a ha b' hb' => ?_⟩
          rw [List.mem_singleton.mp hb']
          intro e
          subst e
          obtain ⟨st, hst⟩ := (h4g.mem1' ha)
          obtain ⟨vs, k1, _⟩ := hst
          rw [k1] at hz
          cases hz
        · intro a ha
          rcases List.mem_append.mp ha with ha | ha
          · exact h3 a ha
          · rw [List.mem_singleton.mp ha]; exact ⟨hz0, hzf⟩
        · refine Paired.app (Paired.ofAt h4z.len fun j a st ha hs => (h4z.both ha hs).upd_ne hfz (h3 a (List.mem_of_getElem? ha)).2) (.cons ?_ .nil)
          exact ⟨[.ref tp], by rw [upd_ne hzf, upd_same], .cons (upd_rl hfz hpp2) .nil⟩
        · rw [rngI_succ, List.flatten_append, List.map_append]
          exact h5.append_right _
        · intro st hs
          rcases List.mem_append.mp hs with hs | hs
          · exact h6 st hs
          · rw [List.mem_singleton.mp hs]
            refine ⟨by simp, fun p hp => ?_⟩
            rw [List.mem_singleton.mp hp]; exact hsg
        · rw [← hbn]
          exact (hb5.same (new_same hz)).mut hfb
    · obtain ⟨x4, x5, x6, as, ss, rfl, h1, h2, h3, h4, h5, h6, h7, h8⟩ := hI
      dsimp only
      refine ⟨_, rfl, q (.ref f) ss H' ⟨f, as.map V.ref, rfl, ?_, ?_⟩ ⟨h6, h5, hm38⟩ (h7.mono (by omega)) h8⟩
      · rw [del_ne hfb.1]; exact h1
      · obtain ⟨xs, hxs⟩ := h7.lst
        refine Paired.mapL (Paired.ofAt h4.len fun j a st ha hs => ?_)
        obtain ⟨vs, k1, k2⟩ := h4.both ha hs
        have hab : a ≠ b := (hb.fresh (h3 a (List.mem_of_getElem? ha)).1).1
        exact ⟨a, vs, rfl, by rw [del_ne hab]; exact k1, k2.mapF fun _ _ z => Tn.tn hxs z⟩
end KB

-- part KD5
namespace KB
open PySem PySem.Spec PyProof.Rows L2
variable {P : Program} {w : World} {K : PySem.W.Frag} {mg : Str → Option Value} {base : Heap}
def spLNets : Sp := fun vs H Q _ => ∃ vl v ns S, vs = [vl, v] ∧ rInts H vl ns ∧ (rRows H v S ∨ rStrands H v S) ∧ S.length ≤ 8 ∧ (∀ st ∈ S, NetOk ns st) ∧ ∀ v' H', Same H H' → rInts H' v' (S.map (netOf ns)) → Q v' H'
theorem G_law_nets (T : Tx P K mg) : DefOk P w K mg base CX0 1 "_law_nets" spLNets := by
  obtain ⟨f, fd, hm, F⟩ := T.d_law_nets.ex
  have nd := sc_law_nets.nd
  refine ⟨f, fd, _, hm, F.kp, b_law_nets F, F.ok sc_law_nets (fun vs H Q E h => ?_) (fun cdv A outer s H vs Q E hr h => ?_)⟩
  · obtain ⟨vl, v, ns, S, rfl, _⟩ := h; rfl
  · obtain ⟨vl, v, ns, S, rfl, hl, hv, hS, hok, q⟩ := h
    have ⟨a, xs, ea, ha, hp⟩ := hl
    subst ea
    rw [ints_of hp] at ha
    rcases hv with hv | hv
    · refine ⟨_, PSs.nox 
      (pss_one (ps_ret (pe_lc (own := [(("_law_strand" : Str), 2)]) rfl nd (pi_tupK K (pv 1)) (blkOk_by (own := [(("_law_strand" : Str), 2)]) (N := N_law_nets) (sc := defScope s_law_nets) (by decide +kernel)) (fun _ _ _ _ _ => pg_name (i := 2) nd rfl (Or.inl rfl)) (fun _ _ _ _ _ => pts_nil) (fun _ _ _ _ _ => (pe_callB call_abs rfl T.f_abs (by decide +kernel) (pa_cons (pe_callB (cr_sumK K rfl) rfl T.f_sum (by decide +kernel) (pa_cons (pe_lc (own := [(("_law_bar" : Str), 3), (("_law_sign" : Str), 4)]) rfl nd (pi_tupK K (pv 2)) (blkOk_by (own := [(("_law_bar" : Str), 3), (("_law_sign" : Str), 4)]) (N := N_law_nets) (sc := ({ kind := .function, names := [(".0", .local), ("_law_strand", .local), ("abs", .globalImplicit), ("sum", .globalImplicit), ("_law_lengths_here", .cell)], isGenerator := false, isCoroutine := false } : Scope)) (by decide +kernel)) (fun _ _ _ _ _ => pg_tupK K (n := 2) rfl (pgs_cons (pg_name (i := 3) nd rfl (Or.inl rfl)) (pgs_cons (pg_name (i := 4) nd rfl (Or.inl rfl)) pgs_nil))) (fun _ _ _ _ _ => pts_nil) (fun _ _ _ _ _ => (pe_op op_mul (pe_ix (ix_listK K) (pv 0) (pv 3) (fun _ _ => rfl)) (pv 4)))) pa_nil)) pa_nil)))))), ?_⟩
      refine ret_ (rd_lcU (R := rRow) (RO := rInt) (as := S) (netOf ns) (fun Z z => ⟨_, rfl, z _ _ (Same.refl _) hv⟩) (by omega) (fun st hst y H2 Z e2 r k => ⟨rfl, ?_⟩) (fun v2 H2 e2 h2 => q _ _ e2 h2))
      refine cb1 (cb1 (rd_lcU (R := rPair) (RO := rInt) (as := st) (fun p => ns.getD p.1.toNat 0 * p.2) (fun Z z => ⟨_, rfl, z _ _ (Same.refl _) r⟩) (by have := (hok st hst).1; omega) (fun p hp y H3 Z e3 r k => ?_) (fun v2 H3 e3 h3 => ?_)))
      · have hpk := (hok st hst).2 p hp
        exact rd_pairT r ⟨rfl, _, rfl, _, rfl, a, _, p.1, _, rfl, rfl, Evl.sq_of ((e2.trans e3) _ _ ha), len_at hpk.1, _, rfl, _, _, rfl, rfl, Or.inr (by omega), k _ _ (Same.refl _) rfl⟩
      · obtain ⟨D, ys, rfl, hD, hp⟩ := h3
        exact ⟨D, _, rfl, Evl.sq_of (ints_of hp ▸ hD), _, rfl, k _ _ e3 rfl⟩
    · refine ⟨_, PSs.nox 
      (pss_one (ps_ret (pe_lc (own := [(("_law_strand" : Str), 2)]) rfl nd (pi_listK K (pv 1)) (blkOk_by (own := [(("_law_strand" : Str), 2)]) (N := N_law_nets) (sc := defScope s_law_nets) (by decide +kernel)) (fun _ _ _ _ _ => pg_name (i := 2) nd rfl (Or.inl rfl)) (fun _ _ _ _ _ => pts_nil) (fun _ _ _ _ _ => (pe_callB call_abs rfl T.f_abs (by decide +kernel) (pa_cons (pe_callB (cr_sumK K rfl) rfl T.f_sum (by decide +kernel) (pa_cons (pe_lc (own := [(("_law_bar" : Str), 3), (("_law_sign" : Str), 4)]) rfl nd (pi_listK K (pv 2)) (blkOk_by (own := [(("_law_bar" : Str), 3), (("_law_sign" : Str), 4)]) (N := N_law_nets) (sc := ({ kind := .function, names := [(".0", .local), ("_law_strand", .local), ("abs", .globalImplicit), ("sum", .globalImplicit), ("_law_lengths_here", .cell)], isGenerator := false, isCoroutine := false } : Scope)) (by decide +kernel)) (fun _ _ _ _ _ => pg_tupK K (n := 2) rfl (pgs_cons (pg_name (i := 3) nd rfl (Or.inl rfl)) (pgs_cons (pg_name (i := 4) nd rfl (Or.inl rfl)) pgs_nil))) (fun _ _ _ _ _ => pts_nil) (fun _ _ _ _ _ => (pe_op op_mul (pe_ix (ix_listK K) (pv 0) (pv 3) (fun _ _ => rfl)) (pv 4)))) pa_nil)) pa_nil)))))), ?_⟩
      refine ret_ (rd_lcL (R := rStrand) (RO := rInt) (as := S) (netOf ns) (fun Z z => ⟨_, rfl, z _ _ (Same.refl _) hv⟩) (by omega) (fun st hst y H2 Z e2 r k => ⟨rfl, ?_⟩) (fun v2 H2 e2 h2 => q _ _ e2 h2))
      refine cb1 (cb1 (rd_lcL (R := rPair) (RO := rInt) (as := st) (fun p => ns.getD p.1.toNat 0 * p.2) (fun Z z => ⟨_, rfl, z _ _ (Same.refl _) r⟩) (by have := (hok st hst).1; omega) (fun p hp y H3 Z e3 r k => ?_) (fun v2 H3 e3 h3 => ?_)))
      · have hpk := (hok st hst).2 p hp
        exact rd_pairT r ⟨rfl, _, rfl, _, rfl, a, _, p.1, _, rfl, rfl, Evl.sq_of ((e2.trans e3) _ _ ha), len_at hpk.1, _, rfl, _, _, rfl, rfl, Or.inr (by omega), k _ _ (Same.refl _) rfl⟩
      · obtain ⟨D, ys, rfl, hD, hp⟩ := h3
        exact ⟨D, _, rfl, Evl.sq_of (ints_of hp ▸ hD), _, rfl, k _ _ e3 rfl⟩
end KB

-- part KD6
namespace KB
open PySem PySem.Spec PyProof.Rows L2
variable {P : Program} {w : World} {K : PySem.W.Frag} {mg : Str → Option Value} {base : Heap}
/-- a loop over a list that is made on the way -/
theorem rd_forE {te : TE} {xs : List V} {g : TG} {tb : TS} {D : Ends} {σ : L2.St} {H : Hp} (he : ∀ Z : VK, (∀ a H1, Same H H1 → H1 a = some (.lst xs) → Z (.ref a) H1) → te σ H Z) (Pv : Addr → Nat → L2.St → Hp → Prop) (h0 : ∀ a H1, Same H H1 → H1 a = some (.lst xs) → Pv a 0 σ H1) (hl : ∀ a i σ H, Pv a i σ H → H a = some (.lst xs))
    (hs : ∀ a i x σ H, xs[i]? = some x → Pv a i σ H → g x σ H fun σ2 H2 => tb { D with nx := Pv a (i + 1), ct := Pv a (i + 1), bk := D.nx } σ2 H2) (hd : ∀ a σ H, Pv a xs.length σ H → D.nx σ H) : tFor (iList K te) g tb D σ H :=
  he _ fun a H1 e1 ha => ⟨a, rfl, ⟨_, Evl.sq_of ha⟩, for_list (K := K) (xs := xs) (Pv a) (h0 a H1 e1 ha) (fun i σ H _ p => Evl.sq_of (hl a i σ H p)) (hs a) (hd a)⟩
def mx3 (i j k : Int) : Int := if j > i then (if k > j then k else j) else (if k > i then k else i)
def lhStep (p : Int × Int) (x : Int) : Int × Int := (mx3 0 (x - p.2) (p.1 - x), p.2 + x)
def homeB (ns : List Int) : Bool :=
  let p := ns.dropLast.foldl lhStep (0, 0)
  decide (p.1 ≤ ns.getLastD 0) && decide (ns.getLastD 0 ≤ p.2)
def spHome : Sp := fun vs H Q _ => ∃ v ns, vs = [v] ∧ rInts H v ns ∧ ns ≠ [] ∧ ns.length ≤ 100 ∧ ∀ H', Same H H' → Q (.bl (homeB ns)) H'
theorem G_law_is_home (T : Tx P K mg) : DefOk P w K mg base CX0 1 "_law_is_home" spHome := by
  obtain ⟨f, fd, hm, F⟩ := T.d_law_is_home.ex
  have nd := sc_law_is_home.nd
  refine ⟨f, fd, _, hm, F.kp, b_law_is_home F, F.ok sc_law_is_home (fun vs H Q E h => ?_) (fun cdv A outer s H vs Q E hr h => ⟨_, PSs.nox 
      (pss_cons (ps_asg (pe_tup (pa_cons pe_int (pa_cons pe_int pa_nil))) (pg_tupK K (n := 2) rfl (pgs_cons (pg_name (i := 1) nd rfl (Or.inl rfl)) (pgs_cons (pg_name (i := 2) nd rfl (Or.inl rfl)) pgs_nil)))) 
      (pss_cons (ps_for PassesOwn.never rfl (pi_listK K (pe_slice sl_list (pv 0) po_none (po_some (pe_un un_neg pe_int)))) (pg_name (i := 3) nd rfl (Or.inl rfl)) 
          (pss_cons (ps_set (i := 1) nd rfl (Or.inl rfl) (pe_callB (call_max3 rfl) rfl T.f_max (by decide +kernel) (pa_cons pe_int (pa_cons (pe_op op_sub (pv 3) (pv 2)) (pa_cons (pe_op op_sub (pv 1) (pv 3)) pa_nil))))) 
          (pss_one (ps_set (i := 2) nd rfl (Or.inl rfl) (pe_op op_add (pv 2) (pv 3)))))) 
      (pss_one (ps_ret (pe_chain op_le op_le (pv 1) (pe_ix (ix_listK K) (pv 0) (pe_un un_neg pe_int) (fun _ _ => rfl)) (pv 2)))))), ?_⟩)⟩
  · obtain ⟨v, ns, rfl, _⟩ := h; rfl
  · obtain ⟨v, ns, rfl, ⟨a, xs, rfl, ha, hp⟩, hne, hl, q⟩ := h
    rw [ints_of hp] at ha
    refine seq_ (asg_ ⟨sz2, fun p hp0 => ⟨p, _, rfl, Evl.st_of upd_same, rfl, _, _, rfl, _, _, rfl, rfl, ?_⟩⟩)
    have e1 := new_same (o := .tup [.int 0, .int 0]) hp0
    dsimp only
    refine seq_ (rd_forE (xs := (ns.dropLast).map V.int) (fun Z z => ⟨_, rfl, _, rfl, _, rfl, a, _, rfl, Evl.sq_of (e1 _ _ ha), fun l hl1 => z l _ (new_same hl1) ?_⟩)
      (fun d i σ H' => ∃ x3 : Option V, σ = [some (.ref a), some (.int ((ns.dropLast.take i).foldl lhStep (0, 0)).1), some (.int ((ns.dropLast.take i).foldl lhStep (0, 0)).2), x3] ∧ H' d = some (.lst ((ns.dropLast).map V.int)) ∧ Same H H') (fun d H1 e2 hd => ⟨none, rfl, hd, e1.trans e2⟩) (fun d i σ H' h => h.choose_spec.2.1) (fun d i x σ H' hx hI => ?_) (fun d σ H' hI => ?_))
    · rw [upd_same]
      show some (HO.lst (cutV (ns.map V.int) none (some (-1)))) = _
      rw [cut_last, ← List.map_dropLast]
    · obtain ⟨x3, rfl, h1, h2⟩ := hI
      rw [List.getElem?_map] at hx
      cases hn : ns.dropLast[i]? with
      | none => rw [hn] at hx; cases hx
      | some n =>
        rw [hn] at hx
        obtain rfl : V.int n = x := Option.some.inj hx
        obtain ⟨hi, hn'⟩ := List.getElem?_eq_some_iff.mp hn
        refine nm_ ?_
        dsimp only
        refine q_set ⟨_, rfl, _, rfl, _, _, rfl, rfl, _, rfl, _, rfl, _, _, rfl, rfl, 0, _, _, rfl, ?_⟩
        refine asg_ ⟨_, rfl, _, rfl, _, _, rfl, rfl, ?_⟩
        refine nm_ ?_
        dsimp only
        refine ⟨some (.int n), ?_, h1, h2⟩
        have tk : ns.dropLast.take (i + 1) = ns.dropLast.take i ++ [n] := by rw [List.take_add_one, hn]; rfl
        rw [tk, List.foldl_append]
        rfl
    · obtain ⟨x3, rfl, h1, h2⟩ := hI
      rw [List.length_map, List.take_length]
      dsimp only
      have hlast : atI (ns.map V.int) (-1) = some (.int (ns.getLastD 0)) := by
        have e : ns = ns.dropLast ++ [ns.getLastD 0] := by
          rw [List.getLastD_eq_getLast?, List.getLast?_eq_some_getLast hne]
          exact (List.dropLast_concat_getLast hne).symm
        rw [e, List.map_append, List.map_cons, List.map_nil]
        have := atI_last (ns.dropLast.map V.int) (.int ((ns.dropLast ++ [ns.getLastD 0]).getLastD 0))
        simpa using this
      refine ret_ ⟨_, rfl, _, rfl, 1, rfl, a, _, -1, _, rfl, rfl, Evl.sq_of (h2 _ _ ha), hlast, _, _, rfl, rfl, _, rfl, ?_⟩
      have q2 := q H' h2
      unfold homeB at q2
      by_cases hh : (ns.dropLast.foldl lhStep (0, 0)).1 ≤ ns.getLastD 0
      · refine ifT (decide_eq_true hh) ⟨_, rfl, _, _, rfl, rfl, ?_⟩
        simp only [decide_eq_true hh, Bool.true_and] at q2
        exact q2
      · refine ifF (decide_eq_false hh) ?_
        simp only [decide_eq_false hh, Bool.false_and] at q2
        exact q2
end KB

-- part KD7
namespace KB
open PySem PySem.Spec PyProof.Rows L2
variable {P : Program} {w : World} {K : PySem.W.Frag} {mg : Str → Option Value} {base : Heap}
def spLRight : Sp := fun vs H Q _ => ∃ v n ss, vs = [v] ∧ rStrands H v ss ∧ StrandsOk n ss ∧ ∀ v' H', Same H H' → rRows H' v' (right ss) → Q v' H'
theorem G_law_right (T : Tx P K mg) : DefOk P w K mg base CX0 1 "_law_right" spLRight := by
  obtain ⟨f, fd, hm, F⟩ := T.d_law_right.ex
  have nd := sc_law_right.nd
  refine ⟨f, fd, _, hm, F.kp, b_law_right F, F.ok sc_law_right (fun vs H Q E h => ?_) (fun cdv A outer s H vs Q E hr h => ⟨_, PSs.nox 
      (pss_cons (ps_set (i := 1) nd rfl (Or.inl rfl) (pe_lst pa_nil)) 
      (pss_cons (ps_for PassesOwn.never rfl (pi_listK K (pv 0)) (pg_name (i := 2) nd rfl (Or.inl rfl)) 
          (pss_cons (ps_set (i := 3) nd rfl (Or.inr rfl) (pe_callB (cr_sortedD hr.units) rfl T.f_sorted (by decide +kernel) (pa_cons (pe_lc (own := [(("_law_pair" : Str), 4)]) rfl nd (pi_listK K (pv 2)) (blkOk_by (own := [(("_law_pair" : Str), 4)]) (N := N_law_right) (sc := defScope s_law_right) (by decide +kernel)) (fun _ _ _ _ _ => pg_name (i := 4) nd rfl (Or.inl rfl)) (fun _ _ _ _ _ => pts_nil) (fun _ _ _ _ _ => (pe_callTy (call_tupleK K) rfl T.f_tuple (by decide +kernel) (pa_cons (pv 4) pa_nil)))) pa_nil))) 
          (pss_one (ps_expr (pe_bm PySem.F.plainAttrs_list PySem.F.slot_list_append PySem.F.type_list_append mt_append (pv 1) (pa_cons (pe_callTy (call_tupleK K) rfl T.f_tuple (by decide +kernel) (pa_cons (pe_lc (own := [(("_law_bar" : Str), 5), (("_law_sign" : Str), 6)]) rfl nd (pi_listK K (pv 3)) (blkOk_by (own := [(("_law_bar" : Str), 5), (("_law_sign" : Str), 6)]) (N := N_law_right) (sc := defScope s_law_right) (by decide +kernel)) (fun _ _ _ _ _ => pg_tupK K (n := 2) rfl (pgs_cons (pg_name (i := 5) nd rfl (Or.inl rfl)) (pgs_cons (pg_name (i := 6) nd rfl (Or.inl rfl)) pgs_nil))) (fun _ _ _ _ _ => pts_nil) (fun _ _ _ _ _ => (pe_tup (pa_cons (pv 5) (pa_cons (pe_op op_mul (pv 6) (pe_ix (ix_tupK K) (pe_ix (ix_listK K) (pv 3) pe_int (fun _ _ => rfl)) pe_int (fun _ _ => rfl))) pa_nil))))) pa_nil)) pa_nil)))))) 
      (pss_one (ps_ret (pe_callTy (call_tupleK K) rfl T.f_tuple (by decide +kernel) (pa_cons (pe_callB (cr_sortedD hr.units) rfl T.f_sorted (by decide +kernel) (pa_cons (pv 1) pa_nil)) pa_nil)))))), ?_⟩)⟩
  · obtain ⟨v, n, ss, rfl, _⟩ := h; rfl
  · obtain ⟨v, n, ss, rfl, ⟨a, xs, rfl, ha, hp⟩, hok, q⟩ := h
    have hlen := hok.len
    refine q_set ⟨by decide, fun L hL => ?_⟩
    have e0 := new_same (o := .lst []) hL
    refine seq_ (rd_forL rfl (e0 _ _ ha) (fun i σ H' => ∃ x2 x3 vs, σ = [some (.ref a), some (.ref L), x2, x3, none, none, none] ∧ Same H H' ∧ H' L = some (.lst vs) ∧ Paired (rRow (del H' L)) vs ((ss.take i).map norm)) ⟨none, none, [], rfl, e0, upd_same, by simpa using Paired.nil⟩ (fun i σ H' _ ⟨_, _, _, _, e, _⟩ => e _ _ ha) (fun i x σ H' hx hI => ?_) (fun σ H' hI => ?_))
    · obtain ⟨x2, x3, vs, rfl, e, hLv, hpv⟩ := hI
      obtain ⟨st, hst, hxs⟩ := hp.at hx
      have hmem := List.mem_of_getElem? hst
      have hsok := hok.strand hmem
      refine nm_ ?_
      dsimp only
      refine seq_ (asg_ (cb1 (rd_lcL (R := rPair) (RO := rPair) (as := st) (fun p => p) (fun Z z => ⟨_, rfl, z _ _ (Same.refl _) (Mn.mn e hxs)⟩) (by have := hsok.2.1; omega) (fun p hx y H2 Z e2 r k => ?_) (fun v H2 e2 hv => ?_))))
      · have ⟨b, ey, hb⟩ := r
        subst ey
        exact ⟨rfl, _, rfl, b, _, rfl, Or.inr ⟨Evl.st_of hb, k _ _ (Same.refl _) r⟩⟩
      · rw [List.map_id'] at hv
        refine sort_out (R := rPair) hv (al_pairs st) (so_pairs st) (fun p hp => by have := dep_pair p; omega) fun v' H3 e3 hs => ?_
        have hs : LOf rPair H3 v' (srt st) := hs
        refine nm_ ?_
        dsimp only
        have e23 := e2.trans e3
        refine ⟨_, rfl, Or.inl ⟨rfl, _, Evl.sq_of (e23 _ _ hLv)⟩, cons_ (cb1 (rd_lcL (R := rPair) (RO := rPair) (as := srt st) (fun p => (p.1, p.2 * hd2 (srt st))) (fun Z z => ⟨_, rfl, z _ _ (Same.refl _) hs⟩) (by rw [(srt_perm st).length_eq]; have := hsok.2.1; omega) (fun p hx y H4 Z e4 r k => ?_) (fun v2 H4 e4 hv2 => ?_)))⟩
        · obtain ⟨L2', zs, rfl, hL2, hz⟩ := hs
          have hL4 := e4 _ _ hL2
          have hr2 : ∃ z r, zs = z :: r ∧ rPair H4 z ((srt st).headD (0, 0)) := by
            cases e : srt st with
            | nil => rw [e] at hx; cases hx
            | cons p0 r0 =>
              rw [e] at hz
              cases hz with
              | cons z1 z2 => exact ⟨_, _, rfl, Mn.mn e4 z1⟩
          obtain ⟨z0, zr, ez, ⟨b0, rfl, hb0⟩⟩ := hr2
          have hs1 := hd2_ok hsok
          have hpm := (hsok.2.2 p ((srt_perm st).mem_iff.mp hx)).2
          refine rd_pairT r ⟨rfl, _, rfl, _, rfl, _, rfl, L2', zs, 0, _, rfl, rfl, Evl.sq_of hL4, atI_nat (j := 0) (by rw [ez]; rfl), b0, _, 1, _, rfl, rfl, Evl.st_of hb0, rfl, p.2, hd2 (srt st), rfl, rfl, ?_, sz2, fun l hl => k _ _ (new_same hl) ⟨l, rfl, upd_same⟩⟩
          unfold CMul
          omega
        · refine rd_tuple (R := rPair) hv2 fun v3 H5 e5 h5 => ?_
          have e25 := (e23.trans e4).trans e5
          have hL5 := e25 _ _ hLv
          have hil : i < ss.length := (List.getElem?_eq_some_iff.mp hst).1
          have h5' : rRow H5 v3 (norm st) := h5
          refine ⟨L, vs, v3, rfl, rfl, hL5, Evl.sz_lt ?_, ?_⟩
          · rw [hpv.len, List.length_map, List.length_take]; omega
          · refine ⟨some x, some v', vs ++ [v3], rfl, mut_same (e.trans e25) hL, upd_same, ?_⟩
            have tk : ss.take (i + 1) = ss.take i ++ [st] := by rw [List.take_add_one, hst]; rfl
            rw [del_upd, tk, List.map_append]
            exact Paired.app (hpv.mapF fun _ _ => Mn.mn (del_mono e25)) (.cons (Tn.tn hL5 h5') .nil)
    · obtain ⟨x2, x3, vs, rfl, e, hLv, hpv⟩ := hI
      dsimp only
      rw [show xs.length = ss.length from hp.len, List.take_length] at hpv
      have hv : LOf rRow H' (.ref L) (ss.map norm) := ⟨L, vs, rfl, hLv, hpv.mapF fun _ _ => Mn.mn del_in⟩
      refine ret_ (cb1 (cb1 ⟨_, rfl, ?_⟩))
      refine sort_out (R := rRow) hv (al_rows (ss.map norm)) (so_rows fun st hst => ?_) (fun st hst => dep_row st) fun v' H3 e3 h3 => ?_
      · obtain ⟨st0, hs0, rfl⟩ := List.mem_map.mp hst
        intro z
        have := norm_len st0
        rw [z] at this
        exact (hok.1 st0 hs0).1 (List.length_eq_zero_iff.mp this.symm)
      · exact rd_tuple (R := rRow) h3 fun v4 H4 e4 h4 => q _ _ ((e.trans e3).trans e4) h4
end KB

-- part KM1
namespace KB
open PySem PySem.Spec PyProof.Rows L2

/-! ### home: no net above the half -/
theorem sum_nonneg {l : List Int} (h : ∀ x ∈ l, 0 ≤ x) : 0 ≤ l.sum := by
  induction l with
  | nil => simp
  | cons x l ih =>
    have h1 := h x List.mem_cons_self
    have h2 := ih fun y hy => h y (List.mem_cons_of_mem _ hy)
    rw [List.sum_cons]
    omega
theorem mx3_le (i j k y : Int) : mx3 i j k ≤ y ↔ i ≤ y ∧ j ≤ y ∧ k ≤ y := by
  unfold mx3
  split <;> split <;> omega
theorem lh_snd : ∀ (l : List Int) (p : Int × Int), (l.foldl lhStep p).2 = p.2 + l.sum
  | [], p => by simp
  | x :: l, p => by
    rw [List.foldl_cons, lh_snd l, List.sum_cons]
    show p.2 + x + l.sum = _
    omega
theorem lh_fst : ∀ (l : List Int) (p : Int × Int) (y : Int), (∀ x ∈ l, 0 ≤ x) → 0 ≤ p.1 → ((l.foldl lhStep p).1 ≤ y ↔ 0 ≤ y ∧ p.1 - l.sum ≤ y ∧ ∀ x ∈ l, 2 * x - (p.2 + l.sum) ≤ y)
  | [], p, y, _, hp => by
    simp
    omega
  | x :: l, p, y, h, hp => by
    have hx := h x List.mem_cons_self
    have hl := fun z hz => h z (List.mem_cons_of_mem x hz)
    have hs := sum_nonneg hl
    have hq : 0 ≤ (lhStep p x).1 := by
      have := (mx3_le 0 (x - p.2) (p.1 - x) (lhStep p x).1).mp (Int.le_refl _)
      exact this.1
    rw [List.foldl_cons, lh_fst l (lhStep p x) y hl hq, List.sum_cons]
    have e2 : (lhStep p x).2 = p.2 + x := rfl
    have e1 := mx3_le 0 (x - p.2) (p.1 - x) (y + l.sum)
    have e1' : (lhStep p x).1 ≤ y + l.sum ↔ 0 ≤ y + l.sum ∧ x - p.2 ≤ y + l.sum ∧ p.1 - x ≤ y + l.sum := e1
    rw [e2]
    constructor
    · rintro ⟨h1, h2, h3⟩
      have h4 := e1'.mp (by omega)
      refine ⟨h1, by omega, fun z hz => ?_⟩
      rcases List.mem_cons.mp hz with rfl | hz
      · omega
      · have := h3 z hz
        omega
    · rintro ⟨h1, h2, h3⟩
      have h4 := h3 x List.mem_cons_self
      have h5 := e1'.mpr ⟨by omega, by omega, by omega⟩
      refine ⟨h1, by omega, fun z hz => ?_⟩
      have := h3 z (List.mem_cons_of_mem _ hz)
      omega
theorem last_split {ns : List Int} (hne : ns ≠ []) : ns = ns.dropLast ++ [ns.getLastD 0] := by
  rw [List.getLastD_eq_getLast?, List.getLast?_eq_some_getLast hne]
  exact (List.dropLast_concat_getLast hne).symm
theorem homeB_iff {ns : List Int} (hne : ns ≠ []) (hnn : ∀ x ∈ ns, 0 ≤ x) : homeB ns = true ↔ ∀ x ∈ ns, 2 * x ≤ ns.sum := by
  have e := last_split hne
  have hl : ∀ x ∈ ns.dropLast, 0 ≤ x := fun x hx => hnn x (List.dropLast_subset _ hx)
  have hz : 0 ≤ ns.getLastD 0 := hnn _ (by rw [e]; simp)
  have hs : ns.sum = ns.dropLast.sum + ns.getLastD 0 := by
    have := congrArg List.sum e
    rw [List.sum_append] at this
    simpa using this
  have hm : ∀ x, x ∈ ns ↔ x ∈ ns.dropLast ∨ x = ns.getLastD 0 := fun x => by
    have : x ∈ ns ↔ x ∈ ns.dropLast ++ [ns.getLastD 0] := by rw [← e]
    rw [this]; simp
  unfold homeB
  simp only [Bool.and_eq_true, decide_eq_true_eq]
  rw [lh_fst _ _ _ hl (by simp), lh_snd]
  have hsl := sum_nonneg hl
  simp only [Int.zero_add, Int.zero_sub]
  constructor
  · rintro ⟨⟨h1, h2, h3⟩, h4⟩ x hx
    rcases (hm x).mp hx with h | h
    · have := h3 x h
      omega
    · omega
  · intro h
    refine ⟨⟨hz, by omega, fun x hx => ?_⟩, ?_⟩
    · have := h x ((hm x).mpr (Or.inl hx))
      omega
    · have := h _ ((hm _).mpr (Or.inr rfl))
      omega
theorem greats_nil {ns : List Int} : greats ns = [] ↔ ∀ x ∈ ns, 2 * x ≤ ns.sum := by
  unfold greats
  rw [List.map_eq_nil_iff, List.filter_eq_nil_iff]
  constructor
  · intro h x hx
    obtain ⟨i, hi⟩ := List.mem_iff_getElem?.mp hx
    have := h (x, i) (List.mem_zipIdx_iff_getElem?.mpr hi)
    simp only [decide_eq_true_eq] at this
    omega
  · intro h b hb
    have := h b.1 (List.mem_of_getElem? (List.mem_zipIdx_iff_getElem?.mp hb))
    simp only [decide_eq_true_eq]
    omega
theorem home_greats {ns : List Int} (hne : ns ≠ []) (hnn : ∀ x ∈ ns, 0 ≤ x) : homeB ns = decide (greats ns = []) := by
  by_cases h : greats ns = []
  · rw [decide_eq_true h]
    exact (homeB_iff hne hnn).mpr (greats_nil.mp h)
  · rw [decide_eq_false h]
    cases hb : homeB ns with
    | false => rfl
    | true => exact absurd (greats_nil.mpr ((homeB_iff hne hnn).mp hb)) h
/-- two items at two places are not both above the half -/
theorem one_great {ns : List Int} (hnn : ∀ x ∈ ns, 0 ≤ x) {i j : Nat} {x y : Int} (hi : ns[i]? = some x) (hj : ns[j]? = some y) (hx : ns.sum < 2 * x) (hy : ns.sum < 2 * y) : i = j := by
  obtain ⟨hil, hix⟩ := List.getElem?_eq_some_iff.mp hi
  obtain ⟨hjl, hjy⟩ := List.getElem?_eq_some_iff.mp hj
  have h1 := sum_split hil
  have h2 : ∀ z ∈ ns.eraseIdx i, 0 ≤ z := fun z hz => hnn z (List.mem_of_mem_eraseIdx hz)
  by_cases e : i = j
  · exact e
  · have hmem : y ∈ ns.eraseIdx i := by
      rw [List.mem_eraseIdx_iff_getElem?]
      exact ⟨j, fun z => e z.symm, hj⟩
    obtain ⟨k, hk⟩ := List.mem_iff_getElem?.mp hmem
    obtain ⟨hkl, hky⟩ := List.getElem?_eq_some_iff.mp hk
    have h3 := sum_split hkl
    have h4 : 0 ≤ ((ns.eraseIdx i).eraseIdx k).sum := sum_nonneg fun z hz => h2 z (List.mem_of_mem_eraseIdx hz)
    omega
theorem greats_one {ns : List Int} (hnn : ∀ x ∈ ns, 0 ≤ x) {i : Int} {r : List Int} (h : greats ns = i :: r) : r = [] := by
  cases r with
  | nil => rfl
  | cons j r =>
    exfalso
    have hfs : (ns.zipIdx.filter fun b => decide (ns.sum < 2 * b.1)).Pairwise (fun a b => a.2 < b.2) := by
      refine List.Pairwise.filter _ ?_
      rw [List.pairwise_iff_getElem]
      intro a b ha hb hab
      simp only [List.getElem_zipIdx]
      omega
    unfold greats at h
    rw [List.map_eq_cons_iff] at h
    obtain ⟨b1, l1, e1, rfl, e2⟩ := h
    rw [List.map_eq_cons_iff] at e2
    obtain ⟨b2, l2, e3, rfl, e4⟩ := e2
    subst e3
    have m1 : b1 ∈ ns.zipIdx.filter fun b => decide (ns.sum < 2 * b.1) := by rw [e1]; simp
    have m2 : b2 ∈ ns.zipIdx.filter fun b => decide (ns.sum < 2 * b.1) := by rw [e1]; simp
    have k1 := List.mem_filter.mp m1
    have k2 := List.mem_filter.mp m2
    have e := one_great hnn (List.mem_zipIdx_iff_getElem?.mp k1.1) (List.mem_zipIdx_iff_getElem?.mp k2.1) (of_decide_eq_true k1.2) (of_decide_eq_true k2.2)
    rw [e1] at hfs
    have := (List.pairwise_cons.mp hfs).1 b2 (by simp)
    omega
theorem absI_nn (i : Int) : 0 ≤ absI i := by unfold absI; split <;> omega
theorem nets_nn (ns : List Int) (ss : List (List Pr)) : ∀ x ∈ netsOf ns ss, 0 ≤ x := by
  intro x hx
  obtain ⟨st, _, rfl⟩ := List.mem_map.mp hx
  exact absI_nn _
end KB

-- part KD8
namespace KB
open PySem PySem.Spec PyProof.Rows L2
variable {P : Program} {w : World} {K : PySem.W.Frag} {mg : Str → Option Value} {base : Heap}
theorem B_Nets (T : Tx P K mg) : BoolM P w K mg base 1 (CC K "Nets") true := by
  obtain ⟨fd, F⟩ := T.m_Paper___bool.ex
  have nd := sc_Paper___bool.nd
  refine ⟨_, fd, _, T.bo_Nets, T.fb_Paper, b_Paper___bool F, F.ok sc_Paper___bool (fun vs H Q E h => ?_) (fun cdv A outer s H vs Q E hr h => ⟨_, PSs.nox 
      (pss_one (ps_ret pe_bl)), ?_⟩)⟩
  · obtain ⟨a, rfl, _⟩ := h; rfl
  · obtain ⟨a, rfl, q⟩ := h
    exact q
theorem B_TG (T : Tx P K mg) : BoolM P w K mg base 1 (CC K "TooGreat") false := by
  obtain ⟨fd, F⟩ := T.m_Denial___bool.ex
  have nd := sc_Denial___bool.nd
  refine ⟨_, fd, _, T.bo_TooGreat, T.fb_Denial, b_Denial___bool F, F.ok sc_Denial___bool (fun vs H Q E h => ?_) (fun cdv A outer s H vs Q E hr h => ⟨_, PSs.nox 
      (pss_one (ps_ret pe_bl)), ?_⟩)⟩
  · obtain ⟨a, rfl, _⟩ := h; rfl
  · obtain ⟨a, rfl, q⟩ := h
    exact q
/-! ### data that are equal -/
theorem eqv_ints_self (ns : List Int) : PyData.eqvAll (ns.map .int) (ns.map .int) = true := by rw [eqv_ints]; simp
def dTup (ns : List Int) : PyData := .tuple (ns.map .int)
theorem dTup_eq (ns : List Int) : PyData.eqv (dTup ns) (dTup ns) = true := by unfold dTup; rw [PyData.eqv, eqv_ints_self]
theorem dp_ints {H : Hp} {p : Addr} {ns : List Int} (h : H p = some (.tup (ns.map V.int))) : Dp K H (.ref p) (dTup ns) := .tup (Evl.st_of h) (dpall (R := rInt) (of_ints ns (H := H)))
def dTup1 (ns : List Int) : PyData := .tuple [dTup ns]
theorem dTup1_eq (ns : List Int) : PyData.eqv (dTup1 ns) (dTup1 ns) = true := by simp only [dTup1, PyData.eqv, PyData.eqvAll, dTup_eq, Bool.and_self]
theorem can_dTup (ns : List Int) : (dTup ns).canLay0 = true := by unfold dTup; simp [PyData.canLay0, can_ints ns]
theorem dep_dTup (ns : List Int) : (dTup ns).depth ≤ 2 := by
  have := dep_ints ns
  unfold dTup
  simp only [PyData.depth]
  omega
theorem sh_dTup1 (ns : List Int) : SeqAt.shaped (dTup1 ns) = true := by
  have h1 := can_dTup ns
  have h2 := dep_dTup ns
  have h3 : (dTup1 ns).depth ≤ 64 := by
    unfold dTup1
    simp [PyData.depth, PyData.depthAll]
    omega
  have h4 : (dTup1 ns).canLay0 = true := by simp [dTup1, PyData.canLay0, PyData.canLayAll0, h1]
  unfold SeqAt.shaped
  rw [h4, decide_eq_true h3]
  rfl
def dTG (lot : List Int) (a b : Int) : PyData := .tuple [dTup lot, .int a, .int b]
theorem dTG_eq (lot : List Int) (a b : Int) : PyData.eqv (dTG lot a b) (dTG lot a b) = true := by simp [dTG, PyData.eqv, PyData.eqvAll, dTup_eq]
theorem sh_dTG (lot : List Int) (a b : Int) : SeqAt.shaped (dTG lot a b) = true := by
  have h1 := can_dTup lot
  have h2 := dep_dTup lot
  have h3 : (dTG lot a b).depth ≤ 64 := by
    unfold dTG
    simp [PyData.depth, PyData.depthAll]
    omega
  have h4 : (dTG lot a b).canLay0 = true := by simp [dTG, PyData.canLay0, PyData.canLayAll0, h1]
  unfold SeqAt.shaped
  rw [h4, decide_eq_true h3]
  rfl
theorem dp_TG {H : Hp} {p t : Addr} {lot : List Int} {a b : Int} (h : H p = some (.tup [.ref t, .int a, .int b])) (ht : H t = some (.tup (lot.map V.int))) : Dp K H (.ref p) (dTG lot a b) :=
  .tup (Evl.st_of h) (.cons (dp_ints ht) (.cons (.int _) (.cons (.int _) .nil)))
theorem mk_Ring {ta : TE} {σ : L2.St} {H : Hp} {Q : VK} (h : ∀ Z : VK, (∀ v H1 ns, rInts H1 v ns → LensOk ns → (∀ v' H', Same H1 H' → rRing K H' v' ns → Q v' H') → Z v H1) → ta σ H Z) : tMake (CC K "Ring") (spRingI K) [] E0 (tCons ta tNil) σ H Q :=
  h _ fun v H1 ns hv hok k => rd_Ring hv hok k
theorem mk_Line {ta : TE} {σ : L2.St} {H : Hp} {Q : VK} (h : ∀ Z : VK, (∀ v H1 n ss, rStrands H1 v ss → StrandsOk n ss → (∀ v' H', Same H1 H' → rLine K H' v' ss → Q v' H') → Z v H1) → ta σ H Z) : tMake (CC K "LineUp") (spLineI K) [] E0 (tCons ta tNil) σ H Q :=
  h _ fun v H1 n ss hv hok k => rd_Line hv hok k
def spPaper : Sp := fun vs H Q _ => ∃ vl v ns ss, vs = [vl, v] ∧ rInts H vl ns ∧ rStrands H v ss ∧ LensOk ns ∧ StrandsOk ns.length ss ∧ ∀ H', Same H H' → Q (.bl true) H'
theorem G_law_paper_right (T : Tx P K mg) : DefOk P w K mg base CX0 9 "_law_paper_right" spPaper := by
  obtain ⟨f, fd, hm, F⟩ := T.d_law_paper_right.ex
  have nd := sc_law_paper_right.nd
  refine ⟨f, fd, _, hm, F.kp, b_law_paper_right F, F.ok sc_law_paper_right (fun vs H Q E h => ?_) (fun cdv A outer s H vs Q E hr h => ⟨_, PSs.nox 
      (pss_cons (ps_set (i := 2) nd rfl (Or.inl rfl) (pe_callD (G_law_right T) (hr.mono (by decide)) rfl pass0 (pa_cons (pv 1) pa_nil))) 
      (pss_cons (ps_asg (pe_tup (pa_cons (pe_callD (G_law_nets T) (hr.mono (by decide)) rfl pass0 (pa_cons (pv 0) (pa_cons (pv 2) pa_nil))) (pa_cons (pe_callD (G_can_line T) (hr.mono (by decide)) rfl pass0 (pa_cons (pe_makeD (M_Ring T) (hr.mono (by decide)) rfl pass0 (pa_cons (pv 0) pa_nil)) (pa_cons (pe_makeD (M_LineUp T) (hr.mono (by decide)) rfl pass0 (pa_cons (pv 1) pa_nil)) pa_nil))) pa_nil))) (pg_tupK K (n := 2) rfl (pgs_cons (pg_name (i := 3) nd rfl (Or.inr rfl)) (pgs_cons (pg_name (i := 4) nd rfl (Or.inl rfl)) pgs_nil)))) 
      (pss_cons (ps_if (pt_val (pe_callD (G_law_is_home T) (hr.mono (by decide)) rfl pass0 (pa_cons (pv 3) pa_nil))) 
          (pss_cons (ps_set (i := 5) nd rfl (Or.inl rfl) (pe_and (pe_callB call_isi rfl T.f_isinstance (by decide +kernel) (pa_cons (pv 4) (pa_cons (pe_gref T.g_Nets rfl) pa_nil))) (pe_and (pe_callB call_isi rfl T.f_isinstance (by decide +kernel) (pa_cons (pv 4) (pa_cons (pe_gref T.g_Paper rfl) pa_nil))) (pe_one (pe_callTy (call_boolB (k := 1) (hr.mono (by decide))) rfl T.f_bool (by decide +kernel) (pa_cons (pv 4) pa_nil)))))) 
          (pss_one (ps_ret (pe_and (pv 5) (pe_and (pe_cmpR op_eq (pe_fldK K (pv 4) rfl) pe_str (nomark _)) (pe_and (pe_cmpR (op_eqD hr.units) (pe_fldK K (pv 4) rfl) (pe_callTy (call_tupleK K) rfl T.f_tuple (by decide +kernel) (pa_cons (pv 3) pa_nil)) (nomark _)) (pe_one (pe_cmpR (op_eqD hr.units) (pe_fldK K (pv 4) rfl) (pe_tup (pa_cons (pe_callTy (call_tupleK K) rfl T.f_tuple (by decide +kernel) (pa_cons (pv 3) pa_nil)) pa_nil)) (nomark _))))))))) pss_nil) 
      (pss_cons (ps_if (PW.pt (pw_or (pt_not (pt_val (pe_callB call_isi rfl T.f_isinstance (by decide +kernel) (pa_cons (pv 4) (pa_cons (pe_gref T.g_TooGreat rfl) pa_nil))))) (pw_or (pt_not (pt_val (pe_callB call_isi rfl T.f_isinstance (by decide +kernel) (pa_cons (pv 4) (pa_cons (pe_gref T.g_Denial rfl) pa_nil))))) (pw_or (pt_truthB (k := 1) (hr.mono (by decide)) (pv 4) (by intro _; rfl)) (pw_or1 (pt_cmpR op_ne (pe_fldK K (pv 4) rfl) pe_str (nomark _))))))) 
          (pss_one (ps_ret pe_bl)) pss_nil) 
      (pss_cons (ps_setLc (i := 6) (own := [(("_law_spot" : Str), 8), (("_law_net" : Str), 9)]) rfl nd rfl rfl (sw_true rfl rfl rfl (by decide +kernel)) (pi_enum rfl T.f_enumerate (pa_cons (pv 3) pa_nil)) (blkOk_by (own := [(("_law_spot" : Str), 8), (("_law_net" : Str), 9)]) (N := N_law_paper_right) (sc := defScope s_law_paper_right) (by decide +kernel)) (fun _ _ _ _ _ => pg_tupK K (n := 2) rfl (pgs_cons (pg_name (i := 8) nd rfl (Or.inl rfl)) (pgs_cons (pg_name (i := 9) nd rfl (Or.inl rfl)) pgs_nil))) (fun _ _ _ _ _ => pts_one (pt_cmpR op_gt (pv 9) (pe_op op_sub (pe_callB (cr_sumK K rfl) rfl T.f_sum (by decide +kernel) (pa_cons (pv 3) pa_nil)) (pv 9)) (nomark _))) (fun _ _ _ _ _ => (pv 8))) 
      (pss_cons (ps_set (i := 7) nd rfl (Or.inl rfl) (pe_callTy (call_tupleK K) rfl T.f_tuple (by decide +kernel) (pa_cons (pe_lc (own := [(("_law_bar" : Str), 10), (("_law_sign" : Str), 11)]) rfl nd (pi_tupK K (pe_ix (ix_tupK K) (pv 2) (pe_ix (ix_listK K) (pv 6) pe_int (fun _ _ => rfl)) (fun _ _ => rfl))) (blkOk_by (own := [(("_law_bar" : Str), 10), (("_law_sign" : Str), 11)]) (N := N_law_paper_right) (sc := defScope s_law_paper_right) (by decide +kernel)) (fun _ _ _ _ _ => pg_tupK K (n := 2) rfl (pgs_cons (pg_name (i := 10) nd rfl (Or.inl rfl)) (pgs_cons (pg_name (i := 11) nd rfl (Or.inl rfl)) pgs_nil))) (fun _ _ _ _ _ => pts_nil) (fun _ _ _ _ _ => (pv 10))) pa_nil))) 
      (pss_one (ps_ret (pe_and (pe_cmpR op_eq (pe_callB (call_lenK K) rfl T.f_len (by decide +kernel) (pa_cons (pv 6) pa_nil)) pe_int (nomark _)) (pe_and (pe_cmpR (op_eqD hr.units) (pe_fldK K (pv 4) rfl) (pe_tup (pa_cons (pv 7) (pa_cons (pe_ix (ix_listK K) (pv 3) (pe_ix (ix_listK K) (pv 6) pe_int (fun _ _ => rfl)) (fun _ _ => rfl)) (pa_cons (pe_op op_sub (pe_callB (cr_sumK K rfl) rfl T.f_sum (by decide +kernel) (pa_cons (pv 3) pa_nil)) (pe_ix (ix_listK K) (pv 3) (pe_ix (ix_listK K) (pv 6) pe_int (fun _ _ => rfl)) (fun _ _ => rfl))) pa_nil)))) (nomark _)) (pe_one (pe_cmpR (op_eqD hr.units) (pe_tup (pa_cons (pe_fldK K (pv 4) rfl) (pa_cons (pe_fldK K (pv 4) rfl) (pa_cons (pe_fldK K (pv 4) rfl) pa_nil)))) (pe_fldK K (pv 4) rfl) (nomark _))))))))))))), ?_⟩)⟩
  · obtain ⟨vl, v, ns, ss, rfl, _⟩ := h; rfl
  · obtain ⟨vl, v, ns, ss, rfl, hl, hv, hok, hss, q⟩ := h
    refine q_set ⟨_, rfl, v, _, ss, rfl, hv, hss, fun vd H1 e1 hd => ?_⟩
    have hrl := right_len ss
    have hsl := hss.len
    refine seq_ (asg_ ⟨_, rfl, _, rfl, vl, vd, ns, right ss, rfl, Mn.mn e1 hl, Or.inl hd, by omega, fun st hst => netOk_right hss hst, fun vn H2 e2 hn => ?_⟩)
    refine call_ (cons_ (mk_Ring fun Z z => ⟨_, rfl, z _ _ ns (Mn.mn (e1.trans e2) hl) hok fun vr H3 e3 hR => cons_ (mk_Line fun Z z => ⟨_, rfl, z _ _ _ ss (Mn.mn ((e1.trans e2).trans e3) hv) hss fun vL H4 e4 hL => ?_⟩)⟩))
    refine ⟨vr, vL, ns, ss, rfl, Mn.mn e4 hR, hL, hok, hss, fun vt H5 e5 hC => ⟨sz2, fun tp htp => ?_⟩⟩
    have e6 := new_same (o := .tup [vn, vt]) htp
    have e26 := ((e3.trans e4).trans e5).trans e6
    have hn6 : rInts (upd H5 tp (.tup [vn, vt])) vn (netsOf ns ss) := Mn.mn e26 hn
    have hd6 : rRows (upd H5 tp (.tup [vn, vt])) vd (right ss) := Mn.mn (e2.trans e26) hd
    have e06 := (e1.trans e2).trans e26
    refine ⟨tp, _, rfl, Evl.st_of upd_same, rfl, _, _, rfl, _, _, rfl, rfl, ?_⟩
    dsimp only
    have hnn := nets_nn ns ss
    have hnl : (netsOf ns ss).length ≤ 8 := by unfold netsOf; rw [List.length_map]; omega
    have hne : netsOf ns ss ≠ [] := by
      intro z
      have := congrArg List.length z
      unfold netsOf at this
      rw [List.length_map, hrl] at this
      exact hss.ne (List.length_eq_zero_iff.mp (by simpa using this))
    have hC6 : (greats (netsOf ns ss) = [] ∧ rNets K (upd H5 tp (.tup [vn, vt])) vt (netsOf ns ss)) ∨ ∃ (j : Nat) (r : List Int) (x : Int) (st : List Pr), greats (netsOf ns ss) = (j : Int) :: r ∧ (netsOf ns ss)[j]? = some x ∧ (netsOf ns ss).sum < 2 * x ∧ (right ss)[j]? = some st ∧ rTG K (upd H5 tp (.tup [vn, vt])) vt (lotOf st, x, (netsOf ns ss).sum - x) := by
      rcases hC with ⟨h1, h2⟩ | ⟨j, r, x, st, h1, h2, h3, h4, h5⟩
      · exact Or.inl ⟨h1, Mn.mn e6 h2⟩
      · exact Or.inr ⟨j, r, x, st, h1, h2, h3, h4, Mn.mn e6 h5⟩
    generalize upd H5 tp (.tup [vn, vt]) = G at hn6 hd6 e06 hC6 ⊢
    refine q_if ⟨_, rfl, vn, _, rfl, hn6, hne, by omega, fun H7 e7 => ⟨_, rfl, ?_⟩⟩
    rw [home_greats hne hnn]
    have e07 := e06.trans e7
    rcases hC6 with ⟨hg, hN⟩ | ⟨j, r, x, st, hg, hx, hgt, hst, hT⟩
    · refine ifT (decide_eq_true hg) ?_
      obtain ⟨o, dx, p, t, rfl, ho, hp, ht⟩ := (Mn.mn e7 hN : rNets K H7 vt (netsOf ns ss))
      have hn7 : rInts H7 vn (netsOf ns ss) := Mn.mn e7 hn6
      obtain ⟨a, us, rfl, ha, hau⟩ := hn7
      rw [ints_of hau] at ha
      refine q_set ⟨_, rfl, _, _, _, _, true, rfl, .own _, tyx_ins ho T.cl_Nets T.ty_Nets, kit_self _, true, rfl, ifT rfl ⟨_, rfl, _, _, _, _, true, rfl, .own _, tyx_ins ho T.cl_Nets T.ty_Nets, T.ko_Nets_Paper, true, rfl, ifT rfl ?_⟩⟩
      refine ⟨_, rfl, _, rfl, o, _, dx, _, true, rfl, ho, B_Nets T, ?_⟩
      refine ret_ ⟨_, rfl, true, rfl, ifT rfl ?_⟩
      refine ⟨_, rfl, o, _, dx, _, _, rfl, ho, T.cl_Nets, T.na_Nets_word, rfl, rfl, true, rfl, ifT rfl ?_⟩
      refine ⟨_, rfl, o, _, dx, _, _, rfl, ho, T.cl_Nets, T.na_Nets_nets, rfl, ?_⟩
      refine ⟨_, rfl, a, _, rfl, Or.inl ⟨Evl.sq_of ha, fun l hl => ?_⟩⟩
      have e8 := new_same (o := .tup ((netsOf ns ss).map V.int)) hl
      refine ⟨_, _, dp_ints (e8 _ _ ht), dp_ints upd_same, (sh_ints _).2, (sh_ints _).2, true, congrArg V.bl (dTup_eq _), ifT rfl ?_⟩
      refine ⟨_, rfl, o, _, dx, _, _, rfl, e8 _ _ ho, T.cl_Nets, T.na_Nets_parts, rfl, ?_⟩
      refine ⟨_, rfl, a, _, rfl, Or.inl ⟨Evl.sq_of (e8 _ _ ha), fun l2 hl2 => ⟨(by show 1 ≤ sizeLine; decide), fun l3 hl3 => ?_⟩⟩⟩
      have e9 := new_same (o := .tup ((netsOf ns ss).map V.int)) hl2
      have e10 := new_same (o := .tup [.ref l2]) hl3
      have e810 := (e8.trans e9).trans e10
      refine ⟨dTup1 (netsOf ns ss), dTup1 (netsOf ns ss), .tup (Evl.st_of (e810 _ _ hp)) (.cons (dp_ints (e810 _ _ ht)) .nil), .tup (Evl.st_of upd_same) (.cons (dp_ints (e10 _ _ upd_same)) .nil), sh_dTup1 _, sh_dTup1 _, ?_⟩
      rw [dTup1_eq]
      exact q _ (e07.trans e810)
    · refine ifF (decide_eq_false (by rw [hg]; exact fun z => nomatch z)) ?_
      obtain ⟨o, dx, p, t, rfl, ho, hp, ht⟩ := (Mn.mn e7 hT : rTG K H7 vt (lotOf st, x, (netsOf ns ss).sum - x))
      have hr1 := greats_one hnn hg
      subst hr1
      refine q_skip (fun Z z => ⟨_, rfl, _, _, _, _, true, rfl, .own _, tyx_ins ho T.cl_TooGreat T.ty_TooGreat, kit_self _, true, rfl, ifF rfl ⟨_, rfl, _, _, _, _, true, rfl, .own _, tyx_ins ho T.cl_TooGreat T.ty_TooGreat, T.ko_TooGreat_Denial, true, rfl, ifF rfl ⟨_, rfl, o, _, dx, _, false, rfl, ho, B_TG T, ifF rfl ⟨_, rfl, o, _, dx, _, _, rfl, ho, T.cl_TooGreat, T.na_TooGreat_word, rfl, rfl, false, rfl, z _ (Same.refl _)⟩⟩⟩⟩) fun H8 e8 => ?_
      have e78 := e7.trans e8
      have hn8 : rInts H8 vn (netsOf ns ss) := Mn.mn e78 hn6
      have ⟨a, us, ea, ha, hau⟩ := hn8
      subst ea
      rw [ints_of hau] at ha
      refine seq_ (asg_ (rd_lcE (RO := rInt) (as := netsOf ns ss) (fun b => decide ((netsOf ns ss).sum - b.1 < b.1)) (fun b => ((b.2 : Nat) : Int)) (fun Z z => ⟨_, rfl, z _ _ (Same.refl _) hn8⟩) (by omega) (fun x y => rfl) (fun b hb H2 Zt Zf e2 kt kf => ?_) (fun v2 H9 e9 h2 => ?_)))
      · refine ⟨_, rfl, _, rfl, a, _, rfl, Evl.sq_of (e2 _ _ ha), _, rfl, _, _, rfl, rfl, _, _, rfl, rfl, _, rfl, ?_⟩
        by_cases h : (netsOf ns ss).sum - b.1 < b.1
        · exact ifT (decide_eq_true h) ⟨_, rfl, kt (decide_eq_true h) _ _ (Same.refl _) rfl⟩
        · exact ifF (decide_eq_false h) (kf (decide_eq_false h) _ (Same.refl _))
      · have eg : ((netsOf ns ss).zipIdx.filter fun b => decide ((netsOf ns ss).sum - b.1 < b.1)).map (fun b => ((b.2 : Nat) : Int)) = [(j : Int)] := by
          rw [← hg]
          unfold greats
          congr 1
          refine List.filter_congr fun b _ => ?_
          exact decide_eq_decide.mpr ⟨fun z => by omega, fun z => by omega⟩
        have h2 : LOf rInt H9 v2 [(j : Int)] := eg ▸ h2
        obtain ⟨D, ys, rfl, hD, hDp⟩ := h2
        rw [ints_of hDp] at hD
        refine nm_ ?_
        dsimp only
        have e69 := e78.trans e9
        have ⟨a2, us2, ea2, ha2, hau2⟩ := (Mn.mn e69 hd6 : rRows H9 vd (right ss))
        subst ea2
        obtain ⟨rv, hrv, hrow⟩ := hau2.at2 hst
        have hlst := (netOk_right hss (List.mem_of_getElem? hst)).1
        refine seq_ (asg_ (cb1 (rd_lcU (R := rPair) (RO := rInt) (as := st) (fun p => p.1) (fun Z z => ⟨_, rfl, _, rfl, D, _, 0, .int (j : Int), rfl, rfl, Evl.sq_of hD, atI_nat (j := 0) rfl, a2, us2, (j : Int), rv, rfl, rfl, Evl.st_of ha2, atI_nat hrv, z _ _ (Same.refl _) hrow⟩) (by omega) (fun p hp y H2 Z e2 r k => ?_) (fun v H10 e10 hv => ?_))))
        · exact rd_pairT r ⟨rfl, _, rfl, k _ _ (Same.refl _) rfl⟩
        · refine rd_tuple hv fun v3 H11 e11 h5 => ?_
          have h5 : rIntT H11 v3 (lotOf st) := h5
          obtain ⟨lt, us3, rfl, hlt, hlp⟩ := h5
          rw [ints_of hlp] at hlt
          refine nm_ ?_
          dsimp only
          have e911 := e10.trans e11
          have e811 := (e8.trans e9).trans e911
          have hD11 := e911 _ _ hD
          have ha11 := (e9.trans e911) _ _ ha
          have hnx : atI ((netsOf ns ss).map V.int) (j : Int) = some (.int x) := atI_nat (by rw [List.getElem?_map, hx]; rfl)
          refine ret_ ⟨_, rfl, D, _, rfl, Or.inl (Evl.sq_of hD11), rfl, true, rfl, ifT rfl ?_⟩
          refine ⟨_, rfl, o, _, dx, _, _, rfl, e811 _ _ ho, T.cl_TooGreat, T.na_TooGreat_parts, rfl, ?_⟩
          refine ⟨_, rfl, _, rfl, _, rfl, D, _, 0, .int (j : Int), rfl, rfl, Evl.sq_of hD11, atI_nat (j := 0) rfl, a, _, (j : Int), _, rfl, rfl, Evl.sq_of ha11, hnx, ?_⟩
          refine ⟨_, rfl, a, _, rfl, Evl.sq_of ha11, _, rfl, _, rfl, D, _, 0, .int (j : Int), rfl, rfl, Evl.sq_of hD11, atI_nat (j := 0) rfl, a, _, (j : Int), _, rfl, rfl, Evl.sq_of ha11, hnx, _, _, rfl, rfl, (by show 3 ≤ sizeLine; decide), fun k1 hk1 => ?_⟩
          have e12 := new_same (o := .tup [.ref lt, .int x, .int ((netsOf ns ss).sum - x)]) hk1
          have e812 := e811.trans e12
          refine ⟨dTG (lotOf st) x ((netsOf ns ss).sum - x), dTG (lotOf st) x ((netsOf ns ss).sum - x), dp_TG (e812 _ _ hp) (e812 _ _ ht), dp_TG upd_same (e12 _ _ hlt), sh_dTG _ _ _, sh_dTG _ _ _, true, congrArg V.bl (dTG_eq _ _ _), ifT rfl ?_⟩
          have ho12 := e812 _ _ ho
          refine ⟨_, rfl, o, _, dx, _, _, rfl, ho12, T.cl_TooGreat, T.na_TooGreat_lot, rfl, _, rfl, o, _, dx, _, _, rfl, ho12, T.cl_TooGreat, T.na_TooGreat_net, rfl, _, rfl, o, _, dx, _, _, rfl, ho12, T.cl_TooGreat, T.na_TooGreat_others, rfl, (by show 3 ≤ sizeLine; decide), fun k2 hk2 => ?_⟩
          have e13 := new_same (o := .tup [.ref t, .int x, .int ((netsOf ns ss).sum - x)]) hk2
          have e813 := e812.trans e13
          refine ⟨_, rfl, o, _, dx, _, _, rfl, e813 _ _ ho, T.cl_TooGreat, T.na_TooGreat_parts, rfl, ?_⟩
          refine ⟨dTG (lotOf st) x ((netsOf ns ss).sum - x), dTG (lotOf st) x ((netsOf ns ss).sum - x), dp_TG upd_same (e813 _ _ ht), dp_TG (e813 _ _ hp) (e813 _ _ ht), sh_dTG _ _ _, sh_dTG _ _ _, ?_⟩
          rw [dTG_eq]
          exact q _ ((e07.trans e812).trans e13)
end KB

-- part KD9
namespace KB
open PySem PySem.Spec PyProof.Rows L2
variable {P : Program} {w : World} {K : PySem.W.Frag} {mg : Str → Option Value} {base : Heap}
theorem paired_perm {α β : Type} {F : α → β → Prop} : ∀ {ys xs : List α} {as : List β}, ys.Perm xs → Paired F xs as → ∃ bs, bs.Perm as ∧ Paired F ys bs := by
  intro ys xs as h
  induction h generalizing as with
  | nil => intro p; exact ⟨as, List.Perm.refl _, p⟩
  | cons x _ ih =>
    intro p
    cases p with
    | cons r t =>
      obtain ⟨bs, h1, h2⟩ := ih t
      exact ⟨_ :: bs, List.Perm.cons _ h1, .cons r h2⟩
  | swap x y l =>
    intro p
    cases p with
    | cons r t =>
      cases t with
      | cons r2 t2 => exact ⟨_ :: _ :: _, List.Perm.swap _ _ _, .cons r2 (.cons r t2)⟩
  | trans _ _ ih1 ih2 =>
    intro p
    obtain ⟨bs, h1, h2⟩ := ih2 p
    obtain ⟨cs, h3, h4⟩ := ih1 h2
    exact ⟨cs, h3.trans h1, h4⟩
theorem split_at {α : Type} {l : List α} {k : Nat} {x : α} (h : l[k]? = some x) : l = l.take k ++ [x] ++ l.drop (k + 1) := by
  obtain ⟨hk, hx⟩ := List.getElem?_eq_some_iff.mp h
  have h1 : l.take (k + 1) = l.take k ++ [x] := by rw [List.take_add_one, h]; rfl
  rw [← h1, List.take_append_drop]
def Parted (ss ss' : List (List Pr)) : Prop := ss' = ss ∨ ∃ (k : Nat) (st r1 r2 : List Pr), ss[k]? = some st ∧ ss' = ss.take k ++ [r1, r2] ++ ss.drop (k + 1) ∧ (r1 ++ r2).Perm st ∧ r1 ≠ [] ∧ r2 ≠ []
theorem Parted.ok {n : Nat} {ss ss' : List (List Pr)} (h : Parted ss ss') (hs : StrandsOk n ss) : StrandsOk n ss' := by
  rcases h with rfl | ⟨k, st, r1, r2, h1, rfl, h3, h4, h5⟩
  · exact hs
  · have hmem := List.mem_of_getElem? h1
    have e := split_at h1
    refine ⟨fun t ht => ?_, ?_, hs.2.2⟩
    · simp only [List.append_assoc, List.mem_append, List.mem_cons, List.not_mem_nil, or_false] at ht
      rcases ht with ht | (rfl | rfl) | ht
      · exact hs.1 t (List.mem_of_mem_take ht)
      · exact ⟨h4, fun p hp => (hs.1 st hmem).2 p (h3.mem_iff.mp (List.mem_append_left _ hp))⟩
      · exact ⟨h5, fun p hp => (hs.1 st hmem).2 p (h3.mem_iff.mp (List.mem_append_right _ hp))⟩
      · exact hs.1 t (List.mem_of_mem_drop ht)
    · refine List.Perm.trans (List.Perm.map _ ?_) hs.2.1
      have e2 : ss.flatten = (ss.take k).flatten ++ st ++ (ss.drop (k + 1)).flatten := by
        have := congrArg List.flatten e
        simpa [List.flatten_append] using this
      rw [e2]
      simp only [List.flatten_append, List.flatten_cons, List.flatten_nil, List.append_nil]
      exact List.Perm.append_right _ (List.Perm.append_left _ h3)
/-- strands that no bench holds -/
theorem strands_list {b : Addr} {H : Hp} {v : V} {ss : List (List Pr)} (h : rStrands (del H b) v ss) : ∃ p xs, v = .ref p ∧ p ≠ b ∧ H p = some (.lst xs) ∧ Paired (rStrand (del H b)) xs ss := by
  obtain ⟨p, xs, e, hp, hh⟩ := h
  refine ⟨p, xs, e, fun z => ?_, del_in _ _ hp, hh⟩
  rw [z, del_same] at hp
  cases hp
def spParted : Sp := fun vs H Q _ => ∃ b c v n m ss, vs = [.ref b, v] ∧ Bench b c n H ∧ n < 80000 ∧ rStrands (del H b) v ss ∧ StrandsOk m ss ∧ ∀ v' ss' H', rStrands (del H' b) v' ss' → Parted ss ss' → Bench b c (n + 10) H' → But b H H' → Q v' H'
theorem G_law_parted (T : Tx P K mg) : DefOk P w K mg base CX0 3 "_law_parted" spParted := by
  obtain ⟨f, fd, hm, F⟩ := T.d_law_parted.ex
  have nd := sc_law_parted.nd
  refine ⟨f, fd, _, hm, F.kp, b_law_parted F, F.ok sc_law_parted (fun vs H Q E h => ?_) (fun cdv A outer s H vs Q E hr h => ⟨_, PSs.nox 
      (pss_cons (ps_set (i := 2) nd rfl (Or.inl rfl) (pe_callD (G_law_draw T) (hr.mono (by decide)) rfl pass0 (pa_cons (pv 0) (pa_cons (pe_callB (call_lenK K) rfl T.f_len (by decide +kernel) (pa_cons (pv 1) pa_nil)) pa_nil)))) 
      (pss_cons (ps_set (i := 3) nd rfl (Or.inl rfl) (pe_callD (G_law_mixed T) (hr.mono (by decide)) rfl pass0 (pa_cons (pv 0) (pa_cons (pe_ix (ix_listK K) (pv 1) (pv 2) (fun _ _ => rfl)) pa_nil)))) 
      (pss_cons (ps_if (pt_cmpR op_lt (pe_callB (call_lenK K) rfl T.f_len (by decide +kernel) (pa_cons (pv 3) pa_nil)) pe_int (nomark _)) 
          (pss_one (ps_ret (pv 1))) pss_nil) 
      (pss_cons (ps_set (i := 4) nd rfl (Or.inl rfl) (pe_op op_add pe_int (pe_callD (G_law_draw T) (hr.mono (by decide)) rfl pass0 (pa_cons (pv 0) (pa_cons (pe_op op_sub (pe_callB (call_lenK K) rfl T.f_len (by decide +kernel) (pa_cons (pv 3) pa_nil)) pe_int) pa_nil))))) 
      (pss_one (ps_ret (pe_op op_cat (pe_op op_cat (pe_slice sl_list (pv 1) po_none (po_some (pv 2))) (pe_lst (pa_cons (pe_slice sl_list (pv 3) po_none (po_some (pv 4))) (pa_cons (pe_slice sl_list (pv 3) (po_some (pv 4)) po_none) pa_nil)))) (pe_slice sl_list (pv 1) (po_some (pe_op op_add (pv 2) pe_int)) po_none)))))))), ?_⟩)⟩
  · obtain ⟨b, c, v, n, m, ss, rfl, _⟩ := h; rfl
  · obtain ⟨b, c, v, n, m, ss, rfl, hb, hn, hv, hok, q⟩ := h
    obtain ⟨p, xs, rfl, hpb, hp, hps⟩ := strands_list hv
    have hsl := hok.len
    have hxl : xs.length = ss.length := hps.len
    have hpos : 0 < ss.length := List.length_pos_iff.mpr hok.ne
    refine q_set ⟨_, rfl, _, rfl, p, xs, rfl, Or.inl (Evl.sq_of hp), b, c, _, n, rfl, hb, by omega, ⟨by omega, by omega⟩, fun d H1 hd hb1 hB1 => ?_⟩
    obtain ⟨k, rfl⟩ : ∃ k : Nat, d = (k : Int) := ⟨d.toNat, by omega⟩
    have hk : k < ss.length := by omega
    obtain ⟨y, hy, hst⟩ := hps.at2 (List.getElem?_eq_getElem hk)
    have hst1 : rStrand (del H1 b) y ss[k] := Mn.mn hB1 hst
    obtain ⟨r, vs, rfl, hr', hrv⟩ := hst1
    have hrb : r ≠ b := fun z => by rw [z, del_same] at hr'; cases hr'
    have hr1 := del_in _ _ hr'
    have hp1 := hB1.at hpb hp
    have hso := hok.strand (List.getElem_mem hk)
    have hvl : vs.length ≤ 8 := by rw [hrv.len]; exact hso.2.1
    refine q_set ⟨_, rfl, _, rfl, _, rfl, p, xs, (k : Int), .ref r, rfl, rfl, Evl.sq_of hp1, atI_nat hy, b, c, r, vs, n + 1, rfl, hb1, by omega, hr1, hrb, by omega, fun f ys H2 hys hf hf0 hb2 hB2 => ?_⟩
    obtain ⟨st', hst', hyst⟩ := paired_perm hys hrv
    have hyst2 : Paired (rPair (del H2 b)) ys st' := hyst.mapF fun _ _ z => Mn.mn hB2 z
    have hyl : ys.length = vs.length := hys.length_eq
    have hp2 := hB2.at hpb hp1
    have hps2 : Paired (rStrand (del H2 b)) xs ss := hps.mapF fun _ _ z => Mn.mn (hB1.trans hB2) z
    have hB02 := hB1.trans hB2
    refine q_ifB (decide ((ys.length : Int) < 2)) (fun Z z => ⟨_, rfl, f, ys, rfl, Or.inl (Evl.sq_of hf), _, 2, rfl, rfl, _, rfl, z _ (Same.refl _)⟩) (fun hbb H3 e3 => ?_) fun hbb H3 e3 => ?_
    · exact ⟨_, rfl, q _ ss H3 (Mn.mn (hB02.trans (But.of e3)) hv) (Or.inl rfl) ((hb2.same e3).mono (by omega)) (hB02.trans (But.of e3))⟩
    · have hge : 2 ≤ ys.length := by
        have := of_decide_eq_false hbb
        omega
      have hf3 := e3 _ _ hf
      refine q_set ⟨_, rfl, _, rfl, f, ys, rfl, Or.inl (Evl.sq_of hf3), _, 1, rfl, rfl, b, c, _, _, rfl, hb2.same e3, by omega, ⟨by omega, by omega⟩, fun d4 H4 hd4 hb4 hB4 => ⟨1, d4, rfl, rfl, ?_⟩⟩
      have hfb : f ≠ b := (hb.fresh (by cases q0 : H f with
        | none => rfl
        | some o => rw [hB1.at (hb1.fresh hf0).1 q0] at hf0; cases hf0)).1
      have hB24 : But b H2 H4 := (But.of e3).trans hB4
      have hf4 := hB4.at hfb hf3
      have hp4 := hB24.at hpb hp2
      obtain ⟨cu, hcu⟩ : ∃ cu : Nat, 1 + d4 = (cu : Int) := ⟨(1 + d4).toNat, by omega⟩
      have hcu2 : 1 ≤ cu ∧ cu < ys.length := by omega
      dsimp only
      rw [hcu]
      refine ret_ ⟨_, rfl, _, rfl, (k : Int), rfl, p, xs, rfl, Evl.sq_of hp4, fun a1 ha1 => ?_⟩
      rw [cut_take]
      have E1 := new_same (o := .lst (xs.take k)) ha1
      have O1 : upd H4 a1 (.lst (xs.take k)) a1 = some (.lst (xs.take k)) := upd_same
      have B1 := hB24.trans (But.of E1)
      have N1 := hb4.same E1
      have P1 := E1 _ _ hp4
      have F1 := E1 _ _ hf4
      dsimp only
      generalize upd H4 a1 (.lst (xs.take k)) = G1 at E1 O1 B1 N1 P1 F1 ⊢
      refine ⟨_, rfl, _, rfl, (cu : Int), rfl, f, ys, rfl, Evl.sq_of F1, fun a2 ha2 => ?_⟩
      rw [cut_take]
      have E2 := new_same (o := .lst (ys.take cu)) ha2
      have O2 : upd G1 a2 (.lst (ys.take cu)) a2 = some (.lst (ys.take cu)) := upd_same
      have B2 := B1.trans (But.of E2)
      have N2 := N1.same E2
      have P2 := E2 _ _ P1
      have F2 := E2 _ _ F1
      have O12 := E2 _ _ O1
      generalize upd G1 a2 (.lst (ys.take cu)) = G2 at E2 O2 B2 N2 P2 F2 O12 ⊢
      refine ⟨_, rfl, _, rfl, (cu : Int), rfl, f, ys, rfl, Evl.sq_of F2, fun a3 ha3 => ?_⟩
      rw [cut_drop]
      have E3 := new_same (o := .lst (ys.drop cu)) ha3
      have O3 : upd G2 a3 (.lst (ys.drop cu)) a3 = some (.lst (ys.drop cu)) := upd_same
      have B3 := B2.trans (But.of E3)
      have N3 := N2.same E3
      have P3 := E3 _ _ P2
      have O13 := E3 _ _ O12
      have O23 := E3 _ _ O2
      generalize upd G2 a3 (.lst (ys.drop cu)) = G3 at E3 O3 B3 N3 P3 O13 O23 ⊢
      refine ⟨sz2, fun a4 ha4 => ?_⟩
      have E4 := new_same (o := .lst [.ref a2, .ref a3]) ha4
      have O4 : upd G3 a4 (.lst [.ref a2, .ref a3]) a4 = some (.lst [.ref a2, .ref a3]) := upd_same
      have B4 := B3.trans (But.of E4)
      have N4 := N3.same E4
      have P4 := E4 _ _ P3
      have O14 := E4 _ _ O13
      have O24 := E4 _ _ O23
      have O34 := E4 _ _ O3
      generalize upd G3 a4 (.lst [.ref a2, .ref a3]) = G4 at E4 O4 B4 N4 P4 O14 O24 O34 ⊢
      have hl1 : (xs.take k ++ [V.ref a2, V.ref a3]).length ≤ 100 := by
        rw [List.length_append, List.length_take]
        show min k xs.length + 2 ≤ 100
        omega
      refine ⟨a1, a4, _, _, rfl, rfl, O14, O4, Evl.sz_of (by rw [← List.length_append]; omega), fun a5 ha5 => ?_⟩
      have E5 := new_same (o := .lst (xs.take k ++ [.ref a2, .ref a3])) ha5
      have O5 : upd G4 a5 (.lst (xs.take k ++ [.ref a2, .ref a3])) a5 = some (.lst (xs.take k ++ [.ref a2, .ref a3])) := upd_same
      have B5 := B4.trans (But.of E5)
      have N5 := N4.same E5
      have P5 := E5 _ _ P4
      have O25 := E5 _ _ O24
      have O35 := E5 _ _ O34
      generalize upd G4 a5 (.lst (xs.take k ++ [.ref a2, .ref a3])) = G5 at E5 O5 B5 N5 P5 O25 O35 ⊢
      refine ⟨_, rfl, _, rfl, _, 1, rfl, rfl, ((k + 1 : Nat) : Int), rfl, p, xs, rfl, Evl.sq_of P5, fun a6 ha6 => ?_⟩
      rw [cut_drop]
      have E6 := new_same (o := .lst (xs.drop (k + 1))) ha6
      have O6 : upd G5 a6 (.lst (xs.drop (k + 1))) a6 = some (.lst (xs.drop (k + 1))) := upd_same
      have B6 := B5.trans (But.of E6)
      have N6 := N5.same E6
      have O56 := E6 _ _ O5
      have O26 := E6 _ _ O25
      have O36 := E6 _ _ O35
      generalize upd G5 a6 (.lst (xs.drop (k + 1))) = G6 at E6 O6 B6 N6 O56 O26 O36 ⊢
      have hl2 : (xs.drop (k + 1)).length ≤ 100 := by rw [List.length_drop]; omega
      refine ⟨a5, a6, _, _, rfl, rfl, O56, O6, Evl.sz_of (by omega), fun a7 ha7 => ?_⟩
      have E7 := new_same (o := .lst (xs.take k ++ [.ref a2, .ref a3] ++ xs.drop (k + 1))) ha7
      have B7 := B6.trans (But.of E7)
      have N7 := N6.same E7
      have O7 : upd G6 a7 (.lst (xs.take k ++ [.ref a2, .ref a3] ++ xs.drop (k + 1))) a7 = some (.lst (xs.take k ++ [.ref a2, .ref a3] ++ xs.drop (k + 1))) := upd_same
      have O27 := E7 _ _ O26
      have O37 := E7 _ _ O36
      have ha7b := (N6.fresh ha7).1
      generalize upd G6 a7 (.lst (xs.take k ++ [.ref a2, .ref a3] ++ xs.drop (k + 1))) = G7 at E7 O7 B7 N7 O27 O37 ⊢
      have ha2b := (N1.fresh ha2).1
      have ha3b := (N2.fresh ha3).1
      have hst7 : Paired (rPair (del G7 b)) ys st' := hyst2.mapF fun _ _ z => Mn.mn B7 z
      have hss7 : Paired (rStrand (del G7 b)) xs ss := hps2.mapF fun _ _ z => Mn.mn B7 z
      have hlst : st'.length = ys.length := hst7.len.symm
      refine q (.ref a7) (ss.take k ++ [st'.take cu, st'.drop cu] ++ ss.drop (k + 1)) G7 ⟨a7, _, rfl, by rw [del_ne ha7b]; exact O7, ?_⟩ (Or.inr ⟨k, ss[k], st'.take cu, st'.drop cu, List.getElem?_eq_getElem hk, rfl, by rw [List.take_append_drop]; exact hst', ?_, ?_⟩) (N7.mono (by omega)) (hB02.trans B7)
      · refine Paired.app (Paired.app (hss7.tk k) (.cons ?_ (.cons ?_ .nil))) (hss7.dp (k + 1))
        · exact ⟨a2, _, rfl, by rw [del_ne ha2b]; exact O27, hst7.tk cu⟩
        · exact ⟨a3, _, rfl, by rw [del_ne ha3b]; exact O37, hst7.dp cu⟩
      · intro z
        have := congrArg List.length z
        rw [List.length_take, List.length_nil] at this
        omega
      · intro z
        have := congrArg List.length z
        rw [List.length_drop, List.length_nil] at this
        omega
end KB

-- part KE1
namespace KB
open PySem PySem.Spec PyProof.Rows L2
variable {P : Program} {w : World} {K : PySem.W.Frag} {mg : Str → Option Value} {base : Heap}
theorem rd_lcLF {α β : Type} {as : List α} {R : Rl α} [Mn R] {RO : Rl β} [Tn RO] {ta te : TE} {tt : TT} {g : TG} {σ : L2.St} {H : Hp} {Q : VK} {vs : List Nat} (p : α → Bool) (f : α → β) (hl : ∀ Z : VK, (∀ v H1, Same H H1 → LOf R H1 v as → Z v H1) → ta σ H Z) (hz : as.length ≤ 100000)
    (hs : ∀ a ∈ as, ∀ x H2 (Zt : VK) (Zf : Hp → Prop), Same H H2 → R H2 x a → (p a = true → ∀ y H4, Same H2 H4 → RO H4 y (f a) → Zt y H4) → (p a = false → ∀ H4, Same H2 H4 → Zf H4) → g x (wipe σ vs) H2 fun σ2 H3 => wipe σ2 vs = wipe σ vs ∧ tt σ2 H3 fun b H4 => if b = true then te σ2 H4 Zt else Zf H4)
    (hd : ∀ v H2, Same H H2 → LOf RO H2 v ((as.filter p).map f) → Q v H2) : tLc (iList K ta) g tt te vs σ H Q := by
  refine hl _ fun v H1 e1 ⟨a, xs, ev, ha, hp⟩ => ⟨a, ev, ⟨_, Evl.sq_of ha⟩, ?_⟩
  exact lcF p f (wk_list ha hp) hz (fun b hb x H2 Zt Zf e2 rr kt kf => hs b hb x H2 Zt Zf (e1.trans e2) (Mn.mn e2 rr) kt kf) fun v H2 e2 h => hd v H2 (e1.trans e2) h
theorem netOk_of {ns : List Int} {ss : List (List Pr)} (h : StrandsOk ns.length ss) {st : List Pr} (hs : st ∈ ss) : NetOk ns st := by
  refine ⟨(h.strand hs).2.1, fun p hp => ⟨?_, ((h.strand hs).2.2 p hp).2⟩⟩
  exact h.mem (List.mem_flatten.mpr ⟨st, hs, hp⟩)
theorem ints_list {b : Addr} {H : Hp} {v : V} {ns : List Int} (h : rInts (del H b) v ns) : ∃ p, v = .ref p ∧ p ≠ b ∧ H p = some (.lst (ns.map V.int)) := by
  obtain ⟨p, xs, e, hp, hh⟩ := h
  rw [ints_of hh] at hp
  refine ⟨p, e, fun z => ?_, del_in _ _ hp⟩
  rw [z, del_same] at hp
  cases hp
def spPulled : Sp := fun vs H Q _ => ∃ b c vl v n ns ss, vs = [.ref b, vl, v] ∧ Bench b c n H ∧ n < 80000 ∧ rInts (del H b) vl ns ∧ LensOk ns ∧ rStrands (del H b) v ss ∧ StrandsOk ns.length ss ∧
  ∀ v' ns' H', rInts (del H' b) v' ns' → LensOk ns' → ns'.length = ns.length → Bench b c (n + 3) H' → But b H H' → Q v' H'
theorem G_law_pulled (T : Tx P K mg) : DefOk P w K mg base CX0 3 "_law_pulled" spPulled := by
  obtain ⟨f, fd, hm, F⟩ := T.d_law_pulled.ex
  have nd := sc_law_pulled.nd
  refine ⟨f, fd, _, hm, F.kp, b_law_pulled F, F.ok sc_law_pulled (fun vs H Q E h => ?_) (fun cdv A outer s H vs Q E hr h => ⟨_, PSs.nox 
      (pss_cons (ps_set (i := 3) nd rfl (Or.inl rfl) (pe_callD (G_law_draw T) (hr.mono (by decide)) rfl pass0 (pa_cons (pv 0) (pa_cons (pe_callB (call_lenK K) rfl T.f_len (by decide +kernel) (pa_cons (pv 2) pa_nil)) pa_nil)))) 
      (pss_cons (ps_set (i := 4) nd rfl (Or.inl rfl) (pe_op op_add (pe_callB (cr_sumK K rfl) rfl T.f_sum (by decide +kernel) (pa_cons (pe_callD (G_law_nets T) (hr.mono (by decide)) rfl pass0 (pa_cons (pv 1) (pa_cons (pe_op op_cat (pe_slice sl_list (pv 2) po_none (po_some (pv 3))) (pe_slice sl_list (pv 2) (po_some (pe_op op_add (pv 3) pe_int)) po_none)) pa_nil))) pa_nil)) (pe_callD (G_law_pick T) (hr.mono (by decide)) rfl pass0 (pa_cons (pv 0) (pa_cons (pe_lst (pa_cons pe_int (pa_cons pe_int (pa_cons pe_int (pa_cons (pe_un un_neg pe_int) (pa_cons pe_int pa_nil)))))) pa_nil))))) 
      (pss_cons (ps_asg (pe_callD (G_law_pick T) (hr.mono (by decide)) rfl pass0 (pa_cons (pv 0) (pa_cons (pe_ix (ix_listK K) (pv 2) (pv 3) (fun _ _ => rfl)) pa_nil))) (pg_tupK K (n := 2) rfl (pgs_cons (pg_name (i := 5) nd rfl (Or.inr rfl)) (pgs_cons (pg_name (i := 6) nd rfl (Or.inl rfl)) pgs_nil)))) 
      (pss_cons (ps_set (i := 7) nd rfl (Or.inl rfl) (pe_callB (cr_sumK K rfl) rfl T.f_sum (by decide +kernel) (pa_cons (pe_lc (own := [(("_law_one" : Str), 9), (("_law_turn" : Str), 10)]) rfl nd (pi_listK K (pe_ix (ix_listK K) (pv 2) (pv 3) (fun _ _ => rfl))) (blkOk_by (own := [(("_law_one" : Str), 9), (("_law_turn" : Str), 10)]) (N := N_law_pulled) (sc := defScope s_law_pulled) (by decide +kernel)) (fun _ _ _ _ _ => pg_tupK K (n := 2) rfl (pgs_cons (pg_name (i := 9) nd rfl (Or.inl rfl)) (pgs_cons (pg_name (i := 10) nd rfl (Or.inl rfl)) pgs_nil))) (fun _ _ _ _ _ => pts_one (pt_cmpR op_ne (pv 9) (pv 5) (nomark _))) (fun _ _ _ _ _ => (pe_op op_mul (pe_ix (ix_listK K) (pv 1) (pv 9) (fun _ _ => rfl)) (pv 10)))) pa_nil))) 
      (pss_cons (ps_set (i := 8) nd rfl (Or.inl rfl) (pe_op op_mul (pe_op op_sub (pv 4) (pv 7)) (pv 6))) 
      (pss_cons (ps_if (pt_not (pt_chain op_le op_le pe_int (pv 8) (pe_op op_pow pe_int pe_int))) 
          (pss_one (ps_ret (pv 1))) pss_nil) 
      (pss_one (ps_ret (pe_op op_cat (pe_op op_cat (pe_slice sl_list (pv 1) po_none (po_some (pv 5))) (pe_lst (pa_cons (pv 8) pa_nil))) (pe_slice sl_list (pv 1) (po_some (pe_op op_add (pv 5) pe_int)) po_none)))))))))), ?_⟩)⟩
  · obtain ⟨b, c, vl, v, n, ns, ss, rfl, _⟩ := h; rfl
  · obtain ⟨b, c, vl, v, n, ns, ss, rfl, hb, hn, hvl, hlok, hv, hok, q⟩ := h
    obtain ⟨p, xs, rfl, hpb, hp, hps⟩ := strands_list hv
    obtain ⟨l, rfl, hlb, hl⟩ := ints_list hvl
    have hsl := hok.len
    have hxl : xs.length = ss.length := hps.len
    have hpos : 0 < ss.length := List.length_pos_iff.mpr hok.ne
    refine q_set ⟨_, rfl, _, rfl, p, xs, rfl, Or.inl (Evl.sq_of hp), b, c, _, n, rfl, hb, by omega, ⟨by omega, by omega⟩, fun d H1 hd hb1 hB1 => ?_⟩
    obtain ⟨k, rfl⟩ : ∃ k : Nat, d = (k : Int) := ⟨d.toNat, by omega⟩
    have hk : k < ss.length := by omega
    have hso := netOk_of hok (List.getElem_mem hk)
    have hp1 := hB1.at hpb hp
    have hl1 := hB1.at hlb hl
    have hps1 : Paired (rStrand (del H1 b)) xs ss := hps.mapF fun _ _ z => Mn.mn hB1 z
    refine q_set ⟨_, rfl, _, rfl, _, rfl, (k : Int), rfl, p, xs, rfl, Evl.sq_of hp1, fun a1 ha1 => ?_⟩
    rw [cut_take]
    have E1 := new_same (o := .lst (xs.take k)) ha1
    have O1 : upd H1 a1 (.lst (xs.take k)) a1 = some (.lst (xs.take k)) := upd_same
    have B1 := hB1.trans (But.of E1)
    have N1 := hb1.same E1
    have P1 := E1 _ _ hp1
    generalize upd H1 a1 (.lst (xs.take k)) = G1 at E1 O1 B1 N1 P1 ⊢
    refine ⟨_, rfl, _, rfl, _, 1, rfl, rfl, ((k + 1 : Nat) : Int), rfl, p, xs, rfl, Evl.sq_of P1, fun a2 ha2 => ?_⟩
    rw [cut_drop]
    have E2 := new_same (o := .lst (xs.drop (k + 1))) ha2
    have O2 : upd G1 a2 (.lst (xs.drop (k + 1))) a2 = some (.lst (xs.drop (k + 1))) := upd_same
    have B2 := B1.trans (But.of E2)
    have N2 := N1.same E2
    have O12 := E2 _ _ O1
    generalize upd G1 a2 (.lst (xs.drop (k + 1))) = G2 at E2 O2 B2 N2 O12 ⊢
    have hll : (xs.take k ++ xs.drop (k + 1)).length ≤ 100 := by rw [List.length_append, List.length_take, List.length_drop]; omega
    refine ⟨a1, a2, _, _, rfl, rfl, O12, O2, Evl.sz_of (by rw [← List.length_append]; omega), fun a3 ha3 => ?_⟩
    have E3 := new_same (o := .lst (xs.take k ++ xs.drop (k + 1))) ha3
    have O3 : upd G2 a3 (.lst (xs.take k ++ xs.drop (k + 1))) a3 = some (.lst (xs.take k ++ xs.drop (k + 1))) := upd_same
    have B3 := B2.trans (But.of E3)
    have N3 := N2.same E3
    generalize upd G2 a3 (.lst (xs.take k ++ xs.drop (k + 1))) = G3 at E3 O3 B3 N3 ⊢
    have hB03 : But b H1 G3 := But.of ((E1.trans E2).trans E3)
    have hps3 : Paired (rStrand G3) xs ss := hps1.mapF fun _ _ z => Mn.mn del_in (Mn.mn hB03 z)
    have hvl3 : rInts G3 (.ref l) ns := Mn.mn del_in (Mn.mn B3 hvl)
    refine ⟨.ref l, .ref a3, ns, ss.take k ++ ss.drop (k + 1), rfl, hvl3, Or.inr ⟨a3, _, rfl, O3, Paired.app (hps3.tk k) (hps3.dp (k + 1))⟩, by rw [List.length_append, List.length_take, List.length_drop]; omega, fun st hst => ?_, fun vn H4 e4 hn4 => ?_⟩
    · rcases List.mem_append.mp hst with h | h
      · exact netOk_of hok (List.mem_of_mem_take h)
      · exact netOk_of hok (List.mem_of_mem_drop h)
    · obtain ⟨a4, us, rfl, ha4, hu4⟩ := hn4
      rw [ints_of hu4] at ha4
      have B4 := B3.trans (But.of e4)
      have N4 := N3.same e4
      refine ⟨a4, _, rfl, Evl.sq_of ha4, _, rfl, 1, rfl, (by show 5 ≤ sizeLine; decide), fun a5 ha5 => ?_⟩
      have E5 := new_same (o := .lst [.int 0, .int 0, .int 1, .int (-1), .int 2]) ha5
      have O5 : upd H4 a5 (.lst [.int 0, .int 0, .int 1, .int (-1), .int 2]) a5 = some (.lst [.int 0, .int 0, .int 1, .int (-1), .int 2]) := upd_same
      have B5 := B4.trans (But.of E5)
      have N5 := N4.same E5
      have hab5 := (N4.fresh ha5).1
      refine ⟨b, c, a5, _, n + 1, rfl, N5, by omega, O5, hab5, (fun z => nomatch z), (by show 5 ≤ 100; decide), fun x H6 hx N6 B56 => ?_⟩
      have hxi : ∃ i : Int, x = .int i := by
        simp only [List.mem_cons, List.not_mem_nil, or_false] at hx
        rcases hx with rfl | rfl | rfl | rfl | rfl <;> exact ⟨_, rfl⟩
      obtain ⟨xi, rfl⟩ := hxi
      refine ⟨_, _, rfl, rfl, ?_⟩
      have B6 := B5.trans B56
      dsimp only
      have hp6 := B6.at hpb hp
      have hps6 : Paired (rStrand (del H6 b)) xs ss := hps.mapF fun _ _ z => Mn.mn B6 z
      obtain ⟨y, hy, hst⟩ := hps6.at2 (List.getElem?_eq_getElem hk)
      have hst0 := hst
      obtain ⟨r, vs, rfl, hr', hrv⟩ := hst
      have hrb : r ≠ b := fun z => by rw [z, del_same] at hr'; cases hr'
      have hr6 := del_in _ _ hr'
      have hvl8 : vs.length = (ss[k]).length := hrv.len
      have hs8 := hso.1
      have hvne : vs ≠ [] := by
        intro z
        rw [z] at hvl8
        exact (hok.1 _ (List.getElem_mem hk)).1 (List.length_eq_zero_iff.mp hvl8.symm)
      refine seq_ (asg_ ⟨_, rfl, _, rfl, _, rfl, p, xs, (k : Int), .ref r, rfl, rfl, Evl.sq_of hp6, atI_nat hy, b, c, r, vs, n + 1 + 1, rfl, N6, by omega, hr6, hrb, hvne, by omega, fun x7 H7 hx7 N7 B67 => ?_⟩)
      obtain ⟨i7, hi7⟩ := List.mem_iff_getElem?.mp hx7
      obtain ⟨pp, hpp, hpr⟩ := hrv.at hi7
      have hpr7 : rPair H7 x7 pp := Mn.mn del_in (Mn.mn B67 hpr)
      have hppm := List.mem_of_getElem? hpp
      have hpk := hso.2 pp hppm
      have B7 := B6.trans B67
      refine rd_pairT hpr7 ?_
      dsimp only
      have hp7 := B67.at hpb hp6
      have hst7 : rStrand H7 (.ref r) ss[k] := Mn.mn del_in (Mn.mn B67 hst0)
      have hl7 := B7.at hlb hl
      refine seq_ (asg_ (cb1 (rd_lcLF (R := rPair) (RO := rInt) (as := ss[k]) (fun z => !decide (V.int z.1 = V.int pp.1)) (fun z => ns.getD z.1.toNat 0 * z.2) (fun Z z => ⟨_, rfl, _, rfl, p, xs, (k : Int), .ref r, rfl, rfl, Evl.sq_of hp7, atI_nat hy, z _ _ (Same.refl _) hst7⟩) (by omega) (fun z hz x H8 Zt Zf e8 rr kt kf => ?_) (fun v8 H8 e8 h8 => ?_))))
      · have hzk := hso.2 z hz
        refine rd_pairT rr ⟨rfl, _, rfl, _, rfl, rfl, _, rfl, ?_⟩
        by_cases h : (!decide (V.int z.1 = V.int pp.1)) = true
        · exact ifT h ⟨_, rfl, _, rfl, l, _, z.1, _, rfl, rfl, Evl.sq_of (e8 _ _ hl7), len_at hzk.1, _, rfl, _, _, rfl, rfl, Or.inr (by omega), kt h _ _ (Same.refl _) rfl⟩
        · exact ifF (by simpa using h) (kf (by simpa using h) _ (Same.refl _))
      · obtain ⟨D, ys, rfl, hD, hDp⟩ := h8
        refine ⟨D, _, rfl, Evl.sq_of (ints_of hDp ▸ hD), ?_⟩
        refine nm_ ?_
        dsimp only
        have B8 := B7.trans (But.of e8)
        have N8 := N7.same e8
        have hl8 := e8 _ _ hl7
        refine q_set ⟨_, rfl, _, rfl, _, _, rfl, rfl, _, rfl, _, _, rfl, rfl, Or.inr (by omega), ?_⟩
        dsimp only
        generalize hlen : ((ss.take k ++ ss.drop (k + 1)).map (netOf ns)).sum + xi - (((ss[k]).filter fun z => !decide (V.int z.1 = V.int pp.1)).map fun z => ns.getD z.1.toNat 0 * z.2).sum = w0
        generalize w0 * pp.2 = L
        refine q_ifB (!decide (1 ≤ L ∧ L ≤ 1000000)) (fun Z z => ⟨_, rfl, 1, L, rfl, rfl, _, rfl, ?_⟩) (fun hbb H9 e9 => ?_) fun hbb H9 e9 => ?_
        · by_cases h1 : 1 ≤ L
          · refine ifT (decide_eq_true h1) ⟨10, 6, rfl, rfl, ⟨by decide, by decide, by decide⟩, L, _, rfl, rfl, _, rfl, ?_⟩
            have e10 : ((10 : Int) ^ (6 : Int).toNat) = 1000000 := by decide
            rw [e10]
            rw [Bool.decide_and, decide_eq_true h1, Bool.true_and] at z
            exact z _ (Same.refl _)
          · refine ifF (decide_eq_false h1) ?_
            rw [Bool.decide_and, decide_eq_false h1, Bool.false_and] at z
            exact ⟨false, rfl, z _ (Same.refl _)⟩
        · exact ⟨_, rfl, q _ ns H9 (Mn.mn (B8.trans (But.of e9)) hvl) hlok rfl ((N8.same e9).mono (by omega)) (B8.trans (But.of e9))⟩
        · have hL : 1 ≤ L ∧ L ≤ 1000000 := by simpa using hbb
          have hl9 := e9 _ _ hl8
          have B9 := B8.trans (But.of e9)
          have N9 := N8.same e9
          obtain ⟨j, hj⟩ : ∃ j : Nat, pp.1 = (j : Int) := ⟨pp.1.toNat, by omega⟩
          have hjl : j < ns.length := by omega
          rw [hj]
          have hlen8 := hlok.2.2
          refine ret_ ⟨_, rfl, _, rfl, (j : Int), rfl, l, _, rfl, Evl.sq_of hl9, fun c1 hc1 => ?_⟩
          rw [cut_take, ← List.map_take]
          have F1 := new_same (o := .lst ((ns.take j).map V.int)) hc1
          have Q1 : upd H9 c1 (.lst ((ns.take j).map V.int)) c1 = some (.lst ((ns.take j).map V.int)) := upd_same
          generalize upd H9 c1 (.lst ((ns.take j).map V.int)) = J1 at F1 Q1 ⊢
          refine ⟨_, rfl, (by show 1 ≤ sizeLine; decide), fun c2 hc2 => ?_⟩
          have F2 := new_same (o := .lst [.int L]) hc2
          have Q2 : upd J1 c2 (.lst [.int L]) c2 = some (.lst [.int L]) := upd_same
          have Q12 := F2 _ _ Q1
          generalize upd J1 c2 (.lst [.int L]) = J2 at F2 Q2 Q12 ⊢
          refine ⟨c1, c2, _, _, rfl, rfl, Q12, Q2, Evl.sz_of (by rw [List.length_map, List.length_take]; show min j ns.length + 1 ≤ 100000; omega), fun c3 hc3 => ?_⟩
          have em : (ns.take j).map V.int ++ [V.int L] = (ns.take j ++ [L]).map V.int := by rw [List.map_append]; rfl
          rw [em]
          have F3 := new_same (o := .lst ((ns.take j ++ [L]).map V.int)) hc3
          have Q3 : upd J2 c3 (.lst ((ns.take j ++ [L]).map V.int)) c3 = some (.lst ((ns.take j ++ [L]).map V.int)) := upd_same
          have F123 := (F1.trans F2).trans F3
          generalize upd J2 c3 (.lst ((ns.take j ++ [L]).map V.int)) = J3 at F3 Q3 F123 ⊢
          refine ⟨_, rfl, _, rfl, _, 1, rfl, rfl, ((j + 1 : Nat) : Int), rfl, l, _, rfl, Evl.sq_of (F123 _ _ hl9), fun c4 hc4 => ?_⟩
          rw [cut_drop, ← List.map_drop]
          have F4 := new_same (o := .lst ((ns.drop (j + 1)).map V.int)) hc4
          have Q4 : upd J3 c4 (.lst ((ns.drop (j + 1)).map V.int)) c4 = some (.lst ((ns.drop (j + 1)).map V.int)) := upd_same
          have Q34 := F4 _ _ Q3
          have F14 := F123.trans F4
          generalize upd J3 c4 (.lst ((ns.drop (j + 1)).map V.int)) = J4 at F4 Q4 Q34 F14 ⊢
          have hnl : (ns.take j ++ [L] ++ ns.drop (j + 1)).length = ns.length := by
            rw [List.length_append, List.length_append, List.length_take, List.length_drop]
            show min j ns.length + 1 + (ns.length - (j + 1)) = ns.length
            omega
          refine ⟨c3, c4, _, _, rfl, rfl, Q34, Q4, Evl.sz_of (by rw [← List.length_append, ← List.map_append, List.length_map, hnl]; omega), fun c5 hc5 => ?_⟩
          rw [← List.map_append]
          have F5 := new_same (o := .lst ((ns.take j ++ [L] ++ ns.drop (j + 1)).map V.int)) hc5
          have F15 := F14.trans F5
          have hbn := ((N9.same F14).fresh hc5).1
          refine q (.ref c5) (ns.take j ++ [L] ++ ns.drop (j + 1)) _ ⟨c5, _, rfl, by rw [del_ne hbn, upd_same], of_ints _⟩ ⟨fun x hx => ?_, by rw [hnl]; exact hlok.2⟩ hnl ((N9.same F15).mono (by omega)) (B9.trans (But.of F15))
          rcases List.mem_append.mp hx with hx | hx
          · rcases List.mem_append.mp hx with hx | hx
            · exact hlok.1 x (List.mem_of_mem_take hx)
            · rw [List.mem_singleton.mp hx]; exact hL
          · exact hlok.1 x (List.mem_of_mem_drop hx)
end KB

-- part KB4
namespace KB
open PySem PySem.Spec PyProof.Rows L2

/-! ### sorted of a tuple of ints -/
section
variable {X : Cx}
def rSortedIT (K : PySem.W.Frag) : List V → Hp → VK → Prop := fun vs H Q => ∃ (a : Addr) (ns : List Int), vs = [V.ref a] ∧ SqT K H a (ns.map V.int) ∧
  ∀ (ns' : List Int) (p : Addr), ns'.Perm ns → ns'.Pairwise (· ≤ ·) → H p = none → Q (.ref p) (upd H p (.lst (ns'.map V.int)))
theorem cr_sortedIT : CallR X (.builtin "sorted") (rSortedIT X.K) := by
  intro pins s σ H vs us Q I r h
  obtain ⟨a, ns, rfl, hs, q⟩ := h
  obtain ⟨its, rv, ⟨o, ho, hc, n, hd⟩, hz⟩ := I.tuple hs
  rw [Vals.ref1 r]
  have hi := rv.ints
  have hzl : its.length ≤ sizeLine := by
    rw [← rv.length]
    exact hz
  refine Calls.call_function_entry kind_sorted plain_sorted entry_sorted (args_sorted1 _) ?_
  unfold Builtin.«sorted»
  refine wpAny_bind (m := checkCount "sorted" 1 1 _) (wpAny_pure ?_)
  refine wpAny_bind (wpAny_collect_seq (hsz := by rw [List.size_toArray]; exact hzl) a (.inr rfl) ho hc hd (fun h' hk => ?_))
  have I2 : Inv X pins σ H { s with heap := h' } := I.kept (h' := h') (t' := s.toks) hk
  have hL : (h'.push (seqObj "list" its.toArray 0)).get? h'.objs.size = some (seqObj "list" its.toArray 0) := Heap.get?_push_size _ rfl
  have kp : ∀ b u, h'.get? b = some u → b ≠ h'.objs.size ∧ (h'.push (seqObj "list" its.toArray 0)).get? b = some u := fun b u e =>
    ⟨Nat.ne_of_lt (Heap.lt_size e), Heap.get?_push_of_some _ e⟩
  refine wpAny_bind (wpAny_newList ?_ (by simpa using hzl))
  refine wpAny_bind (wpAny_holding (wpAny_call_entry PyProof.Rows.slot_list_sort ⟨_, hL, rfl⟩ PyProof.Rows.entry_list_sort (SrtO.list_sort_ord SrtO.swo_int hL hzl (fun h2 => SrtO.ints_sortable hi h2) fun out h1 h2 => ⟨_, rfl, ?_⟩) (PyProof.Rows.args_list_sort _)))
  obtain ⟨k1, k2, k3⟩ := SrtO.ints_out hi h1 h2
  obtain ⟨ep, he⟩ := PyProof.Rows.sortedHeap_at (vs := its) (out := out.toArray) hL
  have hlen : ((out.map SrtO.iv).map V.int).length ≤ sizeLine := by
    have e1 : ns.length = its.length := by
      have := rv.length
      rwa [List.length_map] at this
    rw [List.length_map, k2.length_eq, e1]
    exact hzl
  refine wpAny_pure ⟨_, rfl, .ref h'.objs.size, upd H h'.objs.size (.lst ((out.map SrtO.iv).map V.int)), I2.laid (t' := s.toks) (fun b u e => ?_) (Nat.le_refl _) ⟨hlen, out, ep, vals_of_ints k1, he⟩, rfl, q _ _ k2 k3 (I2.hok.fresh (Nat.le_refl _))⟩
  rw [PyProof.Rows.sortedHeap_old (kp b u e).1 (Heap.lt_size (kp b u e).2)]
  exact (kp b u e).2
end
/-! ### f(k = v, ..), keywords alone -/
section
variable {X : Cx} {CX : CXT} {k : Nat} {f : Addr} {fd : FuncData} {ps ks : List Str} {sp : Sp} {E : XK} {x : Str} {p pos : Pos} {kws : List Keyword} {tk : TA} {g : List Value → List Value → List Value} {gV : List V → List V → List V}
theorem pe_callK0 (F : FnOk X.prog X.w X.K X.mg X.base CX k f fd ps sp) (hr : Room k X.A) (hg : Gl X x) (hm : X.mg x = some (.ref f)) (hk : PySem.W.keepIn X.K (.ref f) = true) (hb : KBinds X.K fd ps ks g gV) (hx : Passes CX X E) (hkw : PK X kws tk)
    (hall : (backToKw pos (keywordEach kws X.env)).all (·.1.isSome) = true := by rfl) (hks : (backToKw pos (keywordEach kws X.env)).filterMap (·.1) = ks := by rfl) (hdb : (x == ("__debug__" : Str)) = false := by decide)
    (hpl : ((backTo pos (starEach [] X.env)).any (·.1) || (backToKw pos (keywordEach kws X.env)).any (·.1.isNone)) = false := by rfl) :
    PE X (.Call (.Name x p) [] kws pos) (tCallK sp gV E tNil tk) := by
  refine ⟨fun pins s σ H Q I h => ?_⟩
  refine wpAny_Call_Name_kw (ld_glob I hg hm ?_ hdb)
  refine PySem.W.callWith_KW0 (h₀ := X.base) I.ok.mod.kin hk hall ?_ hpl
  refine thn (hkw.run pos pins s σ H _ I h) fun ws s2 ⟨zs, H2, I2, rz, q2⟩ => ⟨I2.kIn, ?_⟩
  rw [hks]
  exact run_fnk F hr hb hx I2 .nil rz q2
end
end KB

-- part KM2
namespace KB
open PySem PySem.Spec PyProof.Rows L2

/-! ### nets, plainly -/
def val (ns : List Int) (p : Pr) : Int := ns.getD p.1.toNat 0 * p.2
def sv (ns : List Int) (st : List Pr) : Int := (st.map (val ns)).sum
theorem netOf_sv (ns : List Int) (st : List Pr) : netOf ns st = absI (sv ns st) := rfl
theorem sum_mul {α : Type} (l : List α) (f : α → Int) (h : Int) : (l.map fun x => f x * h).sum = (l.map f).sum * h := by
  induction l with
  | nil => simp
  | cons x l ih => simp only [List.map_cons, List.sum_cons, ih, Int.add_mul]
theorem sv_perm {ns : List Int} {a b : List Pr} (h : a.Perm b) : sv ns a = sv ns b := perm_sum (h.map _)
theorem sv_app (ns : List Int) (a b : List Pr) : sv ns (a ++ b) = sv ns a + sv ns b := by unfold sv; rw [List.map_append, List.sum_append]
theorem absI_sign (x h : Int) (hh : h = 1 ∨ h = -1) : absI (x * h) = absI x := by
  unfold absI
  rcases hh with rfl | rfl
  · rw [Int.mul_one]
  · have : x * -1 = -x := by omega
    rw [this]
    split <;> split <;> omega
theorem net_norm {ns : List Int} {st : List Pr} (hs : StrandOk st) : netOf ns (norm st) = netOf ns st := by
  have h := hd2_ok hs
  rw [netOf_sv, netOf_sv]
  have e : sv ns (norm st) = sv ns st * hd2 (srt st) := by
    rw [← sv_perm (srt_perm st)]
    unfold sv norm
    rw [List.map_map, ← sum_mul]
    congr 1
    refine List.map_congr_left fun p _ => ?_
    show ns.getD p.1.toNat 0 * (p.2 * hd2 (srt st)) = ns.getD p.1.toNat 0 * p.2 * hd2 (srt st)
    rw [Int.mul_assoc]
  rw [e, absI_sign _ _ h]
theorem nets_perm {ns : List Int} {n : Nat} {ss : List (List Pr)} (h : StrandsOk n ss) : (netsOf ns ss).Perm (ss.map (netOf ns)) := by
  have h1 : (netsOf ns ss).Perm ((ss.map norm).map (netOf ns)) := (right_perm ss).map _
  rw [List.map_map] at h1
  have e : ss.map (netOf ns ∘ norm) = ss.map (netOf ns) := List.map_congr_left fun st hs => net_norm (h.strand hs)
  rwa [e] at h1
def Home (xs : List Int) : Prop := ∀ x ∈ xs, 2 * x ≤ xs.sum
theorem Home.perm {xs ys : List Int} (h : xs.Perm ys) : Home xs ↔ Home ys := by
  unfold Home
  rw [perm_sum h]
  exact ⟨fun k x hx => k x (h.mem_iff.mpr hx), fun k x hx => k x (h.mem_iff.mp hx)⟩
theorem home_iff {ns : List Int} {n : Nat} {ss : List (List Pr)} (h : StrandsOk n ss) : greats (netsOf ns ss) = [] ↔ Home (ss.map (netOf ns)) :=
  greats_nil.trans (Home.perm (nets_perm h))
theorem absI_add (a b : Int) : absI (a + b) ≤ absI a + absI b := by
  unfold absI
  split <;> split <;> split <;> omega
theorem absI_sub (a b : Int) : absI a ≤ absI (a + b) + absI b := by
  unfold absI
  split <;> split <;> split <;> omega
theorem parted_home {ns : List Int} {ss ss' : List (List Pr)} (h : Parted ss ss') (hh : Home (ss.map (netOf ns))) : Home (ss'.map (netOf ns)) := by
  rcases h with rfl | ⟨k, st, r1, r2, h1, rfl, h3, _, _⟩
  · exact hh
  · have e := split_at h1
    have es : netOf ns st = absI (sv ns r1 + sv ns r2) := by rw [netOf_sv, ← sv_app, sv_perm h3]
    rw [e] at hh
    simp only [Home, List.map_append, List.map_cons, List.map_nil, List.sum_append, List.sum_cons, List.sum_nil, List.mem_append, List.mem_cons, List.not_mem_nil, or_false] at hh ⊢
    have q1 := absI_add (sv ns r1) (sv ns r2)
    have q2 := absI_sub (sv ns r1) (sv ns r2)
    have q3 := absI_sub (sv ns r2) (sv ns r1)
    rw [Int.add_comm (sv ns r2)] at q3
    rw [← netOf_sv ns r1, ← netOf_sv ns r2, ← es] at q1 q2 q3
    have hst := hh (netOf ns st) (Or.inl (Or.inr rfl))
    intro x hx
    rcases hx with (hx | rfl | rfl) | hx
    · have := hh x (Or.inl (Or.inl hx))
      omega
    · omega
    · omega
    · have := hh x (Or.inr hx)
      omega
/-! ### a ring of which one strands stand home closes -/
def lenv (ns : List Int) (st : List Pr) : Int := (st.map fun p => ns.getD p.1.toNat 0).sum
theorem lenv_app (ns : List Int) (a b : List Pr) : lenv ns (a ++ b) = lenv ns a + lenv ns b := by unfold lenv; rw [List.map_append, List.sum_append]
theorem getD_nn {ns : List Int} (h : ∀ x ∈ ns, 0 ≤ x) (i : Nat) : 0 ≤ ns.getD i 0 := by
  rw [List.getD_eq_getElem?_getD]
  cases e : ns[i]? with
  | none => simp
  | some x => exact h x (List.mem_of_getElem? e)
theorem sv_le {ns : List Int} (h : ∀ x ∈ ns, 0 ≤ x) : ∀ {st : List Pr}, (∀ p ∈ st, p.2 = 1 ∨ p.2 = -1) → absI (sv ns st) ≤ lenv ns st
  | [], _ => by simp [sv, lenv, absI]
  | p :: st, hs => by
    have ih := sv_le h (st := st) fun q hq => hs q (List.mem_cons_of_mem _ hq)
    have h1 := absI_add (val ns p) (sv ns st)
    have h2 : absI (val ns p) = ns.getD p.1.toNat 0 := by
      unfold val
      rw [absI_sign _ _ (hs p List.mem_cons_self)]
      have := getD_nn h p.1.toNat
      unfold absI
      rw [if_neg (by omega)]
    have e1 : sv ns (p :: st) = val ns p + sv ns st := by unfold sv; rw [List.map_cons, List.sum_cons]
    have e2 : lenv ns (p :: st) = ns.getD p.1.toNat 0 + lenv ns st := by unfold lenv; rw [List.map_cons, List.sum_cons]
    rw [e1, e2]
    omega
theorem map_getD (ns : List Int) : (rngI 0 ns.length).map (fun i => ns.getD i.toNat 0) = ns := by
  unfold rngI
  rw [List.map_map]
  refine List.ext_getElem (by simp) fun i h1 h2 => ?_
  simp [List.getD_eq_getElem?_getD, h2]
theorem lenv_flat (ns : List Int) : ∀ ss : List (List Pr), (ss.map (lenv ns)).sum = lenv ns ss.flatten
  | [] => rfl
  | st :: ss => by rw [List.map_cons, List.sum_cons, lenv_flat ns ss, List.flatten_cons, lenv_app]
theorem lenv_all {ns : List Int} {ss : List (List Pr)} (h : StrandsOk ns.length ss) : (ss.map (lenv ns)).sum = ns.sum := by
  rw [lenv_flat]
  have h1 : lenv ns ss.flatten = ((ss.flatten.map (·.1)).map fun i : Int => ns.getD i.toNat 0).sum := by unfold lenv; rw [List.map_map]; rfl
  rw [h1, perm_sum (h.2.1.map _), map_getD]
theorem nets_le {ns : List Int} (h : ∀ x ∈ ns, 0 ≤ x) : ∀ {ss : List (List Pr)}, (∀ st ∈ ss, ∀ p ∈ st, p.2 = 1 ∨ p.2 = -1) → (ss.map (netOf ns)).sum ≤ (ss.map (lenv ns)).sum
  | [], _ => by simp
  | st :: ss, hs => by
    have ih := nets_le h (ss := ss) fun t ht => hs t (List.mem_cons_of_mem _ ht)
    have h1 := sv_le h (hs st List.mem_cons_self)
    rw [List.map_cons, List.sum_cons, List.map_cons, List.sum_cons, netOf_sv]
    omega
theorem home_closes {ns : List Int} {ss : List (List Pr)} (hn : LensOk ns) (h : StrandsOk ns.length ss) (hh : Home (ss.map (netOf ns))) : closesB ns = true := by
  have hnn : ∀ x ∈ ns, 0 ≤ x := fun x hx => by have := hn.1 x hx; omega
  unfold closesB
  refine decide_eq_true fun x hx => ?_
  obtain ⟨j, hj⟩ := List.mem_iff_getElem?.mp hx
  obtain ⟨hjl, hjx⟩ := List.getElem?_eq_some_iff.mp hj
  have hjm : (j : Int) ∈ ss.flatten.map (·.1) := by
    rw [h.2.1.mem_iff]
    unfold rngI
    exact List.mem_map.mpr ⟨j, List.mem_range.mpr hjl, by omega⟩
  obtain ⟨p, hp, hpj⟩ := List.mem_map.mp hjm
  obtain ⟨st, hst, hps⟩ := List.mem_flatten.mp hp
  obtain ⟨k, hk⟩ := List.mem_iff_getElem?.mp hst
  obtain ⟨i, hi⟩ := List.mem_iff_getElem?.mp hps
  have e1 := split_at hk
  have e2 := split_at hi
  have hsg := (h.1 st hst).2
  have hgx : ns.getD p.1.toNat 0 = x := by
    have : p.1.toNat = j := by omega
    rw [this, List.getD_eq_getElem?_getD, hj]
    rfl
  have hv : absI (val ns p) = x := by
    unfold val
    rw [absI_sign _ _ (hsg p hps), hgx]
    have := hnn x hx
    unfold absI
    rw [if_neg (by omega)]
  -- the strand
  have s1 : sv ns st = sv ns (st.take i) + val ns p + sv ns (st.drop (i + 1)) := by
    have := congrArg (sv ns) e2
    rw [sv_app, sv_app] at this
    simpa [sv] using this
  have l1 : lenv ns st = lenv ns (st.take i) + x + lenv ns (st.drop (i + 1)) := by
    have := congrArg (lenv ns) e2
    rw [lenv_app, lenv_app] at this
    have e3 : lenv ns [p] = x := by simp [lenv, ← hgx]
    rw [e3] at this
    exact this
  have a1 := sv_le hnn (st := st.take i) fun q hq => hsg q (List.mem_of_mem_take hq)
  have a2 := sv_le hnn (st := st.drop (i + 1)) fun q hq => hsg q (List.mem_of_mem_drop hq)
  have b1 := absI_sub (val ns p) (sv ns (st.take i) + sv ns (st.drop (i + 1)))
  have b2 := absI_add (sv ns (st.take i)) (sv ns (st.drop (i + 1)))
  have b3 : val ns p + (sv ns (st.take i) + sv ns (st.drop (i + 1))) = sv ns st := by omega
  rw [b3, hv, ← netOf_sv] at b1
  -- the others
  have c0 := hh (netOf ns st) (List.mem_map.mpr ⟨st, hst, rfl⟩)
  have c1 : (ss.map (netOf ns)).sum = ((ss.take k).map (netOf ns)).sum + netOf ns st + ((ss.drop (k + 1)).map (netOf ns)).sum := by
    have := congrArg (fun l => (l.map (netOf ns)).sum) e1
    simpa [List.sum_append, Int.add_assoc] using this
  have c2 : (ss.map (lenv ns)).sum = ((ss.take k).map (lenv ns)).sum + lenv ns st + ((ss.drop (k + 1)).map (lenv ns)).sum := by
    have := congrArg (fun l => (l.map (lenv ns)).sum) e1
    simpa [List.sum_append, Int.add_assoc] using this
  have d1 := nets_le hnn (ss := ss.take k) fun t ht => (h.1 t (List.mem_of_mem_take ht)).2
  have d2 := nets_le hnn (ss := ss.drop (k + 1)) fun t ht => (h.1 t (List.mem_of_mem_drop ht)).2
  rw [lenv_all h] at c2
  omega
end KB

-- part KM3
namespace KB
open PySem PySem.Spec PyProof.Rows L2

/-! ### the bars told in another order -/
def lensR (ns os : List Int) : List Int := os.map fun o => ns.getD o.toNat 0
def renP (os : List Int) (p : Pr) : Pr := ((os.idxOf p.1 : Nat), p.2)
def ren (os : List Int) (ss : List (List Pr)) : List (List Pr) := ss.map (·.map (renP os))
theorem rngI_nodup (n : Nat) : (rngI 0 n).Nodup := by
  unfold rngI List.Nodup
  rw [List.pairwise_map]
  exact List.pairwise_lt_range.imp fun {a b} h => by omega
section
variable {ns os : List Int} {n : Nat} {ss : List (List Pr)}
theorem os_nodup (h : os.Perm (rngI 0 n)) : os.Nodup := (h.nodup_iff).mpr (rngI_nodup n)
theorem os_len (h : os.Perm (rngI 0 n)) : os.length = n := by rw [h.length_eq, rngI_len]
theorem os_mem (h : os.Perm (rngI 0 n)) {b : Int} (hb : 0 ≤ b ∧ b < n) : b ∈ os := by
  rw [h.mem_iff]
  unfold rngI
  exact List.mem_map.mpr ⟨b.toNat, List.mem_range.mpr (by omega), by omega⟩
theorem idx_lt {b : Int} (hb : b ∈ os) : os.idxOf b < os.length := List.idxOf_lt_length_of_mem hb
theorem at_idx {b : Int} (hb : b ∈ os) : os[os.idxOf b]'(idx_lt hb) = b := List.getElem_idxOf (idx_lt hb)
theorem lensR_at {b : Int} (hb : b ∈ os) : (lensR ns os).getD (os.idxOf b) 0 = ns.getD b.toNat 0 := by
  have h1 := idx_lt hb
  unfold lensR
  rw [List.getD_eq_getElem?_getD, List.getElem?_map, List.getElem?_eq_getElem h1, at_idx hb]
  rfl
theorem os_idx (h : os.Perm (rngI 0 n)) : os.map (fun o => ((os.idxOf o : Nat) : Int)) = rngI 0 n := by
  refine List.ext_getElem (by rw [List.length_map, rngI_len, os_len h]) fun i h1 h2 => ?_
  have h3 : i < os.length := by rwa [List.length_map] at h1
  rw [List.getElem_map, (os_nodup h).idxOf_getElem i h3]
  simp [rngI]
theorem ren_flat : (ren os ss).flatten = ss.flatten.map (renP os) := by
  unfold ren
  rw [List.map_flatten]
theorem ren_ok (h : os.Perm (rngI 0 n)) (hs : StrandsOk n ss) : StrandsOk n (ren os ss) := by
  refine ⟨fun st hst => ?_, ?_, hs.2.2⟩
  · obtain ⟨s0, h0, rfl⟩ := List.mem_map.mp hst
    refine ⟨fun z => (hs.1 s0 h0).1 (by simpa using z), fun p hp => ?_⟩
    obtain ⟨q, hq, rfl⟩ := List.mem_map.mp hp
    exact (hs.1 s0 h0).2 q hq
  · rw [ren_flat, List.map_map]
    have e : ((fun p : Pr => p.1) ∘ renP os) = (fun o : Int => ((os.idxOf o : Nat) : Int)) ∘ (fun p : Pr => p.1) := rfl
    rw [e, ← List.map_map]
    have h1 := (hs.2.1.trans h.symm).map fun o : Int => ((os.idxOf o : Nat) : Int)
    rw [os_idx h] at h1
    exact h1
theorem lensR_ok (h : os.Perm (rngI 0 ns.length)) (hn : LensOk ns) : LensOk (lensR ns os) := by
  refine ⟨fun x hx => ?_, ?_⟩
  · obtain ⟨o, ho, rfl⟩ := List.mem_map.mp hx
    have := rngI_mem (h.mem_iff.mp ho)
    have hl : o.toNat < ns.length := by omega
    rw [List.getD_eq_getElem?_getD, List.getElem?_eq_getElem hl]
    exact hn.1 _ (List.getElem_mem hl)
  · unfold lensR
    rw [List.length_map, os_len h]
    exact hn.2
theorem lensR_len (h : os.Perm (rngI 0 n)) : (lensR ns os).length = n := by unfold lensR; rw [List.length_map, os_len h]
theorem ren_net (h : os.Perm (rngI 0 n)) (hs : StrandsOk n ss) {st : List Pr} (hst : st ∈ ss) : netOf (lensR ns os) (st.map (renP os)) = netOf ns st := by
  rw [netOf_sv, netOf_sv]
  congr 1
  unfold sv
  rw [List.map_map]
  congr 1
  refine List.map_congr_left fun p hp => ?_
  have hb := os_mem h (hs.mem (List.mem_flatten.mpr ⟨st, hst, hp⟩))
  show (lensR ns os).getD (((os.idxOf p.1 : Nat) : Int)).toNat 0 * p.2 = ns.getD p.1.toNat 0 * p.2
  rw [Int.toNat_natCast, lensR_at hb]
theorem ren_map (h : os.Perm (rngI 0 n)) (hs : StrandsOk n ss) : (ren os ss).map (netOf (lensR ns os)) = ss.map (netOf ns) := by
  unfold ren
  rw [List.map_map]
  exact List.map_congr_left fun st hst => ren_net h hs hst
theorem ren_nets (h : os.Perm (rngI 0 n)) (hs : StrandsOk n ss) : (netsOf (lensR ns os) (ren os ss)).Perm (netsOf ns ss) := by
  have h1 := nets_perm (ns := lensR ns os) (ren_ok h hs)
  rw [ren_map h hs] at h1
  exact h1.trans (nets_perm hs).symm
theorem ren_home (h : os.Perm (rngI 0 n)) (hs : StrandsOk n ss) : greats (netsOf (lensR ns os) (ren os ss)) = [] ↔ greats (netsOf ns ss) = [] := by
  rw [greats_nil, greats_nil]
  exact Home.perm (ren_nets h hs)
theorem lePair_eq : lePair = fun p q => decide (p.1 < q.1 ∨ (p.1 = q.1 ∧ p.2 ≤ q.2)) := PySem.W.dataLe_ii (fun p : Pr => p.1) (fun p : Pr => p.2)
theorem lot_sorted (st : List Pr) : (lotOf (norm st)).Pairwise (· ≤ ·) := by
  have h : (srt st).Pairwise fun a b => lePair a b = true := by
    refine List.pairwise_mergeSort (le := lePair) (fun a b c => ?_) (fun a b => ?_) st
    · rw [lePair_eq]
      simp only [decide_eq_true_eq]
      omega
    · rw [lePair_eq]
      simp only [Bool.or_eq_true, decide_eq_true_eq]
      omega
  unfold lotOf norm
  rw [List.map_map, List.pairwise_map]
  refine h.imp fun {a b} hab => ?_
  rw [lePair_eq] at hab
  simp only [decide_eq_true_eq] at hab
  show a.1 ≤ b.1
  omega
theorem lot_perm (st : List Pr) : (lotOf (norm st)).Perm (lotOf st) := by
  unfold lotOf norm
  rw [List.map_map]
  exact (srt_perm st).map _
theorem ren_lot (h : os.Perm (rngI 0 n)) (hs : StrandsOk n ss) {j1 j2 : Nat} {x1 x2 : Int} {s1 s2 : List Pr} (h1 : (right ss)[j1]? = some s1) (n1 : (netsOf ns ss)[j1]? = some x1) (g1 : (netsOf ns ss).sum < 2 * x1)
    (h2 : (right (ren os ss))[j2]? = some s2) (n2 : (netsOf (lensR ns os) (ren os ss))[j2]? = some x2) (g2 : (netsOf (lensR ns os) (ren os ss)).sum < 2 * x2) :
    x1 = x2 ∧ ((lotOf s2).map fun b => os.getD b.toNat 0).Perm (lotOf s1) ∧ (lotOf s1).Pairwise (· ≤ ·) := by
  obtain ⟨t1, m1, rfl⟩ := List.mem_map.mp ((right_perm ss).mem_iff.mp (List.mem_of_getElem? h1))
  obtain ⟨r2, mr, rfl⟩ := List.mem_map.mp ((right_perm (ren os ss)).mem_iff.mp (List.mem_of_getElem? h2))
  obtain ⟨t2, m2, rfl⟩ := List.mem_map.mp mr
  have k1 : x1 = netOf ns t1 := by
    unfold netsOf at n1
    rw [List.getElem?_map, h1] at n1
    rw [← net_norm (hs.strand m1)]
    exact (Option.some.inj n1).symm
  have k2 : x2 = netOf ns t2 := by
    unfold netsOf at n2
    rw [List.getElem?_map, h2] at n2
    have := (Option.some.inj n2).symm
    rw [net_norm ((ren_ok h hs).strand mr), ren_net h hs m2] at this
    exact this
  rw [perm_sum (nets_perm hs), k1] at g1
  rw [perm_sum (nets_perm (ren_ok h hs)), ren_map h hs, k2] at g2
  obtain ⟨i1, hi1⟩ := List.mem_iff_getElem?.mp m1
  obtain ⟨i2, hi2⟩ := List.mem_iff_getElem?.mp m2
  have hnn : ∀ x ∈ ss.map (netOf ns), 0 ≤ x := fun x hx => by
    obtain ⟨st, _, rfl⟩ := List.mem_map.mp hx
    exact absI_nn _
  have e := one_great hnn (i := i1) (j := i2) (by rw [List.getElem?_map, hi1]; rfl) (by rw [List.getElem?_map, hi2]; rfl) g1 g2
  subst e
  rw [hi1] at hi2
  cases hi2
  refine ⟨by rw [k1, k2], ?_, lot_sorted t1⟩
  refine (((lot_perm _).map _).trans ?_).trans (lot_perm t1).symm
  unfold lotOf
  rw [List.map_map, List.map_map]
  refine List.Perm.of_eq (List.map_congr_left fun p hp => ?_)
  have hb := os_mem h (hs.mem (List.mem_flatten.mpr ⟨t1, m1, hp⟩))
  show os.getD (((os.idxOf p.1 : Nat) : Int)).toNat 0 = p.1
  rw [Int.toNat_natCast, List.getD_eq_getElem?_getD, List.getElem?_eq_getElem (idx_lt hb), at_idx hb]
  rfl
end
end KB

-- part KE2
namespace KB
open PySem PySem.Spec PyProof.Rows L2
variable {P : Program} {w : World} {K : PySem.W.Frag} {mg : Str → Option Value} {base : Heap}
section
variable {α β : Type} {as : List α} {R : Rl α} {RO : Rl β} {ta te : TE} {g : TG} {σ : L2.St} {H : Hp} {Q : VK} {vs : List Nat}
/-- the items may be lists -/
theorem rd_lcLA [Mn R] [Mn RO] (f : α → β) (hl : ∀ Z : VK, (∀ v H1, Same H H1 → LOf R H1 v as → Z v H1) → ta σ H Z) (hz : as.length ≤ 100000)
    (hs : ∀ a ∈ as, ∀ x H2 D acc (Z : VK), Same H H2 → R H2 x a → H2 D = some (.lst acc) → (∀ y H4, Same H2 H4 → RO (del H4 D) y (f a) → Z y H4) → g x (wipe σ vs) H2 fun σ2 H3 => wipe σ2 vs = wipe σ vs ∧ te σ2 H3 Z)
    (hd : ∀ v H2, Same H H2 → LOf RO H2 v (as.map f) → Q v H2) : tLc (iList K ta) g tYes te vs σ H Q := by
  refine hl _ fun v H1 e1 ⟨a, xs, ev, ha, hp⟩ => ⟨a, ev, ⟨_, Evl.sq_of ha⟩, ?_⟩
  refine lcA (RO := RO) (fun _ => true) f (wk_list ha hp) hz (fun b hb x H2 D acc Zt Zf e2 rr hD1 hD2 kt kf => ?_) fun D ys H2 hn e2 h1 h2 => hd _ _ (e1.trans e2) ⟨D, ys, rfl, h1, ?_⟩
  · show g x (wipe σ vs) H2 fun σ2 H3 => wipe σ2 vs = wipe σ vs ∧ te σ2 H3 Zt
    exact hs b hb x H2 D acc Zt (e1.trans e2) (Mn.mn e2 rr) hD2 fun y H4 e4 ro => kt rfl y H4 e4 ro
  · rwa [List.filter_eq_self.mpr fun _ _ => rfl] at h2
/-- the new list is new -/
theorem rd_lcLn [Mn R] [Tn RO] (f : α → β) (hl : ∀ Z : VK, (∀ v H1, Same H H1 → LOf R H1 v as → Z v H1) → ta σ H Z) (hz : as.length ≤ 100000)
    (hs : ∀ a ∈ as, ∀ x H2 (Z : VK), Same H H2 → R H2 x a → (∀ y H4, Same H2 H4 → RO H4 y (f a) → Z y H4) → g x (wipe σ vs) H2 fun σ2 H3 => wipe σ2 vs = wipe σ vs ∧ te σ2 H3 Z)
    (hd : ∀ D ys H2, H D = none → Same H H2 → H2 D = some (.lst ys) → Paired (RO H2) ys (as.map f) → Q (.ref D) H2) : tLc (iList K ta) g tYes te vs σ H Q := by
  refine hl _ fun v H1 e1 ⟨a, xs, ev, ha, hp⟩ => ⟨a, ev, ⟨_, Evl.sq_of ha⟩, ?_⟩
  refine lcA (RO := RO) (fun _ => true) f (wk_list ha hp) hz (fun b hb x H2 D acc Zt Zf e2 rr hD1 hD2 kt kf => ?_) fun D ys H2 hn e2 h1 h2 => hd D ys H2 (e1.free hn) (e1.trans e2) h1 ?_
  · show g x (wipe σ vs) H2 fun σ2 H3 => wipe σ2 vs = wipe σ vs ∧ te σ2 H3 Zt
    exact hs b hb x H2 Zt (e1.trans e2) (Mn.mn e2 rr) fun y H4 e4 ro => kt rfl y H4 e4 (Tn.tn (e4 _ _ hD2) ro)
  · rwa [List.filter_eq_self.mpr fun _ _ => rfl] at h2
end
theorem callK0_ {sp : Sp} {gV : List V → List V → List V} {E : XK} {tk : TA} {σ : L2.St} {H : Hp} {Q : VK} (h : tk σ H fun zs H2 => sp (gV [] zs) H2 Q E) : tCallK sp gV E tNil tk σ H Q := h
theorem and_ {ta tb : TE} {σ : L2.St} {H : Hp} {Q : VK} (h : ta σ H fun x H1 => ∃ c, x = .bl c ∧ if c = true then tb σ H1 Q else Q (.bl false) H1) : tAndV ta tb σ H Q := h
theorem rgV_eq (n : Nat) : rgV 0 (n : Int) = (rngI 0 n).map V.int := by
  unfold rgV rngI
  rw [List.map_map]
  simp
  try rfl
theorem sh_listI (ns : List Int) : SeqAt.shaped (.list (ns.map .int)) = true := (sh_ints ns).1
theorem eqv_listI (ns : List Int) : PyData.eqv (.list (ns.map .int)) (.list (ns.map .int)) = true := by rw [PyData.eqv, eqv_ints_self]
theorem dp_listI {H : Hp} {p : Addr} {ns : List Int} (h : H p = some (.lst (ns.map V.int))) : Dp K H (.ref p) (.list (ns.map .int)) := .lst (Evl.sq_of h) (dpall (R := rInt) (of_ints ns (H := H)))
def spRenum : Sp := fun vs H Q _ => ∃ b c vl v n ns ss, vs = [.ref b, vl, v] ∧ Bench b c n H ∧ n < 80000 ∧ rInts (del H b) vl ns ∧ LensOk ns ∧ rStrands (del H b) v ss ∧ StrandsOk ns.length ss ∧
  ∀ H', Bench b c (n + 8) H' → But b H H' → Q (.bl true) H'
theorem G_law_renumbered_right (T : Tx P K mg) : DefOk P w K mg base CX0 9 "_law_renumbered_right" spRenum := by
  obtain ⟨f, fd, hm, F⟩ := T.d_law_renumbered_right.ex
  obtain ⟨f2, fd2, hm2, F2⟩ := T.d_can_line.ex
  have nd := sc_law_renumbered_right.nd
  refine ⟨f, fd, _, hm, F.kp, b_law_renumbered_right F, F.ok sc_law_renumbered_right (fun vs H Q E h => ?_) (fun cdv A outer s H vs Q E hr h => ⟨_, PSs.nox 
      (pss_cons (ps_set (i := 3) nd rfl (Or.inr rfl) (pe_callD (G_law_mixed T) (hr.mono (by decide)) rfl pass0 (pa_cons (pv 0) (pa_cons (pe_listRange rfl rfl rfl T.f_list T.f_range (pe_callB (call_lenK K) rfl T.f_len (by decide +kernel) (pa_cons (pv 1) pa_nil))) pa_nil)))) 
      (pss_cons (ps_set (i := 4) nd rfl (Or.inl rfl) (pe_makeD (M_Ring T) (hr.mono (by decide)) rfl pass0 (pa_cons (pe_lc (own := [(("_law_bar" : Str), 7)]) rfl nd (pi_listK K (pv 3)) (blkOk_by (own := [(("_law_bar" : Str), 7)]) (N := N_law_renumbered_right) (sc := defScope s_law_renumbered_right) (by decide +kernel)) (fun _ _ _ _ _ => pg_name (i := 7) nd rfl (Or.inl rfl)) (fun _ _ _ _ _ => pts_nil) (fun _ _ _ _ _ => (pe_ix (ix_listK K) (pv 1) (pv 7) (fun _ _ => rfl)))) pa_nil))) 
      (pss_cons (ps_set (i := 5) nd rfl (Or.inl rfl) (pe_callK0 (F_can_line T F2) (hr.mono (by decide)) rfl hm2 F2.kp (kb_can_line F2) pass0 (pk_cons (pe_makeD (M_LineUp T) (hr.mono (by decide)) rfl pass0 (pa_cons (pe_lc (own := [(("_law_strand" : Str), 8)]) rfl nd (pi_listK K (pv 2)) (blkOk_by (own := [(("_law_strand" : Str), 8)]) (N := N_law_renumbered_right) (sc := defScope s_law_renumbered_right) (by decide +kernel)) (fun _ _ _ _ _ => pg_name (i := 8) nd rfl (Or.inl rfl)) (fun _ _ _ _ _ => pts_nil) (fun _ _ _ _ _ => (pe_lc (own := [(("_law_bar" : Str), 7), (("_law_sign" : Str), 9)]) rfl nd (pi_listK K (pv 8)) (blkOk_by (own := [(("_law_bar" : Str), 7), (("_law_sign" : Str), 9)]) (N := N_law_renumbered_right) (sc := ({ kind := .function, names := [(".0", .local), ("_law_strand", .local), ("_law_order", .cell)], isGenerator := false, isCoroutine := false } : Scope)) (by decide +kernel)) (fun _ _ _ _ _ => pg_tupK K (n := 2) rfl (pgs_cons (pg_name (i := 7) nd rfl (Or.inl rfl)) (pgs_cons (pg_name (i := 9) nd rfl (Or.inl rfl)) pgs_nil))) (fun _ _ _ _ _ => pts_nil) (fun _ _ _ _ _ => (pe_tup (pa_cons (pe_bmK K (pe_bm PySem.F.plainAttrs_list PySem.F.slot_list_index PySem.F.type_list_index (mt_indexK K) (pv 3) (pa_cons (pv 7) pa_nil))) (pa_cons (pv 9) pa_nil))))))) pa_nil)) (pk_cons (pv 4) pk_nil)))) 
      (pss_cons (ps_set (i := 6) nd rfl (Or.inl rfl) (pe_callD (G_can_line T) (hr.mono (by decide)) rfl pass0 (pa_cons (pe_makeD (M_Ring T) (hr.mono (by decide)) rfl pass0 (pa_cons (pv 1) pa_nil)) (pa_cons (pe_makeD (M_LineUp T) (hr.mono (by decide)) rfl pass0 (pa_cons (pv 2) pa_nil)) pa_nil)))) 
      (pss_cons (ps_if (pt_cmpR op_ne (pe_fldK K (pv 6) rfl) (pe_fldK K (pv 5) rfl) (nomark _)) 
          (pss_one (ps_ret pe_bl)) pss_nil) 
      (pss_cons (ps_if (pt_cmpR op_eq (pe_fldK K (pv 6) rfl) pe_str (nomark _)) 
          (pss_one (ps_ret (pe_cmpR (op_eqD hr.units) (pe_callB cr_sortedIT rfl T.f_sorted (by decide +kernel) (pa_cons (pe_fldK K (pv 6) rfl) pa_nil)) (pe_callB cr_sortedIT rfl T.f_sorted (by decide +kernel) (pa_cons (pe_fldK K (pv 5) rfl) pa_nil)) (nomark _)))) pss_nil) 
      (pss_one (ps_ret (pe_and (pe_cmpR (op_eqD hr.units) (pe_callB cr_sortedI rfl T.f_sorted (by decide +kernel) (pa_cons (pe_lc (own := [(("_law_bar" : Str), 7)]) rfl nd (pi_tupK K (pe_fldK K (pv 5) rfl)) (blkOk_by (own := [(("_law_bar" : Str), 7)]) (N := N_law_renumbered_right) (sc := defScope s_law_renumbered_right) (by decide +kernel)) (fun _ _ _ _ _ => pg_name (i := 7) nd rfl (Or.inl rfl)) (fun _ _ _ _ _ => pts_nil) (fun _ _ _ _ _ => (pe_ix (ix_listK K) (pv 3) (pv 7) (fun _ _ => rfl)))) pa_nil)) (pe_callTy (call_listK K) rfl T.f_list (by decide +kernel) (pa_cons (pe_fldK K (pv 6) rfl) pa_nil)) (nomark _)) (pe_one (pe_cmpR (op_eqD hr.units) (pe_slice sl_tup (pe_fldK K (pv 5) rfl) (po_some pe_int) po_none) (pe_slice sl_tup (pe_fldK K (pv 6) rfl) (po_some pe_int) po_none) (nomark _)))))))))))), ?_⟩)⟩
  · obtain ⟨b, c, vl, v, n, ns, ss, rfl, _⟩ := h; rfl
  · obtain ⟨b, c, vl, v, n, ns, ss, rfl, hb, hn, hvl, hlok, hv, hok, q⟩ := h
    obtain ⟨l, rfl, hlb, hl⟩ := ints_list hvl
    have h8 := hlok.2.2
    have hln : ((ns.map V.int).length : Int) = (ns.length : Int) := by rw [List.length_map]
    refine q_set ⟨_, rfl, _, rfl, l, _, rfl, Or.inl (Evl.sq_of hl), _, rfl, RgOk.of_le (by omega) (by rw [hln]; omega) (by omega) (by omega), fun a0 ha0 => ?_⟩
    rw [hln, rgV_eq]
    have e0 := new_same (o := .lst ((rngI 0 ns.length).map V.int)) ha0
    refine ⟨b, c, a0, _, n, rfl, hb.same e0, by omega, upd_same, (hb.fresh ha0).1, by rw [List.length_map, rngI_len]; omega, fun f ys H2 hys hf hf0 hb2 hB2 => ?_⟩
    obtain ⟨os, hos, hyo⟩ := paired_perm (F := rInt H2) hys (of_ints (rngI 0 ns.length) (H := H2))
    rw [ints_of hyo] at hf
    rw [List.length_map, rngI_len] at hb2
    have hfb := ((hb.same e0).fresh hf0).1
    have hB := (But.of e0).trans hB2
    have hl2 := hB.at hlb hl
    have hosl := os_len hos
    have hom : ∀ o ∈ os, 0 ≤ o ∧ o < ns.length := fun o ho => rngI_mem (hos.mem_iff.mp ho)
    have hrn := lensR_ok hos hlok
    have hrl : (lensR ns os).length = ns.length := lensR_len hos
    have hss2 : rStrands H2 v ss := Mn.mn del_in (Mn.mn hB hv)
    have hvl2 : rInts H2 (.ref l) ns := Mn.mn del_in (Mn.mn hB hvl)
    refine q_set (mk_Ring fun Z z => rd_lcL (R := rInt) (RO := rInt) (as := os) (fun o => ns.getD o.toNat 0) (fun Z z => ⟨_, rfl, z _ _ (Same.refl _) ⟨f, _, rfl, hf, of_ints os⟩⟩) (by omega) (fun o ho y H3 Z e3 r k => ?_) (fun v3 H3 e3 h3 => z _ _ (lensR ns os) h3 hrn fun vR H4 e4 hR => ?_))
    · obtain rfl : y = V.int o := r
      exact ⟨rfl, _, rfl, _, rfl, l, _, o, _, rfl, rfl, Evl.sq_of (e3 _ _ hl2), len_at (hom o ho), k _ _ (Same.refl _) rfl⟩
    · have e24 := e3.trans e4
      have hro := ren_ok hos hok
      have hsl := hok.len
      refine q_set (callK0_ (cons_ (mk_Line fun Z z => rd_lcLA (R := rStrand) (RO := rStrand) (as := ss) (fun st => st.map (renP os)) (fun Z z => ⟨_, rfl, z _ _ (Same.refl _) (Mn.mn e24 hss2)⟩) (by omega) (fun st hst y H5 D acc Z e5 r hD k => ⟨rfl, ?_⟩) (fun v5 H5 e5 h5 => z _ _ _ (ren os ss) h5 hro fun vL H6 e6 hL => ?_))))
      · refine rd_lcLn (R := rPair) (RO := rPair) (as := st) (renP os) (fun Z z => ⟨_, rfl, z _ _ (Same.refl _) r⟩) (by have := (hok.strand hst).2.1; omega) (fun p hp y H6 Z e6 r6 k6 => ?_) (fun D2 ys2 H6 hD2 e6 h6 hp6 => ?_)
        · have hpo := os_mem hos (hok.mem (List.mem_flatten.mpr ⟨st, hst, hp⟩))
          have hil := idx_lt hpo
          have hf6 := (e24.trans (e5.trans e6)) _ _ hf
          refine rd_pairT r6 ⟨rfl, _, rfl, Or.inl ⟨rfl, _, Evl.sq_of hf6⟩, _, rfl, f, os.map V.int, .int p.1, os.idxOf p.1, .int p.1, rfl, rfl, Evl.sq_of hf6, rfl, ?_, ?_, ?_, ?_, _, rfl, sz2, fun l2 hl2 => k6 _ _ (new_same hl2) ⟨l2, rfl, upd_same⟩⟩
          · exact List.all_eq_true.mpr fun x hx => by
              obtain ⟨i, _, rfl⟩ := List.mem_map.mp hx
              rfl
          · rw [List.getElem?_map, List.getElem?_eq_getElem hil, at_idx hpo]; rfl
          · show (p.1 == p.1) = true
            exact beq_self_eq_true _
          · intro m z' hm hz'
            rw [List.getElem?_map] at hz'
            have hml : m < os.length := by omega
            rw [List.getElem?_eq_getElem hml] at hz'
            obtain rfl : V.int os[m] = z' := Option.some.inj hz'
            show (os[m] == p.1) = false
            refine beq_eq_false_iff_ne.mpr fun z => ?_
            have h7 := (os_nodup hos).idxOf_getElem m hml
            rw [z] at h7
            omega
        · have hne : D2 ≠ D := (ne_of_none hD hD2).symm
          refine k _ _ e6 ⟨D2, ys2, rfl, by rw [del_ne hne]; exact h6, hp6.mapF fun _ _ z => Tn.tn (e6 _ _ hD) z⟩
      · have e46 := e5.trans e6
        have e26 := e24.trans e46
        refine ⟨_, rfl, vR, vL, lensR ns os, ren os ss, rfl, Mn.mn e46 hR, hL, hrn, by rw [hrl]; exact hro, fun vt H7 e7 hT => ?_⟩
        have e27 := e26.trans e7
        refine q_set (call_ (cons_ (mk_Ring fun Z z => ⟨_, rfl, z _ _ ns (Mn.mn e27 hvl2) hlok fun vr H8 e8 hR8 => cons_ (mk_Line fun Z z => ⟨_, rfl, z _ _ _ ss (Mn.mn (e27.trans e8) hss2) hok fun vl8 H9 e9 hL9 => ?_⟩)⟩)))
        refine ⟨vr, vl8, ns, ss, rfl, Mn.mn e9 hR8, hL9, hlok, hok, fun vm H10 e10 hM => ?_⟩
        have e710 := (e8.trans e9).trans e10
        have e210 := e27.trans e710
        have hQ : ∀ H', Same H10 H' → Q (.bl true) H' := fun H' e' => q H' ((hb2.same (e210.trans e')).mono (by omega)) (hB.trans (But.of (e210.trans e')))
        have hnp := ren_nets (ns := ns) hos hok
        rcases hM with ⟨gM, hMN⟩ | ⟨j1, r1, x1, s1, gM, nM, bM, rM, hMT⟩
        · rcases hT with ⟨gT, hTN⟩ | ⟨j2, r2, x2, s2, gT, nT, bT, rT, hTT⟩
          · have hTN := Mn.mn e710 hTN
            obtain ⟨o1, d1, p1, t1, rfl, ho1, hp1, ht1⟩ := hMN
            obtain ⟨o2, d2, p2, t2, rfl, ho2, hp2, ht2⟩ := hTN
            refine q_skip (fun Z z => ⟨_, rfl, o1, _, d1, _, _, rfl, ho1, T.cl_Nets, T.na_Nets_word, rfl, _, rfl, o2, _, d2, _, _, rfl, ho2, T.cl_Nets, T.na_Nets_word, rfl, rfl, false, rfl, z _ (Same.refl _)⟩) fun H11 e11 => ?_
            refine q_if ⟨_, rfl, o1, _, d1, _, _, rfl, e11 _ _ ho1, T.cl_Nets, T.na_Nets_word, rfl, rfl, true, rfl, ifT rfl ?_⟩
            refine ⟨_, rfl, o1, _, d1, _, _, rfl, e11 _ _ ho1, T.cl_Nets, T.na_Nets_nets, rfl, t1, _, rfl, Evl.st_of (e11 _ _ ht1), fun m1 q1 hm1 hs1 hq1 => ?_⟩
            have e12 := new_same (o := .lst (m1.map V.int)) hq1
            refine ⟨_, rfl, o2, _, d2, _, _, rfl, e12 _ _ (e11 _ _ ho2), T.cl_Nets, T.na_Nets_nets, rfl, t2, _, rfl, Evl.st_of (e12 _ _ (e11 _ _ ht2)), fun m2 q2 hm2 hs2 hq2 => ?_⟩
            have em : m1 = m2 := int_sorted_eq (hm1.trans (hnp.symm.trans hm2.symm)) hs1 hs2
            subst em
            have e13 := new_same (o := .lst (m1.map V.int)) hq2
            refine ⟨_, _, dp_listI (e13 _ _ upd_same), dp_listI upd_same, sh_listI _, sh_listI _, ?_⟩
            rw [eqv_listI]
            exact hQ _ ((e11.trans e12).trans e13)
          · exact absurd ((ren_home (ns := ns) hos hok).mpr gM) (by rw [gT]; exact fun z => nomatch z)
        · rcases hT with ⟨gT, hTN⟩ | ⟨j2, r2, x2, s2, gT, nT, bT, rT, hTT⟩
          · exact absurd ((ren_home (ns := ns) hos hok).mp gT) (by rw [gM]; exact fun z => nomatch z)
          · have hTT := Mn.mn e710 hTT
            obtain ⟨hx12, hlp, hls⟩ := ren_lot hos hok rM nM bM rT nT bT
            subst hx12
            have hsum := perm_sum hnp
            obtain ⟨o1, d1, p1, t1, rfl, ho1, hp1, ht1⟩ := hMT
            obtain ⟨o2, d2, p2, t2, rfl, ho2, hp2, ht2⟩ := hTT
            refine q_skip (fun Z z => ⟨_, rfl, o1, _, d1, _, _, rfl, ho1, T.cl_TooGreat, T.na_TooGreat_word, rfl, _, rfl, o2, _, d2, _, _, rfl, ho2, T.cl_TooGreat, T.na_TooGreat_word, rfl, rfl, false, rfl, z _ (Same.refl _)⟩) fun H11 e11 => ?_
            refine q_skip (fun Z z => ⟨_, rfl, o1, _, d1, _, _, rfl, e11 _ _ ho1, T.cl_TooGreat, T.na_TooGreat_word, rfl, rfl, false, rfl, z _ (Same.refl _)⟩) fun H12 e12 => ?_
            have e112 := e11.trans e12
            have hs2 : ∀ o ∈ lotOf s2, 0 ≤ o ∧ o < ns.length := fun o ho => by
              obtain ⟨p, hp, rfl⟩ := List.mem_map.mp ho
              have := ((netOk_right (ns := lensR ns os) (ss := ren os ss) (by rw [hrl]; exact hro) (List.mem_of_getElem? rT)).2 p hp).1
              rwa [hrl] at this
            have hl2 : (lotOf s2).length ≤ 8 := by
              have := (netOk_right (ns := lensR ns os) (ss := ren os ss) (by rw [hrl]; exact hro) (List.mem_of_getElem? rT)).1
              unfold lotOf
              rwa [List.length_map]
            have e212 := e210.trans e112
            refine ret_ (and_ (op_ (cb1 (rd_lcU (R := rInt) (RO := rInt) (as := lotOf s2) (fun o => os.getD o.toNat 0) (fun Z z => ⟨_, rfl, o2, _, d2, _, _, rfl, e112 _ _ ho2, T.cl_TooGreat, T.na_TooGreat_lot, rfl, z _ _ (Same.refl _) ⟨t2, _, rfl, e112 _ _ ht2, of_ints _⟩⟩) (by omega) (fun o ho y H13 Z e13 r k => ⟨rfl, ?_⟩) (fun v13 H13 e13 h13 => ?_)))))
            · obtain rfl : y = V.int o := r
              exact ⟨_, rfl, _, rfl, f, _, o, _, rfl, rfl, Evl.sq_of ((e212.trans e13) _ _ hf), len_at (by rw [hosl]; exact hs2 o ho), k _ _ (Same.refl _) rfl⟩
            · obtain ⟨D, ys2, rfl, hD, hDp⟩ := h13
              rw [ints_of hDp] at hD
              refine ⟨D, _, rfl, Evl.sq_of hD, fun m1 q1 hm1 hsm1 hq1 => ?_⟩
              have em : m1 = lotOf s1 := int_sorted_eq (hm1.trans hlp) hsm1 hls
              subst em
              have e14 := new_same (o := .lst ((lotOf s1).map V.int)) hq1
              have e114 := (e112.trans e13).trans e14
              refine cb1 ⟨_, rfl, o1, _, d1, _, _, rfl, e114 _ _ ho1, T.cl_TooGreat, T.na_TooGreat_lot, rfl, t1, _, rfl, Or.inr (Evl.st_of (e114 _ _ ht1)), fun q2 hq2 => ?_⟩
              have e15 := new_same (o := .lst ((lotOf s1).map V.int)) hq2
              have e115 := e114.trans e15
              refine ⟨_, _, dp_listI (e15 _ _ upd_same), dp_listI upd_same, sh_listI _, sh_listI _, true, congrArg V.bl (eqv_listI _), ifT rfl ?_⟩
              refine ⟨_, rfl, o2, _, d2, _, _, rfl, e115 _ _ ho2, T.cl_TooGreat, T.na_TooGreat_parts, rfl, ((1 : Nat) : Int), rfl, p2, _, rfl, Evl.st_of (e115 _ _ hp2), (fun z => by have z1 := z.1; rw [HT.sIx_nat] at z1; exact absurd z1 (by show min 1 3 ≠ 0; decide)), fun q3 hq3 => ?_⟩
              rw [cut_drop]
              have e16 := new_same (o := .tup ([.ref t2, .int x1, .int ((netsOf (lensR ns os) (ren os ss)).sum - x1)].drop 1)) hq3
              have e116 := e115.trans e16
              refine ⟨_, rfl, o1, _, d1, _, _, rfl, e116 _ _ ho1, T.cl_TooGreat, T.na_TooGreat_parts, rfl, ((1 : Nat) : Int), rfl, p1, _, rfl, Evl.st_of (e116 _ _ hp1), (fun z => by have z1 := z.1; rw [HT.sIx_nat] at z1; exact absurd z1 (by show min 1 3 ≠ 0; decide)), fun q4 hq4 => ?_⟩
              rw [cut_drop]
              have e17 := new_same (o := .tup ([.ref t1, .int x1, .int ((netsOf ns ss).sum - x1)].drop 1)) hq4
              rw [hsum] at *
              refine ⟨dTup [x1, (netsOf ns ss).sum - x1], dTup [x1, (netsOf ns ss).sum - x1], dp_ints (e17 _ _ upd_same), dp_ints upd_same, (sh_ints _).2, (sh_ints _).2, ?_⟩
              rw [dTup_eq]
              exact hQ _ (e116.trans e17)
end KB

-- part KF1
namespace KB
open PySem PySem.Spec PyProof.Rows L2
variable {P : Program} {w : World} {K : PySem.W.Frag} {mg : Str → Option Value} {base : Heap}
theorem E_BadRing (T : Tx P K mg) : ErrOk P w K mg base 1 "BadRing" (CC K "BadRing") := by
  obtain ⟨fd, F⟩ := T.m_BadRing___init.ex
  have nd := sc_BadRing___init.nd
  refine ⟨_, fd, _, T.ox_BadRing, T.xp_BadRing, T.xi_BadRing, T.xt_BadRing, b_BadRing___init F, F.ok sc_BadRing___init (fun vs H Q E h => ?_) (fun cdv A outer s H vs Q E hr h => ⟨_, PSs.nox (pss_one (ps_ost (pv 0) (pv 1))), ?_⟩), T.g_BadRing⟩
  · obtain ⟨a, C, v, rfl, _⟩ := h; rfl
  · obtain ⟨a, C, v, rfl, h1, h2, h3, q⟩ := h
    exact ⟨_, rfl, _, rfl, a, C, rfl, h1, h2, Or.inl ⟨h3, fun dx hd hn => q dx hd hn⟩⟩
theorem E_BadLineUp (T : Tx P K mg) : ErrOk P w K mg base 1 "BadLineUp" (CC K "BadLineUp") := by
  obtain ⟨fd, F⟩ := T.m_BadLineUp___init.ex
  have nd := sc_BadLineUp___init.nd
  refine ⟨_, fd, _, T.ox_BadLineUp, T.xp_BadLineUp, T.xi_BadLineUp, T.xt_BadLineUp, b_BadLineUp___init F, F.ok sc_BadLineUp___init (fun vs H Q E h => ?_) (fun cdv A outer s H vs Q E hr h => ⟨_, PSs.nox (pss_one (ps_ost (pv 0) (pv 1))), ?_⟩), T.g_BadLineUp⟩
  · obtain ⟨a, C, v, rfl, _⟩ := h; rfl
  · obtain ⟨a, C, v, rfl, h1, h2, h3, q⟩ := h
    exact ⟨_, rfl, _, rfl, a, C, rfl, h1, h2, Or.inl ⟨h3, fun dx hd hn => q dx hd hn⟩⟩
theorem E_Misfit (T : Tx P K mg) : ErrOk P w K mg base 1 "Misfit" (CC K "Misfit") := by
  obtain ⟨fd, F⟩ := T.m_Misfit___init.ex
  have nd := sc_Misfit___init.nd
  refine ⟨_, fd, _, T.ox_Misfit, T.xp_Misfit, T.xi_Misfit, T.xt_Misfit, b_Misfit___init F, F.ok sc_Misfit___init (fun vs H Q E h => ?_) (fun cdv A outer s H vs Q E hr h => ⟨_, PSs.nox (pss_one (ps_ost (pv 0) (pv 1))), ?_⟩), T.g_Misfit⟩
  · obtain ⟨a, C, v, rfl, _⟩ := h; rfl
  · obtain ⟨a, C, v, rfl, h1, h2, h3, q⟩ := h
    exact ⟨_, rfl, _, rfl, a, C, rfl, h1, h2, Or.inl ⟨h3, fun dx hd hn => q dx hd hn⟩⟩
/-- an error of the class C with the part p -/
def Err (H : Hp) (C : Addr) (p : Str) (E : XK) : Prop := ∀ d H', Same H H' → H' d = some (.xd [("part", .str p)]) → E (.ref C) (some d) H'
def NotA (K : PySem.W.Frag) (x : Str) (H : Hp) (v : V) : Prop := ∃ t, TyX K H v t ∧ PySem.W.kitOne K t (.ref (CC K x)) = some false
def spNeedRX (K : PySem.W.Frag) : Sp := fun vs H Q E => ∃ v p, vs = [v, .str p] ∧ NotA K "Ring" H v ∧ Err H (CC K "BadRing") p E
def spNeedLX (K : PySem.W.Frag) : Sp := fun vs H Q E => ∃ v p, vs = [v, .str p] ∧ NotA K "LineUp" H v ∧ Err H (CC K "BadLineUp") p E
theorem X_need_ring (T : Tx P K mg) : DefOk P w K mg base (L2.CX P w) 3 "need_ring" (spNeedRX K) := by
  obtain ⟨f, fd, hm, F⟩ := T.d_need_ring.ex
  have nd := sc_need_ring.nd
  refine ⟨f, fd, _, hm, F.kp, b_need_ring F, F.ok sc_need_ring (fun vs H Q E h => ?_) (fun cdv A outer s H vs Q E hr h => ⟨_, pss_one (ps_if (pt_not (pt_val (pe_callB call_isi rfl T.f_isinstance (by decide +kernel) (pa_cons (pv 0) (pa_cons (pe_gref T.g_Ring rfl) pa_nil))))) (pss_one (ps_raise rfl (takes_of rfl rfl rfl rfl) (pmk_err (E_BadRing T) (hr.mono (by decide)) rfl (pa_cons (pv 1) pa_nil)))) pss_nil), ?_⟩)⟩
  · obtain ⟨v, p, rfl, _⟩ := h; rfl
  · obtain ⟨v, p, rfl, ⟨t, ht, hk⟩, q⟩ := h
    exact ⟨_, rfl, _, _, _, _, false, rfl, .own _, ht, hk, false, rfl, ifT rfl ⟨_, rfl, _, rfl, fun d hd => q d _ (new_same hd) upd_same⟩⟩
theorem X_need_lineup (T : Tx P K mg) : DefOk P w K mg base (L2.CX P w) 3 "need_lineup" (spNeedLX K) := by
  obtain ⟨f, fd, hm, F⟩ := T.d_need_lineup.ex
  have nd := sc_need_lineup.nd
  refine ⟨f, fd, _, hm, F.kp, b_need_lineup F, F.ok sc_need_lineup (fun vs H Q E h => ?_) (fun cdv A outer s H vs Q E hr h => ⟨_, pss_one (ps_if (pt_not (pt_val (pe_callB call_isi rfl T.f_isinstance (by decide +kernel) (pa_cons (pv 0) (pa_cons (pe_gref T.g_LineUp rfl) pa_nil))))) (pss_one (ps_raise rfl (takes_of rfl rfl rfl rfl) (pmk_err (E_BadLineUp T) (hr.mono (by decide)) rfl (pa_cons (pv 1) pa_nil)))) pss_nil), ?_⟩)⟩
  · obtain ⟨v, p, rfl, _⟩ := h; rfl
  · obtain ⟨v, p, rfl, ⟨t, ht, hk⟩, q⟩ := h
    exact ⟨_, rfl, _, _, _, _, false, rfl, .own _, ht, hk, false, rfl, ifT rfl ⟨_, rfl, _, rfl, fun d hd => q d _ (new_same hd) upd_same⟩⟩
/-- what makes can_line refuse -/
def Refuse (K : PySem.W.Frag) (H : Hp) (v1 v2 : V) (x p : Str) : Prop :=
  (NotA K "Ring" H v1 ∧ x = "BadRing" ∧ p = "ring") ∨ (∃ ns, rRing K H v1 ns ∧ NotA K "LineUp" H v2 ∧ x = "BadLineUp" ∧ p = "lineup") ∨ ∃ ns ss, rRing K H v1 ns ∧ rLine K H v2 ss ∧ manyOf ss ≠ (ns.length : Int) ∧ x = "Misfit" ∧ p = "bars"
def spCanX (K : PySem.W.Frag) : Sp := fun vs H Q E => ∃ v1 v2 x p, vs = [v1, v2] ∧ Refuse K H v1 v2 x p ∧ Err H (CC K x) p E
theorem X_can_line (T : Tx P K mg) : DefOk P w K mg base (L2.CX P w) 4 "can_line" (spCanX K) := by
  obtain ⟨f, fd, hm, F⟩ := T.d_can_line.ex
  have nd := sc_can_line.nd
  refine ⟨f, fd, _, hm, F.kp, b_can_line F, F.ok sc_can_line (fun vs H Q E h => ?_) (fun cdv A outer s H vs Q E hr h => ?_)⟩
  · obtain ⟨v1, v2, x, p, rfl, _⟩ := h; rfl
  · obtain ⟨v1, v2, x, p, rfl, hc, q⟩ := h
    rcases hc with ⟨h1, rfl, rfl⟩ | ⟨ns, hR, h2, rfl, rfl⟩ | ⟨ns, ss, hR, hL, hne, rfl, rfl⟩
    · refine ⟨_, pss_cons (ps_expr (pe_callD (X_need_ring T) (hr.mono (by decide)) rfl (passes_call (takes_of rfl rfl rfl rfl) (fun _ _ _ _ z => z)) (pa_cons (pv 0) (pa_cons pe_str pa_nil)))) pss_never, ?_⟩
      exact ⟨_, rfl, _, _, rfl, h1, q⟩
    · refine ⟨_, pss_cons (ps_expr (pe_callD (G_need_ring T) (hr.mono (by decide)) rfl pass0 (pa_cons (pv 0) (pa_cons pe_str pa_nil)))) (pss_cons (ps_expr (pe_callD (X_need_lineup T) (hr.mono (by decide)) rfl (passes_call (takes_of rfl rfl rfl rfl) (fun _ _ _ _ z => z)) (pa_cons (pv 1) (pa_cons pe_str pa_nil)))) pss_never), ?_⟩
      exact ⟨_, rfl, _, _, ns, rfl, hR, _, rfl, _, _, rfl, h2, q⟩
    · have ⟨o, dx, tp, c, e1, ho, ht⟩ := hR
      have ⟨o2, dx2, ts, tl, e2, ho2, hts, htl⟩ := hL
      subst e1 e2
      refine ⟨_, pss_cons (ps_expr (pe_callD (G_need_ring T) (hr.mono (by decide)) rfl pass0 (pa_cons (pv 0) (pa_cons pe_str pa_nil)))) (pss_cons (ps_expr (pe_callD (G_need_lineup T) (hr.mono (by decide)) rfl pass0 (pa_cons (pv 1) (pa_cons pe_str pa_nil)))) (pss_cons (ps_if (pt_cmpR op_ne (pe_fldK K (pv 1) rfl) (pe_callB (call_lenK K) rfl T.f_len (by decide +kernel) (pa_cons (pe_fldK K (pv 0) rfl) pa_nil)) (nomark _)) (pss_one (ps_raise rfl (takes_of rfl rfl rfl rfl) (pmk_err (E_Misfit T) (hr.mono (by decide)) rfl (pa_cons pe_str pa_nil)))) pss_nil) pss_never)), ?_⟩
      refine ⟨_, rfl, _, _, ns, rfl, hR, _, rfl, _, _, ss, rfl, hL, ?_⟩
      refine ⟨_, rfl, o2, _, dx2, _, _, rfl, ho2, T.cl_LineUp, T.na_LineUp_many, rfl, _, rfl, o, _, dx, _, _, rfl, ho, T.cl_Ring, T.na_Ring_lengths, rfl, tp, _, rfl, Or.inr (Evl.st_of ht), rfl, true, ?_, ifT rfl ⟨_, rfl, fun d hd => q d _ (new_same hd) upd_same⟩⟩
      rw [List.length_map]
      exact congrArg V.bl (by simpa using hne)
end KB

-- part KF2
namespace KB
open PySem PySem.Spec PyProof.Rows L2
variable {P : Program} {w : World} {K : PySem.W.Frag} {mg : Str → Option Value} {base : Heap}
/-- what is told of an error: its kind, its part -/
def Kind (x wd : Str) : Prop := (x = "BadRing" ∧ wd = "ring") ∨ (x = "BadLineUp" ∧ wd = "lineup") ∨ (x = "Misfit" ∧ wd = "misfit")
def THeard (K : PySem.W.Frag) : (XK → Hp → VK → Prop) → Hp → VK → Prop := fun tl H Q => ∀ Z : VK,
  tl (fun cls d H' => ∃ (dd : Addr) (x wd p : Str), cls = .ref (CC K x) ∧ d = some dd ∧ H' dd = some (.xd [("part", .str p)]) ∧ Kind x wd ∧ ∀ t H'', Same H' H'' → H'' t = some (.tup [.str wd, .str p]) → Q (.ref t) H'') H Z
theorem call_isXK (K : PySem.W.Frag) {X : Cx} {a : Addr} {oe : Obj} {cls : Value} {d : Option Addr} {pn : List (Addr × Obj)} (hz : Zc cls d oe) (hf : ∃ vs, oe.data = .fields vs) (hK : X.K = K := by rfl) : CallR (X.suite a ((a, oe) :: pn)) (.builtin "isinstance") (rIsX K a cls d) := by
  subst hK
  exact call_isX hz hf
theorem pe_xgK (K : PySem.W.Frag) {X : Cx} {a : Addr} {oe : Obj} {cls : Value} {d : Option Addr} {pn : List (Addr × Obj)} {e : Expr} {te : TE} {pos : Pos} (hz : Zc cls d oe) (hf : ∃ vs, oe.data = .fields vs) (he : PE (X.suite a ((a, oe) :: pn)) e te)
    (hb : attributeBase e "part" X.env (eval e X.env) = eval e X.env := by rfl) (hK : X.K = K := by rfl) : PE (X.suite a ((a, oe) :: pn)) (.Attribute e "part" pos) (tXg K a cls d te) := by
  subst hK
  exact pe_xg hz hf he hb
theorem takes_len {X : Cx} {W : WX} {n : Nat} (t : Takes X W) (hn : X.N.length = n) : Takes X (fun cls d σ H => σ.length = n → W cls d σ H) := fun u s' ⟨a, B, sI, pins, σ, H, cls, d, e, I, nb, up, sky, na, os, ag, w⟩ =>
  t u s' ⟨a, B, sI, pins, σ, H, cls, d, e, I, nb, up, sky, na, os, ag, w (I.len.trans hn)⟩
def tIsX1 (K : PySem.W.Frag) (a : Addr) (cls : Value) (d : Option Addr) (x : Str) : TT := tB (tCB (rIsX K a cls d) (tCons (tVar 2) (tCons (tC (.ref (CC K x))) tNil)))
def tHeardS (K : PySem.W.Frag) (a : Addr) (cls : Value) (d : Option Addr) : TS :=
  tSeq (tAsg (tTup (tCons (tC (.str "other")) (tCons (tC (.str "")) tNil))) (gName 1))
    (tIfS (tB (tCB (rIsX K a cls d) (tCons (tVar 2) (tCons (tTup (tCons (tC (.ref (CC K "BadLineUp"))) (tCons (tC (.ref (CC K "BadRing"))) (tCons (tC (.ref (CC K "Misfit"))) tNil)))) tNil))))
      (tAsg (tTup (tCons (tIf (tIsX1 K a cls d "BadLineUp") (tC (.str "lineup")) (tIf (tIsX1 K a cls d "BadRing") (tC (.str "ring")) (tC (.str "misfit")))) (tCons (tXg K a cls d (tVar 2)) tNil))) (gName 1)) tNext)
theorem q_setC {x : V} {i : Nat} {u : TS} {D : Ends} {σ : L2.St} {H : Hp} (h : u D (σ.set i (some x)) H) : tSeq (tAsg (tC x) (gName i)) u D σ H := h
theorem kitAny_hit {K : PySem.W.Frag} {t c : Value} {cs : List Value} (h : PySem.W.kitOne K t c = some true) : PySem.W.kitAny K t (c :: cs) = some true := kitAny_cons (b := true) h (fun z => nomatch z) fun _ => rfl
theorem kitAny_miss {K : PySem.W.Frag} {t c : Value} {cs : List Value} {r : Bool} (h : PySem.W.kitOne K t c = some false) (k : PySem.W.kitAny K t cs = some r) : PySem.W.kitAny K t (c :: cs) = some r := kitAny_cons (b := false) h (fun _ => k) fun z => nomatch z
theorem heard_suite (T : Tx P K mg) {x wd p : Str} (hk : Kind x wd) {a dd : Addr} {D : Ends} {x0 x1 : Option V} {H : Hp} (hp : H dd = some (.xd [("part", .str p)])) (q : ∀ t H', Same H H' → H' t = some (.tup [.str wd, .str p]) → D.nx [x0, some (.ref t), some (.ref a)] H') :
    tHeardS K a (.ref (CC K x)) (some dd) D [x0, x1, some (.ref a)] H := by
  refine q_set ⟨sz2, fun l hl => ?_⟩
  have e1 := new_same (o := .tup [.str "other", .str ""]) hl
  have hp1 := e1 _ _ hp
  refine ⟨_, rfl, (by show 3 ≤ sizeLine; decide), fun tp htp => ?_⟩
  have e2 := new_same (o := .tup [.ref (CC K "BadLineUp"), .ref (CC K "BadRing"), .ref (CC K "Misfit")]) htp
  have hp2 := e2 _ _ hp1
  have e12 := e1.trans e2
  have hcs : Paired ClsV [V.ref (CC K "BadLineUp"), V.ref (CC K "BadRing"), V.ref (CC K "Misfit")] [Value.ref (CC K "BadLineUp"), Value.ref (CC K "BadRing"), Value.ref (CC K "Misfit")] := .cons (.own _) (.cons (.own _) (.cons (.own _) .nil))
  have fin : ∀ H3, Same H H3 → ∀ z : Str, z = wd → ∃ fs v, H3 dd = some (.xd fs) ∧ fs.lookup ("part" : Str) = some v ∧ v = .str p := fun H3 e3 z _ => ⟨_, _, e3 _ _ hp, rfl, rfl⟩
  rcases hk with ⟨rfl, rfl⟩ | ⟨rfl, rfl⟩ | ⟨rfl, rfl⟩
  · refine ⟨_, dd, _, .ref tp, rfl, rfl, rfl, hp2, T.xc_BadRing, Or.inr ⟨tp, _, _, true, rfl, upd_same, hcs, kitAny_miss T.kx_BadRing_BadLineUp (kitAny_hit (kit_self _)), true, rfl, ifT rfl ?_⟩⟩
    refine asg_ (cons_ ⟨_, rfl, _, dd, _, _, rfl, rfl, rfl, hp2, T.xc_BadRing, Or.inl ⟨_, false, .own _, T.kx_BadRing_BadLineUp, false, rfl, ifF rfl ⟨_, rfl, _, dd, _, _, rfl, rfl, rfl, hp2, T.xc_BadRing, Or.inl ⟨_, true, .own _, kit_self _, true, rfl, ifT rfl ?_⟩⟩⟩⟩)
    exact ⟨_, rfl, rfl, _, dd, _, _, rfl, rfl, T.xc_BadRing, hp2, rfl, sz2, fun t ht => q t _ (e12.trans (new_same ht)) upd_same⟩
  · refine ⟨_, dd, _, .ref tp, rfl, rfl, rfl, hp2, T.xc_BadLineUp, Or.inr ⟨tp, _, _, true, rfl, upd_same, hcs, kitAny_hit (kit_self _), true, rfl, ifT rfl ?_⟩⟩
    refine asg_ (cons_ ⟨_, rfl, _, dd, _, _, rfl, rfl, rfl, hp2, T.xc_BadLineUp, Or.inl ⟨_, true, .own _, kit_self _, true, rfl, ifT rfl ?_⟩⟩)
    exact ⟨_, rfl, rfl, _, dd, _, _, rfl, rfl, T.xc_BadLineUp, hp2, rfl, sz2, fun t ht => q t _ (e12.trans (new_same ht)) upd_same⟩
  · refine ⟨_, dd, _, .ref tp, rfl, rfl, rfl, hp2, T.xc_Misfit, Or.inr ⟨tp, _, _, true, rfl, upd_same, hcs, kitAny_miss T.kx_Misfit_BadLineUp (kitAny_miss T.kx_Misfit_BadRing (kitAny_hit (kit_self _))), true, rfl, ifT rfl ?_⟩⟩
    refine asg_ (cons_ ⟨_, rfl, _, dd, _, _, rfl, rfl, rfl, hp2, T.xc_Misfit, Or.inl ⟨_, false, .own _, T.kx_Misfit_BadLineUp, false, rfl, ifF rfl ⟨_, rfl, _, dd, _, _, rfl, rfl, rfl, hp2, T.xc_Misfit, Or.inl ⟨_, false, .own _, T.kx_Misfit_BadRing, false, rfl, ifF rfl ?_⟩⟩⟩⟩)
    exact ⟨_, rfl, rfl, _, dd, _, _, rfl, rfl, T.xc_Misfit, hp2, rfl, sz2, fun t ht => q t _ (e12.trans (new_same ht)) upd_same⟩
theorem kind_exm (T : Tx P K mg) {x wd : Str} (hk : Kind x wd) : PySem.W.exmOne K (.ref (CC K x)) (.ref (CC K "RingError")) = some true := by
  rcases hk with ⟨rfl, _⟩ | ⟨rfl, _⟩ | ⟨rfl, _⟩
  · exact T.xm_BadRing
  · exact T.xm_BadLineUp
  · exact T.xm_Misfit
theorem heard_gives {X : Cx} (T : Tx X.prog X.K X.mg) {g : Addr} {cdg : Value} {q : Str} : LamX.GivesTo X N_law_heard "_law_heard" (defScope s_law_heard) g cdg (defBody s_law_heard) "_law_ask" q (THeard X.K) := by
  intro f c' s H Q tl act hc h
  have nd := sc_law_heard.nd
  refine ⟨_, pss_cons (ps_set (X := (cxOf C8.CX0 X.prog X.w X.K X.mg X.base N_law_heard "_law_heard" (defScope s_law_heard) g cdg X.A X.stack s H C8.E0).nox) (i := 1) nd rfl (Or.inl rfl) pe_non)
    (pss_cons (ps_try_as (X := (cxOf C8.CX0 X.prog X.w X.K X.mg X.base N_law_heard "_law_heard" (defScope s_law_heard) g cdg X.A X.stack s H C8.E0).nox) (i := 2) (c := .ref (CC X.K "RingError")) (n := "error") (ts := tHeardS X.K)
        (tb := fun W D σ H => ∃ Ech : XK, (∀ cls d (σ' : L2.St) H', σ'.length = 3 → Ech cls d H' → W cls d σ' H') ∧ σ[0]? = some (some (.ref f)) ∧ H c' = some (LamX.CodeO c' q) ∧ ∀ Z : VK, tl Ech H Z)
        rfl rfl nd rfl rfl ⟨rfl, by decide, .inl T.g_RingError⟩ LamX.takes0 (fun W pn xe tk _ => ?_)
        (fun a oe cls d pn hz hf => pss_cons (ps_set (i := 1) nd rfl (Or.inl rfl) (pe_tup (pa_cons pe_str (pa_cons pe_str pa_nil))))
          (pss_one (ps_if (pt_val (pe_callB (call_isXK X.K hz hf) rfl T.f_isinstance (by decide +kernel) (pa_cons (pv 2) (pa_cons (pe_tup (pa_cons (pe_gref T.g_BadLineUp rfl) (pa_cons (pe_gref T.g_BadRing rfl) (pa_cons (pe_gref T.g_Misfit rfl) pa_nil)))) pa_nil))))
            (pss_one (ps_set (i := 1) nd rfl (Or.inl rfl) (pe_tup (pa_cons (pe_ifExp (pt_val (pe_callB (call_isXK X.K hz hf) rfl T.f_isinstance (by decide +kernel) (pa_cons (pv 2) (pa_cons (pe_gref T.g_BadLineUp rfl) pa_nil)))) pe_str (pe_ifExp (pt_val (pe_callB (call_isXK X.K hz hf) rfl T.f_isinstance (by decide +kernel) (pa_cons (pv 2) (pa_cons (pe_gref T.g_BadRing rfl) pa_nil)))) pe_str pe_str)) (pa_cons (pe_xgK X.K hz hf (pv 2)) pa_nil))))) pss_nil)))) (pss_one (ps_ret (pv 1)))), ?_⟩
  · refine ⟨fun pins s' σ H' D I h' => ?_⟩
    obtain ⟨Ech, hW, h1, h2, h3⟩ := h'
    exact (pss_one (ps_expr (act (fun cls d σ H => σ.length = 3 → W cls d σ H) pn xe Ech _ _ (takes_len tk rfl) (fun cls d σ' H' he hl => hW cls d σ' H' hl he)))).run pins s' σ H' D I ⟨h1, h2, h3 _⟩
  · refine q_setC (seq_ ⟨fun cls d H' => ∃ (dd : Addr) (x wd p : Str), cls = .ref (CC X.K x) ∧ d = some dd ∧ H' dd = some (.xd [("part", .str p)]) ∧ Kind x wd ∧ ∀ t H'', Same H' H'' → H'' t = some (.tup [.str wd, .str p]) → Q (.ref t) H'', fun cls d σ' H' hl he => ?_, rfl, hc, h⟩)
    obtain ⟨dd, x, wd, p, rfl, rfl, hp, hk, hq⟩ := he
    match σ', hl with
    | [x0, x1, x2], _ =>
      refine ⟨true, kind_exm T hk, fun _ a ha => heard_suite T hk hp fun t H2 e2 ht => ?_, fun z => nomatch z⟩
      exact ⟨_, rfl, hq t H2 e2 ht⟩
end KB

-- part KF3
namespace KB
open PySem PySem.Spec PyProof.Rows L2
variable {P : Program} {w : World} {K : PySem.W.Frag} {mg : Str → Option Value} {base : Heap}
def rJoinK (K : PySem.W.Frag) : V → List V → Hp → VK → Prop := fun x xs H Q => ∃ a p, ∃ ys : List Str, x = .str a ∧ xs = [.ref p] ∧ (SqL K H p (ys.map V.str) ∨ SqT K H p (ys.map V.str)) ∧ (ys.map (·.length)).sum + ys.length * a.length ≤ 16777216 ∧ Q (.str (Txt.join a ys)) H
theorem pe_joinK (K : PySem.W.Frag) {X : Cx} {o e : Expr} {to te : TE} {apos pos : Pos} (ho : PE X o to) (he : PE X e te) (hs : starEach [e] X.env = [(false, eval e X.env)] := by rfl) (hbase : attributeBase o "join" X.env (eval o X.env) = eval o X.env := by rfl) (hline : (apos.endLine == pos.line) = true := by rfl) (hK : X.K = K := by rfl) :
    PE X (.Call (.Attribute o "join" apos) [e] [] pos) (tM1 (rJoinK K) to te) := by
  subst hK
  exact pe_join ho he hs hbase hline
def textP (p : Pr) : Str := (Str.empty ++ (if p.2 > 0 then ("+" : Str) else ("-" : Str))) ++ (toString p.1 : String)
theorem textP_len {p : Pr} (h : 0 ≤ p.1 ∧ p.1 ≤ 7) : (textP p).length ≤ 10 := by
  have : p.1 = 0 ∨ p.1 = 1 ∨ p.1 = 2 ∨ p.1 = 3 ∨ p.1 = 4 ∨ p.1 = 5 ∨ p.1 = 6 ∨ p.1 = 7 := by omega
  unfold textP
  rcases this with e | e | e | e | e | e | e | e <;> rw [e] <;> split <;> decide +kernel
theorem sz10 {n : Nat} (h : n ≤ 10) : n ≤ sizeLine := Nat.le_trans h (by decide)
def spText : Sp := fun vs H Q _ => ∃ v p, vs = [v] ∧ rPair H v p ∧ (0 ≤ p.1 ∧ p.1 ≤ 7) ∧ Q (.str (textP p)) H
theorem G_pair_text (T : Tx P K mg) : DefOk P w K mg base CX0 1 "pair_text" spText := by
  obtain ⟨f, fd, hm, F⟩ := T.d_pair_text.ex
  have nd := sc_pair_text.nd
  refine ⟨f, fd, _, hm, F.kp, b_pair_text F, F.ok sc_pair_text (fun vs H Q E h => ?_) (fun cdv A outer s H vs Q E hr h => ⟨_, PSs.nox 
      (pss_one (ps_ret (pe_ifExp (pt_cmpR op_gt (pe_ix (ix_tupK K) (pv 0) pe_int (fun _ _ => rfl)) pe_int (nomark _)) (pe_joined (.cons pe_str (.cons (pe_fmt (pe_ix (ix_tupK K) (pv 0) pe_int (fun _ _ => rfl))) .nil))) (pe_joined (.cons pe_str (.cons (pe_fmt (pe_ix (ix_tupK K) (pv 0) pe_int (fun _ _ => rfl))) .nil)))))), ?_⟩)⟩
  · obtain ⟨v, p, rfl, _⟩ := h; rfl
  · obtain ⟨v, p, rfl, ⟨a, rfl, ha⟩, h7, q⟩ := h
    have hlen := textP_len h7
    have hlog : p.1.natAbs.log2 < 1920 := by
      have : p.1 = 0 ∨ p.1 = 1 ∨ p.1 = 2 ∨ p.1 = 3 ∨ p.1 = 4 ∨ p.1 = 5 ∨ p.1 = 6 ∨ p.1 = 7 := by omega
      rcases this with e | e | e | e | e | e | e | e <;> rw [e] <;> decide +kernel
    refine ⟨_, rfl, a, _, 1, _, rfl, rfl, Evl.st_of ha, rfl, p.2, 0, rfl, rfl, _, rfl, ?_⟩
    by_cases h : 0 < p.2
    · refine ifT (decide_eq_true h) ?_
      unfold textP at q hlen
      rw [if_pos h] at q hlen
      exact ⟨_, rfl, by decide, _, rfl, a, _, 0, _, rfl, rfl, Evl.st_of ha, rfl, Or.inr ⟨p.1, rfl, hlog, _, rfl, sz10 hlen, q⟩⟩
    · refine ifF (decide_eq_false h) ?_
      unfold textP at q hlen
      rw [if_neg h] at q hlen
      exact ⟨_, rfl, by decide, _, rfl, a, _, 0, _, rfl, rfl, Evl.st_of ha, rfl, Or.inr ⟨p.1, rfl, hlog, _, rfl, sz10 hlen, q⟩⟩
theorem join_le (sep : Str) {ys : List Str} {m : Nat} (h : ∀ y ∈ ys, y.length ≤ m) : (ys.map (·.length)).sum ≤ ys.length * m := by
  induction ys with
  | nil => simp
  | cons y r ih =>
    have h1 := h y List.mem_cons_self
    have h2 := ih fun z hz => h z (List.mem_cons_of_mem _ hz)
    rw [List.map_cons, List.sum_cons, List.length_cons, Nat.add_mul]
    omega
def textS (st : List Pr) : Str := Txt.join " " (st.map textP)
theorem textS_len {st : List Pr} (h : st.length ≤ 8) (h7 : ∀ p ∈ st, 0 ≤ p.1 ∧ p.1 ≤ 7) : (textS st).length ≤ 100 := by
  unfold textS
  rw [TL.join_eq]
  have h1 := StrLaws.join_length_le " " (st.map textP)
  have h2 := join_le " " (ys := st.map textP) (m := 10) fun y hy => by
    obtain ⟨p, hp, rfl⟩ := List.mem_map.mp hy
    exact textP_len (h7 p hp)
  rw [List.length_map] at h1 h2
  have h3 : (" " : Str).length = 1 := rfl
  rw [h3] at h1
  omega
def spStr (K : PySem.W.Frag) : Sp := fun vs H Q _ => ∃ v n ss, vs = [v] ∧ rLine K H v ss ∧ StrandsOk n ss ∧ ∀ z H', Same H H' → Q (.str z) H'
theorem G_LineUp_str (T : Tx P K mg) : ∃ fd, Binds K fd ["self"] [] ∧ FnOk P w K mg base CX0 2 (He.ma K (He.ga K "LineUp") "__str__") fd ["self"] (spStr K) := by
  obtain ⟨fd, F⟩ := T.m_LineUp___str.ex
  have nd := sc_LineUp___str.nd
  refine ⟨fd, b_LineUp___str F, F.ok sc_LineUp___str (fun vs H Q E h => ?_) (fun cdv A outer s H vs Q E hr h => ⟨_, PSs.nox 
      (pss_one (ps_ret (pe_joinK K pe_str (pe_lc (own := [(("strand" : Str), 1)]) rfl nd (pi_tupK K (pe_fldK K (pv 0) rfl)) (blkOk_by (own := [(("strand" : Str), 1)]) (N := N_LineUp___str) (sc := defScope s_LineUp___str) (by decide +kernel)) (fun _ _ _ _ _ => pg_name (i := 1) nd rfl (Or.inl rfl)) (fun _ _ _ _ _ => pts_nil) (fun _ _ _ _ _ => (pe_joinK K pe_str (pe_lc (own := [(("pair" : Str), 2)]) rfl nd (pi_tupK K (pv 1)) (blkOk_by (own := [(("pair" : Str), 2)]) (N := N_LineUp___str) (sc := ({ kind := .function, names := [(".0", .local), ("strand", .local)], isGenerator := false, isCoroutine := false } : Scope)) (by decide +kernel)) (fun _ _ _ _ _ => pg_name (i := 2) nd rfl (Or.inl rfl)) (fun _ _ _ _ _ => pts_nil) (fun _ _ _ _ _ => (pe_callD (G_pair_text T) (hr.mono (by decide)) rfl pass0 (pa_cons (pv 2) pa_nil)))))))))), ?_⟩)⟩
  · obtain ⟨v, n, ss, rfl, _⟩ := h; rfl
  · obtain ⟨v, n, ss, rfl, ⟨x, dx, ts, tl, rfl, hx, hts, htl⟩, hok, q⟩ := h
    have hsl := hok.len
    have hrl := right_len ss
    have hst : ∀ st ∈ right ss, st.length ≤ 8 ∧ ∀ p ∈ st, 0 ≤ p.1 ∧ p.1 ≤ 7 := fun st hst => by
      obtain ⟨s0, h0, rfl⟩ := List.mem_map.mp ((right_perm ss).mem_iff.mp hst)
      have hs0 := hok.strand h0
      refine ⟨by rw [norm_len]; exact hs0.2.1, fun p hp => ?_⟩
      obtain ⟨⟨q0, hq0, e⟩, _⟩ := norm_mem hs0 hp
      rw [e]
      exact (hs0.2.2 q0 hq0).1
    refine ret_ ⟨⟨_, rfl⟩, rd_lcU (R := rRow) (RO := rStr) (as := right ss) textS (fun Z z => rd_fld T.cl_LineUp rfl hx T.na_LineUp_strands rfl (z _ _ (Same.refl _) hts)) (by omega) (fun st hm y H2 Z e2 r k => ⟨rfl, ⟨_, rfl⟩, ?_⟩) (fun v2 H2 e2 h2 => ?_)⟩
    · refine rd_lcU (R := rPair) (RO := rStr) (as := st) textP (fun Z z => ⟨_, rfl, z _ _ (Same.refl _) r⟩) (by have := (hst st hm).1; omega) (fun p hp y H3 Z e3 r k => ⟨rfl, ?_⟩) (fun v3 H3 e3 h3 => ?_)
      · exact ⟨_, rfl, y, p, rfl, r, (hst st hm).2 p hp, k _ _ (Same.refl _) rfl⟩
      · obtain ⟨D, ys, rfl, hD, hp⟩ := h3
        rw [strs_of hp] at hD
        refine ⟨_, D, st.map textP, rfl, rfl, Or.inl (Evl.sq_of hD), ?_, k _ _ e3 rfl⟩
        have h2 := join_le " " (ys := st.map textP) (m := 10) fun y hy => by
          obtain ⟨p, hp, rfl⟩ := List.mem_map.mp hy
          exact textP_len ((hst st hm).2 p hp)
        rw [List.length_map] at h2 ⊢
        have h1 := (hst st hm).1
        have h3 : (" " : Str).length = 1 := rfl
        rw [h3]
        omega
    · obtain ⟨D, ys, rfl, hD, hp⟩ := h2
      rw [strs_of hp] at hD
      refine ⟨_, D, (right ss).map textS, rfl, rfl, Or.inl (Evl.sq_of hD), ?_, q _ _ e2⟩
      have h2 := join_le " " (ys := (right ss).map textS) (m := 100) fun y hy => by
        obtain ⟨st, hm, rfl⟩ := List.mem_map.mp hy
        exact textS_len (hst st hm).1 (hst st hm).2
      rw [List.length_map] at h2 ⊢
      have h3 : (" / " : Str).length = 3 := rfl
      rw [h3]
      omega
theorem S_LineUp (T : Tx P K mg) : StrM P w K mg base 2 (CC K "LineUp") (spStr K) := by
  obtain ⟨fd, hb, F⟩ := G_LineUp_str (P := P) (w := w) (base := base) T
  exact ⟨_, fd, _, T.st_LineUp, T.fs_LineUp, hb, F⟩
end KB

-- part KF4
namespace KB
open PySem PySem.Spec PyProof.Rows L2
variable {P : Program} {w : World} {K : PySem.W.Frag} {mg : Str → Option Value} {base : Heap}
theorem rd_lcRg {β : Type} {n : Nat} {ta : TA} {RO : Rl β} [Tn RO] {g : TG} {te : TE} {vs : List Nat} {σ : L2.St} {H : Hp} {Q : VK} (f : Int → β) (hr : ∀ R : It → Hp → Prop, R (Itr 0 n) H → iRng1 ta σ H R) (hz : n ≤ 100000)
    (hs : ∀ i ∈ rngI 0 n, ∀ H2 (Z : VK), Same H H2 → (∀ y H4, Same H2 H4 → RO H4 y (f i) → Z y H4) → g (.int i) (wipe σ vs) H2 fun σ2 H3 => wipe σ2 vs = wipe σ vs ∧ te σ2 H3 Z)
    (hd : ∀ v H2, Same H H2 → LOf RO H2 v ((rngI 0 n).map f) → Q v H2) : tLc (iRng1 ta) g tYes te vs σ H Q :=
  hr _ (lcT f wk_range (by rw [rngI_len]; exact hz) (fun i hi x H2 Z e2 rr k => by rw [rr]; exact hs i hi H2 Z e2 k) hd)
instance : Tn (rRing K) := { mn := Mn.mn, tn := fun hD ⟨x, dx, tp, c, h1, h2, h3⟩ => ⟨x, dx, tp, c, h1, by rw [del_ne (ne_of h2 hD (fun z => nomatch z))]; exact h2, tup_del hD h3⟩ }
instance : Tn (rLine K) := { mn := Mn.mn, tn := fun hD ⟨x, dx, tp, c, h1, h2, h3, h4⟩ => ⟨x, dx, tp, c, h1, by rw [del_ne (ne_of h2 hD (fun z => nomatch z))]; exact h2, Tn.tn hD h3, Tn.tn hD h4⟩ }
/-! ### all but the tables -/
def nt (H : Hp) : Hp := fun a => match H a with
  | some (.tbl _) => none
  | o => o
theorem nt_at {H : Hp} {a : Addr} {o : HO} (h : H a = some o) (hn : ∀ ps, o ≠ .tbl ps) : nt H a = some o := by
  unfold nt
  rw [h]
  cases o <;> first | rfl | exact absurd rfl (hn _)
theorem nt_ext {H H1 : Hp} (e : LamX.ExtN H H1) : Same (nt H) H1 := fun b o h => by
  unfold nt at h
  cases q : H b with
  | none => rw [q] at h; cases h
  | some u =>
    rw [q] at h
    cases u <;> first | (cases h; exact e b _ q (fun _ z => nomatch z)) | cases h
class Nn {α : Type} (R : Rl α) : Prop extends Mn R where
  nn : ∀ {H : Hp} {v : V} {a : α}, R H v a → R (nt H) v a
instance : Nn rInt := { mn := Mn.mn, nn := fun h => h }
instance : Nn rPair := { mn := Mn.mn, nn := fun ⟨a, h1, h2⟩ => ⟨a, h1, nt_at h2 fun _ z => nomatch z⟩ }
instance instNnT {α : Type} (R : Rl α) [Nn R] : Nn (TOf R) := { mn := Mn.mn, nn := fun ⟨a, vs, h1, h2, h3⟩ => ⟨a, vs, h1, nt_at h2 (fun _ z => nomatch z), h3.mapF fun _ _ => Nn.nn⟩ }
instance : Nn (rRing K) := { mn := Mn.mn, nn := fun ⟨x, dx, tp, c, h1, h2, h3⟩ => ⟨x, dx, tp, c, h1, nt_at h2 (fun _ z => nomatch z), nt_at h3 fun _ z => nomatch z⟩ }
instance : Nn (rLine K) := { mn := Mn.mn, nn := fun ⟨x, dx, tp, c, h1, h2, h3, h4⟩ => ⟨x, dx, tp, c, h1, nt_at h2 (fun _ z => nomatch z), Nn.nn h3, Nn.nn h4⟩ }
theorem Nn.ext {α : Type} {R : Rl α} [Nn R] {H H1 : Hp} {v : V} {a : α} (e : LamX.ExtN H H1) (h : R H v a) : R H1 v a := Mn.mn (nt_ext e) (Nn.nn h)
def dHeard : PyData := .list [.tuple [.str "ring", .str "ring"], .tuple [.str "lineup", .str "lineup"], .tuple [.str "misfit", .str "bars"]]
theorem dHeard_ok : SeqAt.shaped dHeard = true ∧ PyData.eqv dHeard dHeard = true := ⟨by decide +kernel, by decide +kernel⟩
theorem dp_heard {H : Hp} {L t1 t2 t3 : Addr} (hL : H L = some (.lst [.ref t1, .ref t2, .ref t3])) (h1 : H t1 = some (.tup [.str "ring", .str "ring"])) (h2 : H t2 = some (.tup [.str "lineup", .str "lineup"])) (h3 : H t3 = some (.tup [.str "misfit", .str "bars"])) : Dp K H (.ref L) dHeard :=
  .lst (Evl.sq_of hL) (.cons (.tup (Evl.st_of h1) (.cons (.str _) (.cons (.str _) .nil))) (.cons (.tup (Evl.st_of h2) (.cons (.str _) (.cons (.str _) .nil))) (.cons (.tup (Evl.st_of h3) (.cons (.str _) (.cons (.str _) .nil))) .nil)))
/-- a ring is asked of what is none, a line-up likewise -/
theorem lam_err {H1 : Hp} {v1 v2 : V} {x p wd : Str} {Q : VK} (hR : Refuse K H1 v1 v2 x p) (hk : Kind x wd) (q : ∀ t H', Same H1 H' → H' t = some (.tup [.str wd, .str p]) → Q (.ref t) H') :
    ∀ Z : VK, spCanX K [v1, v2] H1 Z (fun cls d H' => ∃ (dd : Addr) (x wd p : Str), cls = .ref (CC K x) ∧ d = some dd ∧ H' dd = some (.xd [("part", .str p)]) ∧ Kind x wd ∧ ∀ t H'', Same H' H'' → H'' t = some (.tup [.str wd, .str p]) → Q (.ref t) H'') :=
  fun Z => ⟨v1, v2, x, p, rfl, hR, fun d H' e' hd => ⟨d, x, wd, p, rfl, rfl, hd, hk, fun t H'' e'' ht => q t H'' (e'.trans e'') ht⟩⟩
theorem lam_call {i j : Nat} {Tl : List (Addr × Str)} {σ : L2.St} {H : Hp} {Q : VK} {v1 v2 : V} (hi : σ[i]? = some (some v1)) (hj : σ[j]? = some (some v2)) (hT : LamX.Tabs Tl H)
    (k : ∀ H1, LamX.ExtN H H1 → LamX.Tabs Tl H1 → ∃ x p wd : Str, Refuse K H1 v1 v2 x p ∧ Kind x wd ∧ ∀ t H', Same H1 H' → H' t = some (.tup [.str wd, .str p]) → Q (.ref t) H') :
    LamX.tLam Tl (THeard K) (fun E => tCall (spCanX K) [] E (tCons (tVar i) (tCons (tVar j) tNil))) σ H Q :=
  ⟨hT, fun H1 e1 T1 Z => by
    obtain ⟨x, p, wd, h1, h2, h3⟩ := k H1 e1 T1
    exact ⟨_, hi, _, hj, lam_err h1 h2 h3 Z⟩⟩
def qLam : Str := (envOfC "_law_refused_right" (defScope s_law_refused_right) 0 0 .none).qual ++ "<lambda>"
def tabT (Pt : Addr) : List (Addr × Str) := [(Pt, qLam)]
theorem tabU (Pt : Addr) : ∀ p ∈ tabT Pt, p.1 = Pt → p.2 = qLam := fun p hp _ => by rw [List.mem_singleton.mp hp]
def spRefused (K : PySem.W.Frag) (Pt : Addr) : Sp := fun vs H Q _ => ∃ b c vl v n ns ss, vs = [.ref b, vl, v] ∧ Bench b c n H ∧ n < 80000 ∧ rInts (del H b) vl ns ∧ LensOk ns ∧ rStrands (del H b) v ss ∧ StrandsOk ns.length ss ∧ H Pt = some (.tbl #[]) ∧ ∀ H', Q (.bl true) H'
theorem G_law_refused_right (T : Tx P K mg) {c Pt f : Addr} {fd : FuncData} (TB : LamX.TabB base mg c Pt) (hm : mg "_law_refused_right" = some (.ref f)) (F : FunD K "_law_refused_right" "_law_refused_right" (defArgs s_law_refused_right) (defBody s_law_refused_right) (defScope s_law_refused_right) [] [] f fd)
    (hcode : ∀ oc od fd' osl, K.lookup f = some ⟨oc, od, .func fd', osl⟩ → fd'.code = .ref c) : DefOk P w K mg base CX0 9 "_law_refused_right" (spRefused K Pt) := by
  obtain ⟨gH, fdH, hmH, FH⟩ := T.d_law_heard.ex
  have bH := b_law_heard FH
  obtain ⟨ocH, odH, dVH, kVH, docH, pmH, anH, cdvH, ctH, oslH, rfl, lkH, hcH, _, _⟩ := FH.ex
  have nd := sc_law_refused_right.nd
  have hb := b_law_refused_right F
  obtain ⟨oc, od, dV, kV, doc, pm, an, cdv, ct, osl, rfl, lk, hcd, _, _⟩ := F.ex
  obtain rfl : cdv = .ref c := hcode _ _ _ _ lk
  refine ⟨f, _, _, hm, F.kp, hb, fn_of lk hcd sc_law_refused_right (fun vs H Q E h => ?_) (fun A outer s H vs Q E hr h => ⟨_, PSs.nox 
      (pss_cons (ps_asg (pe_tup (pa_cons (pe_callD (G_law_pick T) (hr.mono (by decide)) rfl pass0 (pa_cons (pv 0) (pa_cons (pe_lst (pa_cons pe_non (pa_cons pe_int (pa_cons (pv 1) (pa_cons pe_str pa_nil))))) pa_nil))) (pa_cons (pe_makeD (M_Ring T) (hr.mono (by decide)) rfl pass0 (pa_cons (pv 1) pa_nil)) (pa_cons (pe_makeD (M_LineUp T) (hr.mono (by decide)) rfl pass0 (pa_cons (pv 2) pa_nil)) pa_nil)))) (pg_tupK K (n := 3) rfl (pgs_cons (pg_name (i := 7) nd rfl (Or.inr rfl)) (pgs_cons (pg_name (i := 8) nd rfl (Or.inr rfl)) (pgs_cons (pg_name (i := 3) nd rfl (Or.inl rfl)) pgs_nil))))) 
      (pss_cons (ps_asg (pe_tup (pa_cons (pe_callD (G_law_pick T) (hr.mono (by decide)) rfl pass0 (pa_cons (pv 0) (pa_cons (pe_lst (pa_cons pe_non (pa_cons (pv 2) (pa_cons (pe_callTy (call_strB (k := 2) (hr.mono (by decide)) (S_LineUp T)) rfl T.f_str (by decide +kernel) (pa_cons (pv 3) pa_nil)) (pa_cons pe_bl pa_nil))))) pa_nil))) (pa_cons (pe_callB (call_lenK K) rfl T.f_len (by decide +kernel) (pa_cons (pv 1) pa_nil)) pa_nil))) (pg_tupK K (n := 2) rfl (pgs_cons (pg_name (i := 6) nd rfl (Or.inr rfl)) (pgs_cons (pg_name (i := 4) nd rfl (Or.inl rfl)) pgs_nil)))) 
      (pss_cons (ps_set (i := 9) nd rfl (Or.inr rfl) (pe_makeD (M_LineUp T) (hr.mono (by decide)) rfl pass0 (pa_cons (pe_lst (pa_cons (pe_lc (own := [(("_law_bar" : Str), 10)]) rfl nd (pi_range1 rfl T.f_range (pa_cons (pe_ifExp (pt_cmpR op_lt (pv 4) pe_int (nomark _)) (pe_op op_add (pv 4) pe_int) (pe_op op_sub (pv 4) pe_int)) pa_nil)) (blkOk_by (own := [(("_law_bar" : Str), 10)]) (N := N_law_refused_right) (sc := defScope s_law_refused_right) (by decide +kernel)) (fun _ _ _ _ _ => pg_name (i := 10) nd rfl (Or.inl rfl)) (fun _ _ _ _ _ => pts_nil) (fun _ _ _ _ _ => (pe_tup (pa_cons (pv 10) (pa_cons pe_int pa_nil))))) pa_nil)) pa_nil))) 
      (pss_cons (ps_set (i := 5) nd rfl (Or.inl rfl) (pe_lst (pa_cons (LamX.pe_lamcall (T := tabT Pt) (TT := THeard K) (k := 4) (t := fun E => tCall (spCanX K) [] E (tCons (tVar 7) (tCons (tVar 6) tNil))) rfl hmH FH.kp lkH hcH bH sc_law_heard rfl (Or.inl rfl) (heard_gives T) TB rfl (List.mem_singleton.mpr rfl) (tabU Pt) (hr.mono (by decide)) (LamX.lamS_by (sc := defScope s_law_refused_right) (by decide +kernel)) rfl (fun _ _ _ _ _ => rfl) (fun A outer s H E f c' hr2 => pe_callD (X_can_line T) hr2 rfl (passes_call (takes_of rfl rfl rfl rfl) (fun _ _ _ _ z => z)) (pa_cons (pv 7) (pa_cons (pv 6) pa_nil)))) pa_nil))) 
      (pss_cons (ps_expr (pe_bm PySem.F.plainAttrs_list PySem.F.slot_list_append PySem.F.type_list_append mt_append (pv 5) (pa_cons (LamX.pe_lamcall (T := tabT Pt) (TT := THeard K) (k := 4) (t := fun E => tCall (spCanX K) [] E (tCons (tVar 8) (tCons (tVar 6) tNil))) rfl hmH FH.kp lkH hcH bH sc_law_heard rfl (Or.inl rfl) (heard_gives T) TB rfl (List.mem_singleton.mpr rfl) (tabU Pt) (hr.mono (by decide)) (LamX.lamS_by (sc := defScope s_law_refused_right) (by decide +kernel)) rfl (fun _ _ _ _ _ => rfl) (fun A outer s H E f c' hr2 => pe_callD (X_can_line T) hr2 rfl (passes_call (takes_of rfl rfl rfl rfl) (fun _ _ _ _ z => z)) (pa_cons (pv 8) (pa_cons (pv 6) pa_nil)))) pa_nil))) 
      (pss_cons (ps_expr (pe_bm PySem.F.plainAttrs_list PySem.F.slot_list_append PySem.F.type_list_append mt_append (pv 5) (pa_cons (LamX.pe_lamcall (T := tabT Pt) (TT := THeard K) (k := 4) (t := fun E => tCall (spCanX K) [] E (tCons (tVar 8) (tCons (tVar 9) tNil))) rfl hmH FH.kp lkH hcH bH sc_law_heard rfl (Or.inl rfl) (heard_gives T) TB rfl (List.mem_singleton.mpr rfl) (tabU Pt) (hr.mono (by decide)) (LamX.lamS_by (sc := defScope s_law_refused_right) (by decide +kernel)) rfl (fun _ _ _ _ _ => rfl) (fun A outer s H E f c' hr2 => pe_callD (X_can_line T) hr2 rfl (passes_call (takes_of rfl rfl rfl rfl) (fun _ _ _ _ z => z)) (pa_cons (pv 8) (pa_cons (pv 9) pa_nil)))) pa_nil))) 
      (pss_one (ps_ret (pe_cmpR (op_eqD hr.units) (pv 5) (pe_lst (pa_cons (pe_tup (pa_cons pe_str (pa_cons pe_str pa_nil))) (pa_cons (pe_tup (pa_cons pe_str (pa_cons pe_str pa_nil))) (pa_cons (pe_tup (pa_cons pe_str (pa_cons pe_str pa_nil))) pa_nil)))) (nomark _)))))))))), ?_⟩)⟩
  · obtain ⟨b, c, vl, v, n, ns, ss, rfl, _⟩ := h; rfl
  · obtain ⟨b, c2, vl, v, n, ns, ss, rfl, hb, hn, hvl, hlok, hv, hok, hPt, q⟩ := h
    obtain ⟨l, rfl, hlb, hl⟩ := ints_list hvl
    obtain ⟨p0, xs, rfl, hpb, hp0, hps⟩ := strands_list hv
    have h8 := hlok.2.2
    have hPb : Pt ≠ b := by
      obtain ⟨yy, hyy⟩ := hb.lst
      exact ne_of hPt hyy (fun z => nomatch z)
    -- odd, ring, lineup
    refine seq_ (asg_ ⟨_, rfl, _, rfl, (by show 4 ≤ sizeLine; decide), fun a0 ha0 => ⟨b, c2, a0, _, n, rfl, hb.same (new_same ha0), by omega, upd_same, (hb.fresh ha0).1, (fun z => nomatch z), (by show 4 ≤ 100; decide), fun odd H1 hodd hb1 hB1 => ?_⟩⟩)
    have hB01 : But b H H1 := (But.of (new_same ha0)).trans hB1
    refine cons_ (mk_Ring fun Z z => ⟨_, rfl, z _ _ ns (Mn.mn del_in (Mn.mn hB01 hvl)) hlok fun vR H2 e2 hR => cons_ (mk_Line fun Z z => ⟨_, rfl, z _ _ _ ss (Mn.mn e2 (Mn.mn del_in (Mn.mn hB01 hv))) hok fun vL H3 e3 hL => ⟨(by show 3 ≤ sizeLine; decide), fun t1 ht1 => ?_⟩⟩)⟩)
    have e4 := new_same (o := .tup [odd, vR, vL]) ht1
    refine ⟨t1, _, rfl, Evl.st_of upd_same, rfl, _, _, rfl, _, _, rfl, _, _, rfl, rfl, ?_⟩
    dsimp only
    have hR4 := Mn.mn (e3.trans e4) hR
    have hL4 := Mn.mn e4 hL
    have hB04 : But b H (upd H3 t1 (.tup [odd, vR, vL])) := hB01.trans (But.of ((e2.trans e3).trans e4))
    have hb4 := hb1.same ((e2.trans e3).trans e4)
    generalize upd H3 t1 (.tup [odd, vR, vL]) = G1 at hR4 hL4 hB04 hb4 ⊢
    have hoddA : ∀ G : Hp, G l = some (.lst (ns.map V.int)) → NotA K "Ring" G odd := fun G hG => by
      simp only [List.mem_cons, List.not_mem_nil, or_false] at hodd
      rcases hodd with rfl | rfl | rfl | rfl
      · exact ⟨_, .base .non, T.ko_NoneType_Ring⟩
      · exact ⟨_, .base (.int _), T.ko_int_Ring⟩
      · exact ⟨_, .base (.lst hG), T.ko_list_Ring⟩
      · exact ⟨_, .base (.str _), T.ko_str_Ring⟩
    -- bad, many
    have ⟨ox, odx, ots, otl, eo, hox, _, _⟩ := hL4
    subst eo
    refine seq_ (asg_ ⟨_, rfl, _, rfl, _, rfl, ox, odx, _, rfl, hox, .ref ox, _, ss, rfl, hL4, hok, fun z H5 e5 => ⟨z, rfl, (by show 4 ≤ sizeLine; decide), fun a1 ha1 => ⟨b, c2, a1, _, n + 1, rfl, (hb4.same e5).same (new_same ha1), by omega, upd_same, ((hb4.same e5).fresh ha1).1, (fun z => nomatch z), (by show 4 ≤ 100; decide), fun bad H6 hbad hb6 hB6 => ?_⟩⟩⟩)
    have hB46 : But b G1 H6 := (But.of (e5.trans (new_same ha1))).trans hB6
    have hB06 := hB04.trans hB46
    have hl6 := hB06.at hlb hl
    refine ⟨_, rfl, l, _, rfl, Or.inl (Evl.sq_of hl6), sz2, fun t2 ht2 => ?_⟩
    rw [List.length_map]
    have e7 := new_same (o := .tup [bad, .int (ns.length : Nat)]) ht2
    refine ⟨t2, _, rfl, Evl.st_of upd_same, rfl, _, _, rfl, _, _, rfl, rfl, ?_⟩
    dsimp only
    obtain ⟨xb4, hxb4⟩ := hb4.lst
    have hR7 := Mn.mn e7 (hB46.rl hxb4 hR4)
    have hL7 := Mn.mn e7 (hB46.rl hxb4 hL4)
    have hB07 : But b H (upd H6 t2 (.tup [bad, .int (ns.length : Nat)])) := hB06.trans (But.of e7)
    generalize upd H6 t2 (.tup [bad, .int (ns.length : Nat)]) = G2 at hR7 hL7 hB07 ⊢
    have hp7 := hB07.at hpb hp0
    have hbadA : ∀ G : Hp, G p0 = some (.lst xs) → NotA K "LineUp" G bad := fun G hG => by
      simp only [List.mem_cons, List.not_mem_nil, or_false] at hbad
      rcases hbad with rfl | rfl | rfl | rfl
      · exact ⟨_, .base .non, T.ko_NoneType_LineUp⟩
      · exact ⟨_, .base (.lst hG), T.ko_list_LineUp⟩
      · exact ⟨_, .base (.str _), T.ko_str_LineUp⟩
      · exact ⟨_, .base (.bl _), T.ko_bool_LineUp⟩
    have hl7 := hB07.at hlb hl
    have hPt7 := hB07.at hPb hPt
    -- wide
    obtain ⟨m', hm', hne'⟩ : ∃ m' : Nat, (m' : Int) = (if (ns.length : Int) < 8 then (ns.length : Int) + 1 else (ns.length : Int) - 1) ∧ m' ≠ ns.length := by
      by_cases h : (ns.length : Int) < 8
      · exact ⟨ns.length + 1, by rw [if_pos h]; omega, by omega⟩
      · exact ⟨ns.length - 1, by rw [if_neg h]; omega, by omega⟩
    have hm8 : 3 ≤ m' ∧ m' ≤ 8 := by
      by_cases h : (ns.length : Int) < 8
      · rw [if_pos h] at hm'
        have := hlok.2.1
        omega
      · rw [if_neg h] at hm'
        omega
    have hwok : StrandsOk m' [(rngI 0 m').map fun i => (i, (1 : Int))] := by
      refine ⟨fun st hst => ?_, ?_, hm8⟩
      · rw [List.mem_singleton.mp hst]
        refine ⟨fun z => ?_, fun p hp => ?_⟩
        · have := congrArg List.length z
          rw [List.length_map, rngI_len, List.length_nil] at this
          omega
        · obtain ⟨i, _, rfl⟩ := List.mem_map.mp hp
          exact Or.inl rfl
      · simp only [List.flatten_cons, List.flatten_nil, List.append_nil, List.map_map]
        exact List.Perm.of_eq (List.map_id' _)
    refine q_set (mk_Line fun Z z => cons_ (rd_lcRg (n := m') (RO := rPair) (fun i => (i, (1 : Int))) (fun R r => ?_) (by omega) (fun i hi H8 Z8 e8 k => ⟨rfl, _, rfl, sz2, fun l2 hl2 => k _ _ (new_same hl2) ⟨l2, rfl, upd_same⟩⟩) (fun v8 H8 e8 h8 => ⟨(by show 1 ≤ sizeLine; decide), fun L0 hL0 => z _ _ m' [(rngI 0 m').map fun i => (i, (1 : Int))] ⟨L0, _, rfl, upd_same, .cons (Mn.mn (new_same hL0) h8) .nil⟩ hwok fun vW H9 e9 hW => ?_⟩)))
    · refine cons_ ⟨_, rfl, _, 8, rfl, rfl, _, rfl, ?_⟩
      by_cases h : (ns.length : Int) < 8
      · rw [if_pos h] at hm'
        refine ifT (decide_eq_true h) ⟨_, rfl, _, 1, rfl, rfl, _, rfl, by omega, by omega, ?_⟩
        rw [← hm']
        exact r
      · rw [if_neg h] at hm'
        refine ifF (decide_eq_false h) ⟨_, rfl, _, 1, rfl, rfl, _, rfl, by omega, by omega, ?_⟩
        rw [← hm']
        exact r
    · have e79 := (e8.trans (new_same (o := .lst [v8]) hL0)).trans e9
      have hR9 := Mn.mn e79 hR7
      have hL9 := Mn.mn e79 hL7
      have hl9 := e79 _ _ hl7
      have hp9 := e79 _ _ hp7
      have T9 : LamX.Tabs (tabT Pt) H9 := fun pp hpp => by
        rw [List.mem_singleton.mp hpp]
        exact LamX.TabS.nil (e79 _ _ hPt7)
      have hmW : manyOf [(rngI 0 m').map fun i => (i, (1 : Int))] ≠ (ns.length : Int) := by
        rw [manyOf_eq, hwok.flen]
        omega
      -- the first
      refine q_set (cons_ (lam_call rfl rfl T9 fun H10 e10 T10 => ⟨"BadRing", "ring", "ring", Or.inl ⟨hoddA _ (e10 _ _ hl9 (fun _ z => nomatch z)), rfl, rfl⟩, Or.inl ⟨rfl, rfl⟩, fun u1 H11 e11 hu1 => ?_⟩))
      refine ⟨(by show 1 ≤ sizeLine; decide), fun L hL => ?_⟩
      have e12 := new_same (o := .lst [.ref u1]) hL
      have T12 := (T10.ext e11).ext e12
      have hR12 := Mn.mn (e11.trans e12) (Nn.ext e10 hR9)
      have hW12 := Mn.mn (e11.trans e12) (Nn.ext e10 hW)
      have hp12 := e12 _ _ (e11 _ _ (e10 _ _ hp9 (fun _ z => nomatch z)))
      have hu12 := e12 _ _ hu1
      have hL12 : upd H11 L (.lst [.ref u1]) L = some (.lst [.ref u1]) := upd_same
      generalize upd H11 L (.lst [.ref u1]) = J at T12 hR12 hW12 hp12 hu12 hL12 ⊢
      -- the second
      refine q_drop ⟨_, rfl, Or.inl ⟨rfl, _, Evl.sq_of hL12⟩, cons_ (lam_call rfl rfl T12 fun H13 e13 T13 => ⟨"BadLineUp", "lineup", "lineup", Or.inr (Or.inl ⟨ns, Nn.ext e13 hR12, hbadA _ (e13 _ _ hp12 (fun _ z => nomatch z)), rfl, rfl⟩), Or.inr (Or.inl ⟨rfl, rfl⟩), fun u2 H14 e14 hu2 => ?_⟩)⟩
      have hL14 := e14 _ _ (e13 _ _ hL12 (fun _ z => nomatch z))
      refine ⟨L, _, _, rfl, rfl, hL14, Evl.sz_lt (by show 1 < 100000; decide), ?_⟩
      have hu14 := e14 _ _ (e13 _ _ hu12 (fun _ z => nomatch z))
      have hne1 : u1 ≠ L := ne_of hu14 hL14 (fun z => nomatch z)
      have hne2 : u2 ≠ L := ne_of hu2 hL14 (fun z => nomatch z)
      have T14 := T13.ext e14
      have hR14 := Mn.mn e14 (Nn.ext e13 hR12)
      have hW14 := Mn.mn e14 (Nn.ext e13 hW12)
      have hR15 : rRing K (upd H14 L (.lst ([.ref u1] ++ [.ref u2]))) vR ns := upd_rl hL14 hR14
      have hW15 : rLine K (upd H14 L (.lst ([.ref u1] ++ [.ref u2]))) vW [(rngI 0 m').map fun i => (i, (1 : Int))] := upd_rl hL14 hW14
      have hA15 : upd H14 L (.lst ([.ref u1] ++ [.ref u2])) u1 = some (.tup [.str "ring", .str "ring"]) := by rw [upd_ne hne1]; exact hu14
      have hB15 : upd H14 L (.lst ([.ref u1] ++ [.ref u2])) u2 = some (.tup [.str "lineup", .str "lineup"]) := by rw [upd_ne hne2]; exact hu2
      have hL15 : upd H14 L (.lst ([.ref u1] ++ [.ref u2])) L = some (.lst [.ref u1, .ref u2]) := upd_same
      have T15 : LamX.Tabs (tabT Pt) (upd H14 L (.lst ([.ref u1] ++ [.ref u2]))) := fun pp hpp => by
        obtain ⟨ps, k1, k2, k3⟩ := T14 pp hpp
        have hnn : pp.1 ≠ L := ne_of k1 hL14 (fun z => nomatch z)
        refine ⟨ps, by rw [upd_ne hnn]; exact k1, k2, fun pos cv hc => ?_⟩
        obtain ⟨c0, k4, k5⟩ := k3 pos cv hc
        have hnc : c0 ≠ L := by
          refine ne_of k5 hL14 (fun z => ?_)
          unfold LamX.CodeO at z
          cases z
        exact ⟨c0, k4, by rw [upd_ne hnc]; exact k5⟩
      dsimp only
      generalize upd H14 L (.lst ([.ref u1] ++ [.ref u2])) = J2 at T15 hR15 hW15 hA15 hB15 hL15 ⊢
      -- the third
      refine q_drop ⟨_, rfl, Or.inl ⟨rfl, _, Evl.sq_of hL15⟩, cons_ (lam_call rfl rfl T15 fun H16 e16 T16 => ⟨"Misfit", "bars", "misfit", Or.inr (Or.inr ⟨ns, _, Nn.ext e16 hR15, Nn.ext e16 hW15, hmW, rfl, rfl⟩), Or.inr (Or.inr ⟨rfl, rfl⟩), fun u3 H17 e17 hu3 => ?_⟩)⟩
      have hL17 := e17 _ _ (e16 _ _ hL15 (fun _ z => nomatch z))
      refine ⟨L, _, _, rfl, rfl, hL17, Evl.sz_lt (by show 2 < 100000; decide), ?_⟩
      have hA17 := e17 _ _ (e16 _ _ hA15 (fun _ z => nomatch z))
      have hB17 := e17 _ _ (e16 _ _ hB15 (fun _ z => nomatch z))
      have hne3 : u3 ≠ L := ne_of hu3 hL17 (fun z => nomatch z)
      have hA18 : upd H17 L (.lst ([.ref u1, .ref u2] ++ [.ref u3])) u1 = some (.tup [.str "ring", .str "ring"]) := by rw [upd_ne hne1]; exact hA17
      have hB18 : upd H17 L (.lst ([.ref u1, .ref u2] ++ [.ref u3])) u2 = some (.tup [.str "lineup", .str "lineup"]) := by rw [upd_ne hne2]; exact hB17
      have hC18 : upd H17 L (.lst ([.ref u1, .ref u2] ++ [.ref u3])) u3 = some (.tup [.str "misfit", .str "bars"]) := by rw [upd_ne hne3]; exact hu3
      have hL18 : upd H17 L (.lst ([.ref u1, .ref u2] ++ [.ref u3])) L = some (.lst [.ref u1, .ref u2, .ref u3]) := upd_same
      dsimp only
      generalize upd H17 L (.lst ([.ref u1, .ref u2] ++ [.ref u3])) = J3 at hA18 hB18 hC18 hL18 ⊢
      refine ret_ ⟨_, rfl, sz2, fun w1 hw1 => ⟨sz2, fun w2 hw2 => ⟨sz2, fun w3 hw3 => ⟨(by show 3 ≤ sizeLine; decide), fun w4 hw4 => ?_⟩⟩⟩⟩
      have f1 := new_same (o := .tup [.str "ring", .str "ring"]) hw1
      have f2 := new_same (o := .tup [.str "lineup", .str "lineup"]) hw2
      have f3 := new_same (o := .tup [.str "misfit", .str "bars"]) hw3
      have f4 := new_same (o := .lst [.ref w1, .ref w2, .ref w3]) hw4
      have f14 := ((f1.trans f2).trans f3).trans f4
      refine ⟨dHeard, dHeard, dp_heard (f14 _ _ hL18) (f14 _ _ hA18) (f14 _ _ hB18) (f14 _ _ hC18), dp_heard upd_same (((f2.trans f3).trans f4) _ _ upd_same) ((f3.trans f4) _ _ upd_same) (f4 _ _ upd_same), dHeard_ok.1, dHeard_ok.1, ?_⟩
      rw [dHeard_ok.2]
      exact q _
end KB

-- part KG1
namespace KB
open PySem PySem.Spec PyProof.Rows L2
variable {P : Program} {w : World} {K : PySem.W.Frag} {mg : Str → Option Value} {base : Heap}
theorem rd_can {i j : Nat} {σ : L2.St} {H : Hp} {Q : VK} {vl v : V} {ns : List Int} {ss : List (List Pr)} (hi : σ[i]? = some (some vl)) (hj : σ[j]? = some (some v)) (hl : rInts H vl ns) (hok : LensOk ns) (hv : rStrands H v ss) (hss : StrandsOk ns.length ss) (k : ∀ vt H', Same H H' → rCan K ns ss H' vt → Q vt H') :
    tCall (spCan K) [] E0 (tCons (tMake (CC K "Ring") (spRingI K) [] E0 (tCons (tVar i) tNil)) (tCons (tMake (CC K "LineUp") (spLineI K) [] E0 (tCons (tVar j) tNil)) tNil)) σ H Q := by
  refine call_ (cons_ (mk_Ring fun Z z => ⟨_, hi, z _ _ ns hl hok fun vR H3 e3 hR => cons_ (mk_Line fun Z z => ⟨_, hj, z _ _ _ ss (Mn.mn e3 hv) hss fun vL H4 e4 hL => ?_⟩)⟩))
  exact ⟨vR, vL, ns, ss, rfl, Mn.mn e4 hR, hL, hok, hss, fun vt H5 e5 hC => k vt H5 ((e3.trans e4).trans e5) hC⟩
theorem can_truth {X : Cx} {H : Hp} {vt : V} {ns : List Int} {ss : List (List Pr)} {Q : Bool → Hp → Prop} (T : Tx X.prog X.K X.mg) (h : rCan X.K ns ss H vt) (q : Q (decide (greats (netsOf ns ss) = [])) H) : rTruB X 1 vt H Q := by
  rcases h with ⟨h1, x, dx, p, t, rfl, h2, _⟩ | ⟨j, r, x, st, h1, _, _, _, x', dx, p, t, rfl, h2, _⟩
  · rw [decide_eq_true h1] at q
    exact ⟨x, _, dx, _, true, rfl, h2, B_Nets T, q⟩
  · rw [h1, decide_eq_false (fun z => nomatch z)] at q
    exact ⟨x', _, dx, _, false, rfl, h2, B_TG T, q⟩
theorem q_ifP {c : TT} {te : TE} {i : Nat} {u : TS} {D : Ends} {σ : L2.St} {H : Hp} (Pv : V → Hp → Prop) (v0 : V) (hσ : σ.set i (some v0) = σ) (hc : ∀ Z : Bool → Hp → Prop, (∀ bb, Z bb H) → c σ H Z) (ht : ∀ Z : VK, (∀ v H1, Pv v H1 → Z v H1) → te σ H Z) (h0 : Pv v0 H) (k : ∀ v H1, Pv v H1 → u D (σ.set i (some v)) H1) :
    tSeq (tIfS c (tAsg te (gName i)) tNext) u D σ H := by
  refine q_ifa (hc _ fun bb => ?_)
  cases bb with
  | true => exact ifT rfl (ht _ k)
  | false =>
    refine ifF rfl ?_
    have h := k v0 H h0
    rwa [hσ] at h
theorem s_skip {c : TT} {t : TS} {D : Ends} {σ : L2.St} {H : Hp} (hc : ∀ Z : Bool → Hp → Prop, (∀ H1, Same H H1 → Z false H1) → c σ H Z) (k : ∀ H1, Same H H1 → D.nx σ H1) : tIfS c t tNext D σ H :=
  hc (fun b H1 => if b = true then t D σ H1 else D.nx σ H1) fun H1 e => ifF rfl (k H1 e)
theorem and_t {t u : TT} {σ : L2.St} {H : Hp} {Q : Bool → Hp → Prop} (h : t σ H fun c H1 => if c = true then u σ H1 Q else Q false H1) : tAnd t u σ H Q := h
theorem not_t {t : TT} {σ : L2.St} {H : Hp} {Q : Bool → Hp → Prop} (h : t σ H fun c H1 => Q (!c) H1) : tNot t σ H Q := h
theorem tB_ {t : TE} {σ : L2.St} {H : Hp} {Q : Bool → Hp → Prop} (h : t σ H fun x H1 => ∃ c, x = .bl c ∧ Q c H1) : tB t σ H Q := h
theorem fld_ {ta : TE} {f : Str} {σ : L2.St} {H : Hp} {Q : VK} (h : ta σ H fun x H1 => ∃ a C dx fs v, x = V.ref a ∧ H1 a = some (.ins C dx fs) ∧ Cls K C ∧ NoAttr K C f ∧ fs.lookup f = some v ∧ Q v H1) : tFld K ta f σ H Q := h
def spLaw (K : PySem.W.Frag) (Pt : Addr) : Sp := fun vs H Q _ => ∃ (s : Addr) (ns : List Int), vs = [.ref s] ∧ SqL K H s (ns.map V.int) ∧ H Pt = some (.tbl #[]) ∧ ∀ H', Q (.bl true) H'
theorem ok_law (T : Tx P K mg) {f Pt : Addr} {fd : FuncData} (F : FunD K "law" "law" (defArgs s_law) (defBody s_law) (defScope s_law) [] [] f fd) (GR : DefOk P w K mg base CX0 9 "_law_refused_right" (spRefused K Pt)) : FnOk P w K mg base CX0 10 f fd ["_law_script"] (spLaw K Pt) := by
  have nd := sc_law.nd
  refine F.ok sc_law (fun vs H Q E h => ?_) (fun cdv A outer s H vs Q E hr h => ⟨_, PSs.nox 
      (pss_cons (ps_set (i := 1) nd rfl (Or.inl rfl) (pe_callD (G_law_bench T) (hr.mono (by decide)) rfl pass0 (pa_cons (pv 0) pa_nil))) 
      (pss_cons (ps_for PassesOwn.never rfl (pi_range1 rfl T.f_range (pa_cons pe_int pa_nil)) (pg_name (i := 2) nd rfl (Or.inl rfl)) 
          (pss_cons (ps_set (i := 3) nd rfl (Or.inl rfl) (pe_callD (G_law_pick T) (hr.mono (by decide)) rfl pass0 (pa_cons (pv 1) (pa_cons (pe_lst (pa_cons pe_int (pa_cons pe_int (pa_cons pe_int (pa_cons pe_int (pa_cons pe_int (pa_cons pe_int (pa_cons pe_int pa_nil)))))))) pa_nil)))) 
          (pss_cons (ps_par (i := 4) (j := 5) rfl nd rfl rfl (by decide) rfl rfl (pa_cons (pe_callD (G_law_lengths T) (hr.mono (by decide)) rfl pass0 (pa_cons (pv 1) (pa_cons (pv 3) pa_nil))) (pa_cons (pe_callD (G_law_strands T) (hr.mono (by decide)) rfl pass0 (pa_cons (pv 1) (pa_cons (pv 3) pa_nil))) pa_nil)) (by rfl)) 
          (pss_cons (ps_if (pt_cmpR op_gt (pv 2) pe_int (nomark _)) 
              (pss_one (ps_set (i := 4) nd rfl (Or.inl rfl) (pe_callD (G_law_pulled T) (hr.mono (by decide)) rfl pass0 (pa_cons (pv 1) (pa_cons (pv 4) (pa_cons (pv 5) pa_nil)))))) pss_nil) 
          (pss_cons (ps_if (PW.pt (pw_or (pt_not (pt_val (pe_callD (G_law_paper_right T) (hr.mono (by decide)) rfl pass0 (pa_cons (pv 4) (pa_cons (pv 5) pa_nil))))) (pw_or1 (pt_not (pt_val (pe_callD (G_law_renumbered_right T) (hr.mono (by decide)) rfl pass0 (pa_cons (pv 1) (pa_cons (pv 4) (pa_cons (pv 5) pa_nil))))))))) 
              (pss_one (ps_ret pe_bl)) pss_nil) 
          (pss_cons (ps_for PassesOwn.never rfl (pi_range1 rfl T.f_range (pa_cons pe_int pa_nil)) (pg_name (i := 6) nd rfl (Or.inl rfl)) 
              (pss_cons (ps_set (i := 7) nd rfl (Or.inl rfl) (pe_callD (G_law_parted T) (hr.mono (by decide)) rfl pass0 (pa_cons (pv 1) (pa_cons (pv 5) pa_nil)))) 
              (pss_cons (ps_if (pt_not (pt_val (pe_callD (G_law_paper_right T) (hr.mono (by decide)) rfl pass0 (pa_cons (pv 4) (pa_cons (pv 7) pa_nil))))) 
                  (pss_one (ps_ret pe_bl)) pss_nil) 
              (pss_cons (ps_if (PW.pt (pw_and (pt_truthB (k := 1) (hr.mono (by decide)) (pe_callD (G_can_line T) (hr.mono (by decide)) rfl pass0 (pa_cons (pe_makeD (M_Ring T) (hr.mono (by decide)) rfl pass0 (pa_cons (pv 4) pa_nil)) (pa_cons (pe_makeD (M_LineUp T) (hr.mono (by decide)) rfl pass0 (pa_cons (pv 5) pa_nil)) pa_nil))) (by intro _; rfl)) (pw_and1 (pt_not (pt_truthB (k := 1) (hr.mono (by decide)) (pe_callD (G_can_line T) (hr.mono (by decide)) rfl pass0 (pa_cons (pe_makeD (M_Ring T) (hr.mono (by decide)) rfl pass0 (pa_cons (pv 4) pa_nil)) (pa_cons (pe_makeD (M_LineUp T) (hr.mono (by decide)) rfl pass0 (pa_cons (pv 7) pa_nil)) pa_nil))) (by intro _; rfl)))))) 
                  (pss_one (ps_ret pe_bl)) pss_nil) 
              (pss_one (ps_set (i := 5) nd rfl (Or.inl rfl) (pv 7))))))) 
          (pss_one (ps_if (PW.pt (pw_and (pt_truthB (k := 1) (hr.mono (by decide)) (pe_callD (G_can_line T) (hr.mono (by decide)) rfl pass0 (pa_cons (pe_makeD (M_Ring T) (hr.mono (by decide)) rfl pass0 (pa_cons (pv 4) pa_nil)) (pa_cons (pe_makeD (M_LineUp T) (hr.mono (by decide)) rfl pass0 (pa_cons (pv 5) pa_nil)) pa_nil))) (by intro _; rfl)) (pw_and1 (pt_not (pt_val (pe_fldK K (pe_makeD (M_Ring T) (hr.mono (by decide)) rfl pass0 (pa_cons (pv 4) pa_nil)) rfl)))))) 
              (pss_one (ps_ret pe_bl)) pss_nil)))))))) 
      (pss_one (ps_ret (pe_callD GR (hr.mono (by decide)) rfl pass0 (pa_cons (pv 1) (pa_cons (pv 4) (pa_cons (pv 5) pa_nil)))))))), ?_⟩)
  · obtain ⟨s, ns, rfl, _⟩ := h; rfl
  · obtain ⟨s0, ns0, rfl, hs0, hPt, q⟩ := h
    refine q_set ⟨_, rfl, s0, ns0, rfl, hs0, fun b c H1 e1 hb0 hb => ?_⟩
    have hPt1 := e1 _ _ hPt
    refine seq_ (rd_forR (n := 4) (fun R r => ⟨4, rfl, by decide, by decide, r⟩)
      (fun i σ H' => ∃ x2 x3 x4 x5 x6 x7, σ = [some (.ref s0), some (.ref b), x2, x3, x4, x5, x6, x7] ∧ Bench b c (100 * i) H' ∧ H' Pt = some (.tbl #[]) ∧ (0 < i → ∃ vl v ns ss, x4 = some vl ∧ x5 = some v ∧ rInts (del H' b) vl ns ∧ LensOk ns ∧ rStrands (del H' b) v ss ∧ StrandsOk ns.length ss))
      ⟨none, none, none, none, none, none, rfl, by simpa using hb, hPt1, fun z => absurd z (by decide)⟩ (fun i σ H' hi hI => ?_) (fun σ H' hI => ?_))
    · obtain ⟨x2, x3, x4, x5, x6, x7, rfl, hbi, hPi, _⟩ := hI
      refine nm_ ?_
      dsimp only
      refine q_set ⟨_, rfl, (by show 7 ≤ sizeLine; decide), fun a0 ha0 => ⟨b, c, a0, _, 100 * (i : Int), rfl, hbi.same (new_same ha0), by omega, upd_same, (hbi.fresh ha0).1, (fun z => nomatch z), (by show 7 ≤ 100; decide), fun x H2 hx hb2 hB2 => ?_⟩⟩
      have hB02 : But b H' H2 := (But.of (new_same ha0)).trans hB2
      have hxm : ∃ m : Nat, x = .int (m : Int) ∧ 3 ≤ m ∧ m ≤ 8 := by
        simp only [List.mem_cons, List.not_mem_nil, or_false] at hx
        rcases hx with rfl | rfl | rfl | rfl | rfl | rfl | rfl
        · exact ⟨3, rfl, by decide, by decide⟩
        · exact ⟨4, rfl, by decide, by decide⟩
        · exact ⟨5, rfl, by decide, by decide⟩
        · exact ⟨6, rfl, by decide, by decide⟩
        · exact ⟨6, rfl, by decide, by decide⟩
        · exact ⟨7, rfl, by decide, by decide⟩
        · exact ⟨8, rfl, by decide, by decide⟩
      obtain ⟨m, rfl, hm3, hm8⟩ := hxm
      refine seq_ ⟨_, rfl, _, rfl, b, c, (m : Int), _, rfl, hb2, by omega, ⟨by omega, by omega⟩, fun l ns H3 hl3 hlok hlm hb3 hB3 hl0 => ⟨_, rfl, _, rfl, b, c, m, _, rfl, hb3, by omega, ⟨hm3, hm8⟩, fun v ss H4 hv4 hss hb4 hB4 => ⟨_, _, rfl, ?_⟩⟩⟩
      dsimp only
      have hlb : l ≠ b := (hb2.fresh hl0).1
      have hvl3 : rInts (del H3 b) (.ref l) ns := ⟨l, _, rfl, by rw [del_ne hlb]; exact hl3, of_ints ns⟩
      have hvl4 : rInts (del H4 b) (.ref l) ns := Mn.mn hB4 hvl3
      have hmn : ns.length = m := by omega
      rw [← hmn] at hss
      have hPb : Pt ≠ b := by
        obtain ⟨yy, hyy⟩ := hbi.lst
        exact ne_of hPi hyy (fun z => nomatch z)
      have hPt4 := ((hB02.trans hB3).trans hB4).at hPb hPi
      refine q_ifP (fun vl H5 => ∃ ns', rInts (del H5 b) vl ns' ∧ LensOk ns' ∧ ns'.length = ns.length ∧ Bench b c (100 * (i : Int) + 40) H5 ∧ But b H4 H5) (.ref l) rfl (fun Z z => ⟨_, rfl, _, _, rfl, rfl, _, rfl, z _⟩) (fun Z z => ⟨_, rfl, _, rfl, _, rfl, b, c, .ref l, v, _, ns, ss, rfl, hb4, by omega, hvl4, hlok, hv4, hss, fun v' ns' H5 h1 h2 h3 h4 h5 => z v' H5 ⟨ns', h1, h2, h3, h4.mono (by omega), h5⟩⟩) ⟨ns, hvl4, hlok, rfl, hb4.mono (by omega), But.refl⟩ fun vl H5 ⟨ns', h1, h2, h3, h4, h5⟩ => ?_
      have hv5 : rStrands (del H5 b) v ss := Mn.mn h5 hv4
      have hss5 : StrandsOk ns'.length ss := h3 ▸ hss
      have hPt5 := h5.at hPb hPt4
      refine q_if ⟨_, rfl, _, rfl, vl, v, ns', ss, rfl, Mn.mn del_in h1, Mn.mn del_in hv5, h2, hss5, fun H6 e6 => ⟨true, rfl, ifF rfl ⟨_, rfl, _, rfl, _, rfl, b, c, vl, v, _, ns', ss, rfl, h4.same e6, by omega, Mn.mn (del_mono e6) h1, h2, Mn.mn (del_mono e6) hv5, hss5, fun H7 hb7 hB7 => ⟨true, rfl, ifF rfl ?_⟩⟩⟩⟩
      have hB57 : But b H5 H7 := (But.of e6).trans hB7
      have hPt7 := hB57.at hPb hPt5
      refine seq_ (rd_forR (n := 3) (fun R r => ⟨3, rfl, by decide, by decide, r⟩)
        (fun j σ H' => ∃ x6 x7 v ss, σ = [some (.ref s0), some (.ref b), some (.int (0 + (i : Int))), some (.int (m : Int)), some vl, some v, x6, x7] ∧ Bench b c (100 * (i : Int) + 48 + 10 * j) H' ∧ H' Pt = some (.tbl #[]) ∧ rInts (del H' b) vl ns' ∧ rStrands (del H' b) v ss ∧ StrandsOk ns'.length ss)
        ⟨x6, x7, v, ss, rfl, by simpa using hb7.mono (by omega), hPt7, Mn.mn hB57 h1, Mn.mn hB57 hv5, hss5⟩ (fun j σ H8 hj hJ => ?_) (fun σ H8 hJ => ?_))
      · obtain ⟨x6, x7, v, ss, rfl, hb8, hPt8, hl8, hv8, hss8⟩ := hJ
        refine nm_ ?_
        dsimp only
        refine q_set ⟨_, rfl, _, rfl, b, c, v, _, _, ss, rfl, hb8, by omega, hv8, hss8, fun v' ss' H9 hv9 hpart hb9 hB9 => ?_⟩
        have hl9 : rInts (del H9 b) vl ns' := Mn.mn hB9 hl8
        have hv9o : rStrands (del H9 b) v ss := Mn.mn hB9 hv8
        have hss9 := hpart.ok hss8
        have hPt9 := hB9.at hPb hPt8
        refine q_skip (fun Z z => ⟨_, rfl, _, rfl, vl, v', ns', ss', rfl, Mn.mn del_in hl9, Mn.mn del_in hv9, h2, hss9, fun H' e' => ⟨true, rfl, z H' e'⟩⟩) fun H10 e10 => ?_
        refine q_skip (fun Z z => and_t (rd_can rfl rfl (Mn.mn e10 (Mn.mn del_in hl9)) h2 (Mn.mn e10 (Mn.mn del_in hv9o)) hss8 fun vt H11 e11 hC => can_truth T hC ?_)) fun H11 e11 => ?_
        · by_cases hg : greats (netsOf ns' ss) = []
          · refine ifT (decide_eq_true hg) (not_t (rd_can rfl rfl (Mn.mn (e10.trans e11) (Mn.mn del_in hl9)) h2 (Mn.mn (e10.trans e11) (Mn.mn del_in hv9)) hss9 fun vt H12 e12 hC => can_truth T hC ?_))
            have hg' : greats (netsOf ns' ss') = [] := (home_iff hss9).mpr (parted_home hpart ((home_iff hss8).mp hg))
            rw [decide_eq_true hg']
            exact z _ (e11.trans e12)
          · exact ifF (decide_eq_false hg) (z _ e11)
        · have e12 := e10.trans e11
          refine asg_ ⟨_, rfl, nm_ ?_⟩
          dsimp only
          have e13 : 100 * (i : Int) + 48 + 10 * (j : Int) + 10 = 100 * (i : Int) + 48 + 10 * ((j + 1 : Nat) : Int) := by omega
          exact ⟨_, _, v', ss', rfl, e13 ▸ hb9.same e12, e12 _ _ hPt9, Mn.mn (del_mono e12) hl9, Mn.mn (del_mono e12) hv9, hss9⟩
      · obtain ⟨x6, x7, v, ss, rfl, hb8, hPt8, hl8, hv8, hss8⟩ := hJ
        dsimp only
        refine s_skip (fun Z z => and_t (rd_can rfl rfl (Mn.mn del_in hl8) h2 (Mn.mn del_in hv8) hss8 fun vt H11 e11 hC => can_truth T hC ?_)) fun H11 e11 => ?_
        · by_cases hg : greats (netsOf ns' ss) = []
          · refine ifT (decide_eq_true hg) (not_t (tB_ (fld_ (mk_Ring fun Z2 z2 => ⟨_, rfl, z2 _ _ ns' (Mn.mn e11 (Mn.mn del_in hl8)) h2 fun vR H12 e12 hR => ?_⟩))))
            obtain ⟨xo, dx, tp, cc, rfl, hxo, htp⟩ := hR
            refine ⟨xo, _, dx, _, _, rfl, hxo, T.cl_Ring, T.na_Ring_closes, rfl, _, rfl, ?_⟩
            rw [home_closes h2 hss8 ((home_iff hss8).mp hg)]
            exact z _ (e11.trans e12)
          · exact ifF (decide_eq_false hg) (z _ e11)
        · have e14 : 100 * (i : Int) + 100 = 100 * ((i + 1 : Nat) : Int) := by omega
          exact ⟨_, _, _, _, _, _, rfl, e14 ▸ (hb8.same e11).mono (by omega), e11 _ _ hPt8, fun _ => ⟨vl, v, ns', ss, rfl, rfl, Mn.mn (del_mono e11) hl8, h2, Mn.mn (del_mono e11) hv8, hss8⟩⟩
    · obtain ⟨x2, x3, x4, x5, x6, x7, rfl, hbn, hP', hlast⟩ := hI
      obtain ⟨vl, v, ns, ss, rfl, rfl, h1, h2, h3, h4⟩ := hlast (by decide)
      dsimp only
      exact ret_ ⟨_, rfl, _, rfl, _, rfl, b, c, vl, v, _, ns, ss, rfl, hbn, by omega, h1, h2, h3, h4, hP', q⟩
end KB

-- part KH0
set_option maxHeartbeats 0
namespace KB
open PySem PySem.Spec PyProof.Rows L2
abbrev PR : Program := PySem.Challenge.pw_ringbars_k50_whole_lineups_by_nets
/-! ### Bools of what is wanted -/
def tyB (K : PySem.W.Frag) (C : Addr) : Bool := He.eqO (PySem.W.findIn K (.ref C) "__class__") (some (some (.builtin "object.__class__"))) && (He.eqO (PySem.W.specialIn K (.builtin "object.__class__") "__get__") (some (some (.builtin "getset_descriptor.__get__"))) && (decide (PySem.W.takesIn K (.builtin "object.__class__") = some true) && decide (PySem.W.mroIn K C (.type "object") = some true)))
theorem tyB_ok {K : PySem.W.Frag} {C : Addr} (h : tyB K C = true) : TyC K C := by
  obtain ⟨h1, h2⟩ := He.ba h
  obtain ⟨h3, h4⟩ := He.ba h2
  obtain ⟨h5, h6⟩ := He.ba h4
  exact ⟨He.eqO_ok h1, He.eqO_ok h3, of_decide_eq_true h5, of_decide_eq_true h6⟩
def oxB (K : PySem.W.Frag) (C : Addr) : Bool := (match K.lookup C with
  | some ⟨.type t, _, .cls cd, sl⟩ => decide (t = "type") && (cd.hasDict && (!cd.hasDel && (match cd.mro, sl.toList with
    | .ref C' :: bm, [_, _, _, _, some (.builtin n), _] => decide (C' = C) && (decide (n = "ValueError.__new__") && PySem.HandSPX.refsVE bm)
    | _, _ => false)))
  | _ => false) && (He.eqO (PySem.W.findIn K (.ref C) "__setattr__") (some (some (.builtin "object.__setattr__"))) && (decide (PySem.W.subIn K (.ref C) (.type "BaseException") = some true) && (decide (PySem.W.typeIn K (.ref C) = some (.type "type")) && PySem.W.keepIn K (.ref C))))
theorem oxB_ok {K : PySem.W.Frag} {C : Addr} (h : oxB K C = true) : OexC K C := by
  obtain ⟨h0, h2⟩ := He.ba h
  obtain ⟨h3, h4⟩ := He.ba h2
  obtain ⟨h5, h6⟩ := He.ba h4
  obtain ⟨h7, h8⟩ := He.ba h6
  refine ⟨?_, He.eqO_ok h3, of_decide_eq_true h5, of_decide_eq_true h7, h8⟩
  cases q : K.lookup C with
  | none => rw [q] at h0; cases h0
  | some o =>
    obtain ⟨oc, od, dt, sl⟩ := o
    rw [q] at h0
    cases oc with
    | type t =>
      cases dt with
      | cls cd =>
        obtain ⟨k1, k2⟩ := He.ba (show (decide (t = "type") && _) = true from h0)
        obtain ⟨k3, k4⟩ := He.ba k2
        obtain ⟨k5, k6⟩ := He.ba k4
        obtain ⟨nm, bs, mro, N, qn, hdct, sn, sub, ab, col, hdl⟩ := cd
        simp only at k3 k5 k6
        have e1 := of_decide_eq_true k1
        split at k6
        · rename_i C' bm n0 n1 n2 n3 n n5 es
          obtain ⟨k7, k8⟩ := He.ba k6
          obtain ⟨k9, k10⟩ := He.ba k8
          have e2 := of_decide_eq_true k7
          have e3 := of_decide_eq_true k9
          have e4 : hdl = false := by simpa using k5
          have es' : sl = #[n0, n1, n2, n3, some (.builtin n), n5] := Array.toList_inj.mp es
          subst e1 e4 es' k3
          subst e2 e3
          exact ⟨nm, qn, N, bs, bm, sn, sub, ab, col, od, n0, n1, n2, n3, n5, rfl, k10⟩
        · cases k6
      | _ => cases h0
    | _ => cases dt <;> cases h0
def xcB (K : PySem.W.Frag) (C : Addr) : Bool := He.eqO (PySem.W.findIn K (.ref C) "__getattribute__") (some (some (.builtin "BaseException.__getattribute__"))) && (He.eqO (PySem.W.findIn K (.ref C) "__getattr__") (some none) && (decide (PySem.W.subIn K (.ref C) (.type "BaseException") = some true) && (PySem.W.hasDictIn K C && (tyB K C && ((PySem.W.clsIn K C).isSome && He.eqO (PySem.W.findIn K (.ref C) "part") (some none))))))
theorem xcB_ok {K : PySem.W.Frag} {C : Addr} (h : xcB K C = true) : ExC K C := by
  obtain ⟨h1, h2⟩ := He.ba h
  obtain ⟨h3, h4⟩ := He.ba h2
  obtain ⟨h5, h6⟩ := He.ba h4
  obtain ⟨h7, h8⟩ := He.ba h6
  obtain ⟨h9, h10⟩ := He.ba h8
  obtain ⟨h11, h12⟩ := He.ba h10
  have t := tyB_ok h9
  exact ⟨He.eqO_ok h1, He.eqO_ok h3, of_decide_eq_true h5, h7, t.ha, t.hn, t.ht, t.hm, h11, He.eqO_ok h12⟩
def suB (K : PySem.W.Frag) (C g : Addr) : Bool := decide (PySem.W.mroIn K C (.ref C) = some true) && (He.eqO (PySem.W.ks_superIn K C C "__init__") (some (some (.ref g))) && (decide (PySem.W.typeIn K (.ref g) = some (.type "function")) && (PySem.W.fnIn K g && (He.eqO (PySem.W.nsIn K cStatics "thirdparty.any") (some none) && (PySem.W.clsIn K C).isSome))))
theorem suB_ok {K : PySem.W.Frag} {C g : Addr} (c : Cls K C) (h : suB K C g = true) : SupC K C C g "__init__" := by
  obtain ⟨h1, h2⟩ := He.ba h
  obtain ⟨h3, h4⟩ := He.ba h2
  obtain ⟨h5, h6⟩ := He.ba h4
  obtain ⟨h7, h8⟩ := He.ba h6
  obtain ⟨h9, h10⟩ := He.ba h8
  exact ⟨of_decide_eq_true h1, He.eqO_ok h3, of_decide_eq_true h5, h7, He.eqO_ok h9, Option.isSome_iff_exists.mp h10, c⟩
/-- a method with __class__ in its cell: its words -/
abbrev SupW : Type := Option (Str × Str × Arguments × FuncBody × Scope × Addr × List Str × Value × Addr)
def supW (K : PySem.W.Frag) (f : Addr) : SupW := match K.lookup f with
  | some ⟨_, _, .func fd, _⟩ => some (fd.name, fd.qualname, fd.params, fd.body, fd.scope, fd.globals, fd.closure.map (·.1), fd.defaults, fd.builtins)
  | _ => none
def supD (qual : Str) (params : Arguments) (body : List Stmt) (scope : Scope) : SupW := some (("__init__" : Str), qual, params, FuncBody.stmts body, scope, mainGlobals, [("__class__" : Str)], Value.none, builtinsNs)
def sfB (K : PySem.W.Frag) (f D : Addr) (qual : Str) : Bool := (match K.lookup f with
  | some ⟨_, _, .func fd, _⟩ => (match fd.closure, fd.code with
    | [(_, cc)], .ref c => PySem.W.codeIn K (.ref c) qual && ((match K.lookup c with
        | some ⟨_, _, .fields vs, _⟩ => (match (vs[2]? : Option Value) with
          | some (Value.str fl _) => ((PR.main.file : Str) == fl)
          | _ => false)
        | _ => false) && (match K.lookup cc with
        | some ⟨_, _, .cell (some (.ref E)), _⟩ => decide (E = D)
        | _ => false))
    | _, _ => false)
  | _ => false) && (PySem.W.clsIn K D).isSome
theorem sfB_ok {K : PySem.W.Frag} {f D : Addr} {qual : Str} {params : Arguments} {body : List Stmt} {scope : Scope} (hw : supW K f = supD qual params body scope) (h : sfB K f D qual = true) (ht : (PR.main.scope.names.lookup ("super" : Str)).isSome = false) :
    ∃ cc c, SupF PR K ⟨"__init__", qual, params, body, scope, [("__class__", cc)], c⟩ f cc D := by
  obtain ⟨h1, h2⟩ := He.ba h
  unfold supW supD at hw
  cases q : K.lookup f with
  | none => rw [q] at hw; cases hw
  | some o =>
    obtain ⟨oc, od, dt, sl⟩ := o
    rw [q] at hw h1
    cases dt with
    | func fd =>
      obtain ⟨nm, qn, pa, bd, sc, gl, cl, dV, kV, doc, pm, an, cd, ct, bl⟩ := fd
      simp only [Option.some.injEq, Prod.mk.injEq] at hw
      obtain ⟨rfl, rfl, rfl, rfl, rfl, rfl, hcl, rfl, rfl⟩ := hw
      simp only at h1
      split at h1
      · rename_i y cc c
        obtain ⟨k1, k2⟩ := He.ba h1
        obtain ⟨k3, k4⟩ := He.ba k2
        have hy : y = "__class__" := by simpa using hcl
        subst hy
        refine ⟨cc, c, rfl, ⟨oc, od, kV, doc, pm, an, ct, sl, q⟩, k1, ?_, ?_, Option.isSome_iff_exists.mp h2, ht⟩
        · cases q2 : K.lookup c with
          | none => rw [q2] at k3; cases k3
          | some o2 =>
            obtain ⟨oc2, od2, dt2, sl2⟩ := o2
            rw [q2] at k3
            cases dt2 with
            | fields vs =>
              simp only at k3
              split at k3
              · rename_i fl tf e2
                exact ⟨oc2, od2, vs, sl2, fl, tf, rfl, e2, k3⟩
              · cases k3
            | _ => cases k3
        · cases q2 : K.lookup cc with
          | none => rw [q2] at k4; cases k4
          | some o2 =>
            obtain ⟨oc2, od2, dt2, sl2⟩ := o2
            rw [q2] at k4
            split at k4
            · rename_i E' sl' e2
              cases e2
              have := of_decide_eq_true k4
              subst this
              exact ⟨oc2, od2, sl2, rfl⟩
            · cases k4
      · cases h1
    | _ => cases hw
/-! ### the facts wanted -/
def faL0 : List He.Fa := [.free "isinstance",
  .free "int",
  .free "bool",
  .free "str",
  .free "list",
  .free "tuple",
  .free "len",
  .free "sum",
  .free "max",
  .free "abs",
  .free "all",
  .free "sorted",
  .free "range",
  .free "enumerate",
  .free "super",
  .int "LEAST_BARS" 3,
  .int "MOST_BARS" 8,
  .int "MOST_LENGTH" 1000000,
  .glo "RingError",
  .glo "BadRing",
  .glo "BadLineUp",
  .glo "Misfit",
  .glo "Ring",
  .glo "LineUp",
  .glo "Paper",
  .glo "Denial",
  .glo "Nets",
  .glo "TooGreat",
  .glo "is_integer",
  .glo "is_within",
  .glo "are_lengths",
  .glo "sums_of",
  .glo "need_ring",
  .glo "is_sign",
  .glo "is_pair",
  .glo "is_strand",
  .glo "are_strands",
  .glo "strand_of",
  .glo "lot_of",
  .glo "pair_text"]
def faL1 : List He.Fa := [.glo "need_lineup",
  .glo "fixed",
  .glo "net_of",
  .glo "great_spot",
  .glo "can_line",
  .glo "_law_bench",
  .glo "_law_draw",
  .glo "_law_pick",
  .glo "_law_mixed",
  .glo "_law_lengths",
  .glo "_law_strands",
  .glo "_law_right",
  .glo "_law_nets",
  .glo "_law_is_home",
  .glo "_law_paper_right",
  .glo "_law_parted",
  .glo "_law_pulled",
  .glo "_law_renumbered_right",
  .glo "_law_heard",
  .glo "_law_refused_right",
  .glo "law",
  .cls "Ring",
  .mkr "Ring",
  .noat "Ring" "lengths",
  .noat "Ring" "total",
  .noat "Ring" "closes",
  .noat "Ring" "is_clear",
  .cls "LineUp",
  .mkr "LineUp",
  .noat "LineUp" "strands",
  .noat "LineUp" "lots",
  .noat "LineUp" "many",
  .cls "Nets",
  .mkr "Nets",
  .noat "Nets" "word",
  .noat "Nets" "parts",
  .noat "Nets" "nets",
  .cls "TooGreat",
  .mkr "TooGreat",
  .noat "TooGreat" "word"]
def faL2 : List He.Fa := [.noat "TooGreat" "parts",
  .noat "TooGreat" "lot",
  .noat "TooGreat" "net",
  .noat "TooGreat" "others"]
def faL : List He.Fa := faL0 ++ faL1 ++ faL2
def fnL0 : List He.DefD := [⟨("is_integer", none), "is_integer", "is_integer", defArgs s_is_integer, defBody s_is_integer, defScope s_is_integer, [], []⟩,
  ⟨("is_within", none), "is_within", "is_within", defArgs s_is_within, defBody s_is_within, defScope s_is_within, [], []⟩,
  ⟨("are_lengths", none), "are_lengths", "are_lengths", defArgs s_are_lengths, defBody s_are_lengths, defScope s_are_lengths, [], []⟩,
  ⟨("sums_of", none), "sums_of", "sums_of", defArgs s_sums_of, defBody s_sums_of, defScope s_sums_of, [], []⟩,
  ⟨("need_ring", none), "need_ring", "need_ring", defArgs s_need_ring, defBody s_need_ring, defScope s_need_ring, [], []⟩,
  ⟨("is_sign", none), "is_sign", "is_sign", defArgs s_is_sign, defBody s_is_sign, defScope s_is_sign, [], []⟩,
  ⟨("is_pair", none), "is_pair", "is_pair", defArgs s_is_pair, defBody s_is_pair, defScope s_is_pair, [], []⟩,
  ⟨("is_strand", none), "is_strand", "is_strand", defArgs s_is_strand, defBody s_is_strand, defScope s_is_strand, [], []⟩,
  ⟨("are_strands", none), "are_strands", "are_strands", defArgs s_are_strands, defBody s_are_strands, defScope s_are_strands, [], []⟩,
  ⟨("strand_of", none), "strand_of", "strand_of", defArgs s_strand_of, defBody s_strand_of, defScope s_strand_of, [], []⟩,
  ⟨("lot_of", none), "lot_of", "lot_of", defArgs s_lot_of, defBody s_lot_of, defScope s_lot_of, [], []⟩,
  ⟨("pair_text", none), "pair_text", "pair_text", defArgs s_pair_text, defBody s_pair_text, defScope s_pair_text, [], []⟩,
  ⟨("need_lineup", none), "need_lineup", "need_lineup", defArgs s_need_lineup, defBody s_need_lineup, defScope s_need_lineup, [], []⟩,
  ⟨("fixed", none), "fixed", "fixed", defArgs s_fixed, defBody s_fixed, defScope s_fixed, [], []⟩,
  ⟨("net_of", none), "net_of", "net_of", defArgs s_net_of, defBody s_net_of, defScope s_net_of, [], []⟩]
def fnL1 : List He.DefD := [⟨("great_spot", none), "great_spot", "great_spot", defArgs s_great_spot, defBody s_great_spot, defScope s_great_spot, [], []⟩,
  ⟨("can_line", none), "can_line", "can_line", defArgs s_can_line, defBody s_can_line, defScope s_can_line, [], []⟩,
  ⟨("_law_bench", none), "_law_bench", "_law_bench", defArgs s_law_bench, defBody s_law_bench, defScope s_law_bench, [], []⟩,
  ⟨("_law_draw", none), "_law_draw", "_law_draw", defArgs s_law_draw, defBody s_law_draw, defScope s_law_draw, [], []⟩,
  ⟨("_law_pick", none), "_law_pick", "_law_pick", defArgs s_law_pick, defBody s_law_pick, defScope s_law_pick, [], []⟩,
  ⟨("_law_mixed", none), "_law_mixed", "_law_mixed", defArgs s_law_mixed, defBody s_law_mixed, defScope s_law_mixed, [], []⟩,
  ⟨("_law_lengths", none), "_law_lengths", "_law_lengths", defArgs s_law_lengths, defBody s_law_lengths, defScope s_law_lengths, [], []⟩,
  ⟨("_law_strands", none), "_law_strands", "_law_strands", defArgs s_law_strands, defBody s_law_strands, defScope s_law_strands, [], []⟩,
  ⟨("_law_right", none), "_law_right", "_law_right", defArgs s_law_right, defBody s_law_right, defScope s_law_right, [], []⟩,
  ⟨("_law_nets", none), "_law_nets", "_law_nets", defArgs s_law_nets, defBody s_law_nets, defScope s_law_nets, [], []⟩,
  ⟨("_law_is_home", none), "_law_is_home", "_law_is_home", defArgs s_law_is_home, defBody s_law_is_home, defScope s_law_is_home, [], []⟩,
  ⟨("_law_paper_right", none), "_law_paper_right", "_law_paper_right", defArgs s_law_paper_right, defBody s_law_paper_right, defScope s_law_paper_right, [], []⟩,
  ⟨("_law_parted", none), "_law_parted", "_law_parted", defArgs s_law_parted, defBody s_law_parted, defScope s_law_parted, [], []⟩,
  ⟨("_law_pulled", none), "_law_pulled", "_law_pulled", defArgs s_law_pulled, defBody s_law_pulled, defScope s_law_pulled, [], []⟩,
  ⟨("_law_renumbered_right", none), "_law_renumbered_right", "_law_renumbered_right", defArgs s_law_renumbered_right, defBody s_law_renumbered_right, defScope s_law_renumbered_right, [], []⟩]
def fnL2 : List He.DefD := [⟨("_law_heard", none), "_law_heard", "_law_heard", defArgs s_law_heard, defBody s_law_heard, defScope s_law_heard, [], []⟩,
  ⟨("_law_refused_right", none), "_law_refused_right", "_law_refused_right", defArgs s_law_refused_right, defBody s_law_refused_right, defScope s_law_refused_right, [], []⟩,
  ⟨("law", none), "law", "law", defArgs s_law, defBody s_law, defScope s_law, [], []⟩,
  ⟨("Ring", some "__init__"), "__init__", "Ring.__init__", defArgs s_Ring___init, defBody s_Ring___init, defScope s_Ring___init, [], []⟩,
  ⟨("LineUp", some "__init__"), "__init__", "LineUp.__init__", defArgs s_LineUp___init, defBody s_LineUp___init, defScope s_LineUp___init, [], []⟩,
  ⟨("LineUp", some "__str__"), "__str__", "LineUp.__str__", defArgs s_LineUp___str, defBody s_LineUp___str, defScope s_LineUp___str, [], []⟩,
  ⟨("Paper", some "__init__"), "__init__", "Paper.__init__", defArgs s_Paper___init, defBody s_Paper___init, defScope s_Paper___init, [], []⟩,
  ⟨("Paper", some "__bool__"), "__bool__", "Paper.__bool__", defArgs s_Paper___bool, defBody s_Paper___bool, defScope s_Paper___bool, [], []⟩,
  ⟨("Denial", some "__bool__"), "__bool__", "Denial.__bool__", defArgs s_Denial___bool, defBody s_Denial___bool, defScope s_Denial___bool, [], []⟩,
  ⟨("BadRing", some "__init__"), "__init__", "BadRing.__init__", defArgs s_BadRing___init, defBody s_BadRing___init, defScope s_BadRing___init, [], []⟩,
  ⟨("BadLineUp", some "__init__"), "__init__", "BadLineUp.__init__", defArgs s_BadLineUp___init, defBody s_BadLineUp___init, defScope s_BadLineUp___init, [], []⟩,
  ⟨("Misfit", some "__init__"), "__init__", "Misfit.__init__", defArgs s_Misfit___init, defBody s_Misfit___init, defScope s_Misfit___init, [], []⟩]
def fnL : List He.DefD := fnL0 ++ fnL1 ++ fnL2

def exL0 (K : PySem.W.Frag) : Bool := He.eqO (PySem.W.findIn K (.ref (CC K "Nets")) "__bool__") (some (some (.ref (He.ma K (CC K "Paper") "__bool__")))) &&
  (PySem.W.isFn K (.ref (He.ma K (CC K "Paper") "__bool__")) &&
  (He.eqO (PySem.W.findIn K (.ref (CC K "TooGreat")) "__bool__") (some (some (.ref (He.ma K (CC K "Denial") "__bool__")))) &&
  (PySem.W.isFn K (.ref (He.ma K (CC K "Denial") "__bool__")) &&
  (tyB K (CC K "Ring") &&
  (tyB K (CC K "LineUp") &&
  (tyB K (CC K "Nets") &&
  (tyB K (CC K "TooGreat") &&
  (decide (PySem.W.kitOne K (.type "NoneType") (.ref (CC K "Ring")) = some false) &&
  (decide (PySem.W.kitOne K (.type "int") (.ref (CC K "Ring")) = some false) &&
  (decide (PySem.W.kitOne K (.type "list") (.ref (CC K "Ring")) = some false) &&
  (decide (PySem.W.kitOne K (.type "str") (.ref (CC K "Ring")) = some false) &&
  (decide (PySem.W.kitOne K (.type "NoneType") (.ref (CC K "LineUp")) = some false) &&
  (decide (PySem.W.kitOne K (.type "bool") (.ref (CC K "LineUp")) = some false) &&
  (decide (PySem.W.kitOne K (.type "list") (.ref (CC K "LineUp")) = some false) &&
  (decide (PySem.W.kitOne K (.type "str") (.ref (CC K "LineUp")) = some false))))))))))))))))
def exL1 (K : PySem.W.Frag) : Bool := decide (PySem.W.kitOne K (.ref (CC K "Nets")) (.ref (CC K "Paper")) = some true) &&
  (decide (PySem.W.kitOne K (.ref (CC K "TooGreat")) (.ref (CC K "Denial")) = some true) &&
  (He.eqO (PySem.W.findIn K (.ref (CC K "LineUp")) "__str__") (some (some (.ref (He.ma K (He.ga K "LineUp") "__str__")))) &&
  (PySem.W.isFn K (.ref (He.ma K (He.ga K "LineUp") "__str__")) &&
  (oxB K (CC K "BadRing") &&
  (He.eqO (PySem.W.findIn K (.ref (CC K "BadRing")) "part") (some none) &&
  (He.eqO (PySem.W.findIn K (.ref (CC K "BadRing")) "__init__") (some (some (.ref (CI K "BadRing")))) &&
  (decide (PySem.W.typeIn K (.ref (CI K "BadRing")) = some (.type "function")) &&
  (xcB K (CC K "BadRing") &&
  (decide (PySem.W.exmOne K (.ref (CC K "BadRing")) (.ref (CC K "RingError")) = some true) &&
  (decide (PySem.W.kitOne K (.ref (CC K "BadRing")) (.ref (CC K "BadLineUp")) = some false) &&
  (decide (PySem.W.kitOne K (.ref (CC K "BadRing")) (.ref (CC K "Misfit")) = some false) &&
  (oxB K (CC K "BadLineUp") &&
  (He.eqO (PySem.W.findIn K (.ref (CC K "BadLineUp")) "part") (some none) &&
  (He.eqO (PySem.W.findIn K (.ref (CC K "BadLineUp")) "__init__") (some (some (.ref (CI K "BadLineUp")))) &&
  (decide (PySem.W.typeIn K (.ref (CI K "BadLineUp")) = some (.type "function")))))))))))))))))
def exL2 (K : PySem.W.Frag) : Bool := xcB K (CC K "BadLineUp") &&
  (decide (PySem.W.exmOne K (.ref (CC K "BadLineUp")) (.ref (CC K "RingError")) = some true) &&
  (decide (PySem.W.kitOne K (.ref (CC K "BadLineUp")) (.ref (CC K "BadRing")) = some false) &&
  (decide (PySem.W.kitOne K (.ref (CC K "BadLineUp")) (.ref (CC K "Misfit")) = some false) &&
  (oxB K (CC K "Misfit") &&
  (He.eqO (PySem.W.findIn K (.ref (CC K "Misfit")) "part") (some none) &&
  (He.eqO (PySem.W.findIn K (.ref (CC K "Misfit")) "__init__") (some (some (.ref (CI K "Misfit")))) &&
  (decide (PySem.W.typeIn K (.ref (CI K "Misfit")) = some (.type "function")) &&
  (xcB K (CC K "Misfit") &&
  (decide (PySem.W.exmOne K (.ref (CC K "Misfit")) (.ref (CC K "RingError")) = some true) &&
  (decide (PySem.W.kitOne K (.ref (CC K "Misfit")) (.ref (CC K "BadRing")) = some false) &&
  (decide (PySem.W.kitOne K (.ref (CC K "Misfit")) (.ref (CC K "BadLineUp")) = some false) &&
  (suB K (CC K "Nets") (CI K "Paper") &&
  (suB K (CC K "TooGreat") (CI K "Paper") &&
  (sfB K (CI K "Nets") (CC K "Nets") "Nets.__init__" &&
  (sfB K (CI K "TooGreat") (CC K "TooGreat") "TooGreat.__init__")))))))))))))))
def exB (K : PySem.W.Frag) : Bool := exL0 K && (exL1 K && (exL2 K))
/-! ### the hook -/
def tfL : List He.Defn := [("_law_refused_right", none)]
def supL : List (Str × SupW) := [("Nets", supD "Nets.__init__" (defArgs s_Nets___init) (defBody s_Nets___init) (defScope s_Nets___init)),
  ("TooGreat", supD "TooGreat.__init__" (defArgs s_TooGreat___init) (defBody s_TooGreat___init) (defScope s_TooGreat___init))]
def asY (g : Addr → Option Obj) : List Addr := cStatics :: He.asD g 5
structure SaysY (w : World) (h : Heap) (K : PySem.W.Frag) : Prop where
  t : He.SaysT faL fnL [] w K
  sup : (supL.map fun p => supW K (CI K p.1)) = supL.map (·.2)
  more : exB K = true
  hd : ∀ p ∈ tfL, PySem.W.codeHdIn K (He.cT K p).1 (He.cT K p).2 = true
  out : ∀ p ∈ tfL, K.lookup (He.cT K p).2 = none
  empty : ∀ p ∈ tfL, h.get? (He.cT K p).2 = some { cls := .none, data := .fields #[] }
abbrev AlY : Type := He.AlT × List SupW × Bool
def obsK (g : Addr → Option Obj) (K : PySem.W.Frag) : AlY := (He.obsT faL fnL [] K, supL.map (fun p => supW K (CI K p.1)), exB K && He.tabsB g tfL K)
def obsY (g : Addr → Option Obj) : AlY := obsK g (He.frT g (asY g))
def valY (w : World) : AlY := (He.valT fnL [] w, supL.map (·.2), true)
theorem saysY_of {w : World} {h : Heap} (e : obsY h.get? = valY w) : SaysY w h (He.frT h.get? (asY h.get?)) := by
  have e1 : He.obsT faL fnL [] (He.frT h.get? (asY h.get?)) = He.valT fnL [] w := congrArg (fun z : AlY => z.1) e
  have e2 : (supL.map fun p => supW (He.frT h.get? (asY h.get?)) (CI (He.frT h.get? (asY h.get?)) p.1)) = supL.map (·.2) := congrArg (fun z : AlY => z.2.1) e
  have e3 : (exB (He.frT h.get? (asY h.get?)) && He.tabsB h.get? tfL (He.frT h.get? (asY h.get?))) = true := congrArg (fun z : AlY => z.2.2) e
  obtain ⟨h1, h2⟩ := He.ba e3
  have key : ∀ p ∈ tfL, PySem.W.codeHdIn (He.frT h.get? (asY h.get?)) (He.cT (He.frT h.get? (asY h.get?)) p).1 (He.cT (He.frT h.get? (asY h.get?)) p).2 = true ∧ ∃ o, h.get? (He.cT (He.frT h.get? (asY h.get?)) p).2 = some o ∧ He.emptyTab o = true := fun p hp => by
    obtain ⟨h3, h4⟩ := He.ba (List.all_eq_true.mp h2 p hp)
    refine ⟨h3, ?_⟩
    split at h4
    · rename_i o q
      exact ⟨o, q, h4⟩
    · cases h4
  refine ⟨e1, e2, h1, fun p hp => (key p hp).1, fun p hp => ?_, fun p hp => ?_⟩
  · obtain ⟨_, o, q, z⟩ := key p hp
    exact He.frT_none q z
  · obtain ⟨_, o, q, z⟩ := key p hp
    rw [q, He.emptyTab_eq z]
def hookY : PySem.W.Hook where
  α := AlY
  obs := fun s => obsY s.heap.get?
  val := valY
  says := fun w h => ∃ K : PySem.W.Frag, K.In h ∧ SaysY w h K
  of := fun _ _ e => ⟨_, He.frT_in, saysY_of e⟩
  keeps := fun _ _ _ ⟨K, hK, c⟩ k => ⟨K, PySem.W.Frag.In.keeps hK k, ⟨c.t, c.sup, c.more, c.hd, c.out, fun p hp => k _ _ (c.empty p hp)⟩⟩
theorem obsY_eq {g : Addr → Option Obj} {s : Shared} (h : ∀ a, g a = s.heap.get? a) : obsY g = hookY.obs s := by
  have e : g = s.heap.get? := funext h
  rw [e] <;> rfl
section
variable {K : PySem.W.Frag}
theorem exL0_ok (h : exL0 K = true) : (He.eqO (PySem.W.findIn K (.ref (CC K "Nets")) "__bool__") (some (some (.ref (He.ma K (CC K "Paper") "__bool__"))))) = true ∧ (PySem.W.isFn K (.ref (He.ma K (CC K "Paper") "__bool__"))) = true ∧ (He.eqO (PySem.W.findIn K (.ref (CC K "TooGreat")) "__bool__") (some (some (.ref (He.ma K (CC K "Denial") "__bool__"))))) = true ∧ (PySem.W.isFn K (.ref (He.ma K (CC K "Denial") "__bool__"))) = true ∧ (tyB K (CC K "Ring")) = true ∧ (tyB K (CC K "LineUp")) = true ∧ (tyB K (CC K "Nets")) = true ∧ (tyB K (CC K "TooGreat")) = true ∧ (decide (PySem.W.kitOne K (.type "NoneType") (.ref (CC K "Ring")) = some false)) = true ∧ (decide (PySem.W.kitOne K (.type "int") (.ref (CC K "Ring")) = some false)) = true ∧ (decide (PySem.W.kitOne K (.type "list") (.ref (CC K "Ring")) = some false)) = true ∧ (decide (PySem.W.kitOne K (.type "str") (.ref (CC K "Ring")) = some false)) = true ∧ (decide (PySem.W.kitOne K (.type "NoneType") (.ref (CC K "LineUp")) = some false)) = true ∧ (decide (PySem.W.kitOne K (.type "bool") (.ref (CC K "LineUp")) = some false)) = true ∧ (decide (PySem.W.kitOne K (.type "list") (.ref (CC K "LineUp")) = some false)) = true ∧ (decide (PySem.W.kitOne K (.type "str") (.ref (CC K "LineUp")) = some false)) = true := by
  unfold exL0 at h
  simpa only [Bool.and_eq_true] using h
theorem exL1_ok (h : exL1 K = true) : (decide (PySem.W.kitOne K (.ref (CC K "Nets")) (.ref (CC K "Paper")) = some true)) = true ∧ (decide (PySem.W.kitOne K (.ref (CC K "TooGreat")) (.ref (CC K "Denial")) = some true)) = true ∧ (He.eqO (PySem.W.findIn K (.ref (CC K "LineUp")) "__str__") (some (some (.ref (He.ma K (He.ga K "LineUp") "__str__"))))) = true ∧ (PySem.W.isFn K (.ref (He.ma K (He.ga K "LineUp") "__str__"))) = true ∧ (oxB K (CC K "BadRing")) = true ∧ (He.eqO (PySem.W.findIn K (.ref (CC K "BadRing")) "part") (some none)) = true ∧ (He.eqO (PySem.W.findIn K (.ref (CC K "BadRing")) "__init__") (some (some (.ref (CI K "BadRing"))))) = true ∧ (decide (PySem.W.typeIn K (.ref (CI K "BadRing")) = some (.type "function"))) = true ∧ (xcB K (CC K "BadRing")) = true ∧ (decide (PySem.W.exmOne K (.ref (CC K "BadRing")) (.ref (CC K "RingError")) = some true)) = true ∧ (decide (PySem.W.kitOne K (.ref (CC K "BadRing")) (.ref (CC K "BadLineUp")) = some false)) = true ∧ (decide (PySem.W.kitOne K (.ref (CC K "BadRing")) (.ref (CC K "Misfit")) = some false)) = true ∧ (oxB K (CC K "BadLineUp")) = true ∧ (He.eqO (PySem.W.findIn K (.ref (CC K "BadLineUp")) "part") (some none)) = true ∧ (He.eqO (PySem.W.findIn K (.ref (CC K "BadLineUp")) "__init__") (some (some (.ref (CI K "BadLineUp"))))) = true ∧ (decide (PySem.W.typeIn K (.ref (CI K "BadLineUp")) = some (.type "function"))) = true := by
  unfold exL1 at h
  simpa only [Bool.and_eq_true] using h
theorem exL2_ok (h : exL2 K = true) : (xcB K (CC K "BadLineUp")) = true ∧ (decide (PySem.W.exmOne K (.ref (CC K "BadLineUp")) (.ref (CC K "RingError")) = some true)) = true ∧ (decide (PySem.W.kitOne K (.ref (CC K "BadLineUp")) (.ref (CC K "BadRing")) = some false)) = true ∧ (decide (PySem.W.kitOne K (.ref (CC K "BadLineUp")) (.ref (CC K "Misfit")) = some false)) = true ∧ (oxB K (CC K "Misfit")) = true ∧ (He.eqO (PySem.W.findIn K (.ref (CC K "Misfit")) "part") (some none)) = true ∧ (He.eqO (PySem.W.findIn K (.ref (CC K "Misfit")) "__init__") (some (some (.ref (CI K "Misfit"))))) = true ∧ (decide (PySem.W.typeIn K (.ref (CI K "Misfit")) = some (.type "function"))) = true ∧ (xcB K (CC K "Misfit")) = true ∧ (decide (PySem.W.exmOne K (.ref (CC K "Misfit")) (.ref (CC K "RingError")) = some true)) = true ∧ (decide (PySem.W.kitOne K (.ref (CC K "Misfit")) (.ref (CC K "BadRing")) = some false)) = true ∧ (decide (PySem.W.kitOne K (.ref (CC K "Misfit")) (.ref (CC K "BadLineUp")) = some false)) = true ∧ (suB K (CC K "Nets") (CI K "Paper")) = true ∧ (suB K (CC K "TooGreat") (CI K "Paper")) = true ∧ (sfB K (CI K "Nets") (CC K "Nets") "Nets.__init__") = true ∧ (sfB K (CI K "TooGreat") (CC K "TooGreat") "TooGreat.__init__") = true := by
  unfold exL2 at h
  simpa only [Bool.and_eq_true] using h
theorem tx_of {w : World} {h : Heap} {mg : Str → Option Value} (X : K.In h) (G : h.Ns mainGlobals mg) (c : SaysY w h K) : Tx PR K mg := by
  have cD : He.SaysD faL fnL K := congrArg (fun z : He.AlT => z.1) c.t
  have F : ∀ f ∈ faL, f.ok K = true := fun f hf => cD.facts hf
  have hs := c.sup
  simp only [supL, List.map_cons, List.map_nil, List.cons.injEq, and_true] at hs
  have hx := c.more
  unfold exB at hx
  simp only [Bool.and_eq_true] at hx
  obtain ⟨x0, x1, x2⟩ := hx
  obtain ⟨e_bo_Nets, e_fb_Paper, e_bo_TooGreat, e_fb_Denial, e_ty_Ring, e_ty_LineUp, e_ty_Nets, e_ty_TooGreat, e_ko_NoneType_Ring, e_ko_int_Ring, e_ko_list_Ring, e_ko_str_Ring, e_ko_NoneType_LineUp, e_ko_bool_LineUp, e_ko_list_LineUp, e_ko_str_LineUp⟩ := exL0_ok x0
  obtain ⟨e_ko_Nets_Paper, e_ko_TooGreat_Denial, e_st_LineUp, e_fs_LineUp, e_ox_BadRing, e_xp_BadRing, e_xi_BadRing, e_xt_BadRing, e_xc_BadRing, e_xm_BadRing, e_kx_BadRing_BadLineUp, e_kx_BadRing_Misfit, e_ox_BadLineUp, e_xp_BadLineUp, e_xi_BadLineUp, e_xt_BadLineUp⟩ := exL1_ok x1
  obtain ⟨e_xc_BadLineUp, e_xm_BadLineUp, e_kx_BadLineUp_BadRing, e_kx_BadLineUp_Misfit, e_ox_Misfit, e_xp_Misfit, e_xi_Misfit, e_xt_Misfit, e_xc_Misfit, e_xm_Misfit, e_kx_Misfit_BadRing, e_kx_Misfit_BadLineUp, e_su_Nets, e_su_TooGreat, e_sf_Nets, e_sf_TooGreat⟩ := exL2_ok x2
  exact {
    f_isinstance := He.free_ok X G (F _ (by simp [faL, faL0, faL1, faL2])),
    f_int := He.free_ok X G (F _ (by simp [faL, faL0, faL1, faL2])),
    f_bool := He.free_ok X G (F _ (by simp [faL, faL0, faL1, faL2])),
    f_str := He.free_ok X G (F _ (by simp [faL, faL0, faL1, faL2])),
    f_list := He.free_ok X G (F _ (by simp [faL, faL0, faL1, faL2])),
    f_tuple := He.free_ok X G (F _ (by simp [faL, faL0, faL1, faL2])),
    f_len := He.free_ok X G (F _ (by simp [faL, faL0, faL1, faL2])),
    f_sum := He.free_ok X G (F _ (by simp [faL, faL0, faL1, faL2])),
    f_max := He.free_ok X G (F _ (by simp [faL, faL0, faL1, faL2])),
    f_abs := He.free_ok X G (F _ (by simp [faL, faL0, faL1, faL2])),
    f_all := He.free_ok X G (F _ (by simp [faL, faL0, faL1, faL2])),
    f_sorted := He.free_ok X G (F _ (by simp [faL, faL0, faL1, faL2])),
    f_range := He.free_ok X G (F _ (by simp [faL, faL0, faL1, faL2])),
    f_enumerate := He.free_ok X G (F _ (by simp [faL, faL0, faL1, faL2])),
    f_super := He.free_ok X G (F _ (by simp [faL, faL0, faL1, faL2])),
    i_LEAST_BARS := He.int_ok X G (F _ (by simp [faL, faL0, faL1, faL2])),
    i_MOST_BARS := He.int_ok X G (F _ (by simp [faL, faL0, faL1, faL2])),
    i_MOST_LENGTH := He.int_ok X G (F _ (by simp [faL, faL0, faL1, faL2])),
    g_RingError := He.glo_ok X G (F _ (by simp [faL, faL0, faL1, faL2])),
    g_BadRing := He.glo_ok X G (F _ (by simp [faL, faL0, faL1, faL2])),
    g_BadLineUp := He.glo_ok X G (F _ (by simp [faL, faL0, faL1, faL2])),
    g_Misfit := He.glo_ok X G (F _ (by simp [faL, faL0, faL1, faL2])),
    g_Ring := He.glo_ok X G (F _ (by simp [faL, faL0, faL1, faL2])),
    g_LineUp := He.glo_ok X G (F _ (by simp [faL, faL0, faL1, faL2])),
    g_Paper := He.glo_ok X G (F _ (by simp [faL, faL0, faL1, faL2])),
    g_Denial := He.glo_ok X G (F _ (by simp [faL, faL0, faL1, faL2])),
    g_Nets := He.glo_ok X G (F _ (by simp [faL, faL0, faL1, faL2])),
    g_TooGreat := He.glo_ok X G (F _ (by simp [faL, faL0, faL1, faL2])),
    cl_Ring := He.cls_ok (F _ (by simp [faL, faL0, faL1, faL2])),
    mk_Ring := He.mkr_ok (F _ (by simp [faL, faL0, faL1, faL2])),
    na_Ring_lengths := He.noat_ok (F _ (by simp [faL, faL0, faL1, faL2])),
    na_Ring_total := He.noat_ok (F _ (by simp [faL, faL0, faL1, faL2])),
    na_Ring_closes := He.noat_ok (F _ (by simp [faL, faL0, faL1, faL2])),
    na_Ring_is_clear := He.noat_ok (F _ (by simp [faL, faL0, faL1, faL2])),
    cl_LineUp := He.cls_ok (F _ (by simp [faL, faL0, faL1, faL2])),
    mk_LineUp := He.mkr_ok (F _ (by simp [faL, faL0, faL1, faL2])),
    na_LineUp_strands := He.noat_ok (F _ (by simp [faL, faL0, faL1, faL2])),
    na_LineUp_lots := He.noat_ok (F _ (by simp [faL, faL0, faL1, faL2])),
    na_LineUp_many := He.noat_ok (F _ (by simp [faL, faL0, faL1, faL2])),
    cl_Nets := He.cls_ok (F _ (by simp [faL, faL0, faL1, faL2])),
    mk_Nets := He.mkr_ok (F _ (by simp [faL, faL0, faL1, faL2])),
    na_Nets_word := He.noat_ok (F _ (by simp [faL, faL0, faL1, faL2])),
    na_Nets_parts := He.noat_ok (F _ (by simp [faL, faL0, faL1, faL2])),
    na_Nets_nets := He.noat_ok (F _ (by simp [faL, faL0, faL1, faL2])),
    cl_TooGreat := He.cls_ok (F _ (by simp [faL, faL0, faL1, faL2])),
    mk_TooGreat := He.mkr_ok (F _ (by simp [faL, faL0, faL1, faL2])),
    na_TooGreat_word := He.noat_ok (F _ (by simp [faL, faL0, faL1, faL2])),
    na_TooGreat_parts := He.noat_ok (F _ (by simp [faL, faL0, faL1, faL2])),
    na_TooGreat_lot := He.noat_ok (F _ (by simp [faL, faL0, faL1, faL2])),
    na_TooGreat_net := He.noat_ok (F _ (by simp [faL, faL0, faL1, faL2])),
    na_TooGreat_others := He.noat_ok (F _ (by simp [faL, faL0, faL1, faL2])),
    d_is_integer := (by obtain ⟨fd, D⟩ := cD.def_ 0 (d := ⟨("is_integer", none), "is_integer", "is_integer", defArgs s_is_integer, defBody s_is_integer, defScope s_is_integer, [], []⟩) rfl; exact ⟨_, fd, He.glo_ok X G (F _ (by simp [faL, faL0, faL1, faL2])), D⟩),
    d_is_within := (by obtain ⟨fd, D⟩ := cD.def_ 1 (d := ⟨("is_within", none), "is_within", "is_within", defArgs s_is_within, defBody s_is_within, defScope s_is_within, [], []⟩) rfl; exact ⟨_, fd, He.glo_ok X G (F _ (by simp [faL, faL0, faL1, faL2])), D⟩),
    d_are_lengths := (by obtain ⟨fd, D⟩ := cD.def_ 2 (d := ⟨("are_lengths", none), "are_lengths", "are_lengths", defArgs s_are_lengths, defBody s_are_lengths, defScope s_are_lengths, [], []⟩) rfl; exact ⟨_, fd, He.glo_ok X G (F _ (by simp [faL, faL0, faL1, faL2])), D⟩),
    d_sums_of := (by obtain ⟨fd, D⟩ := cD.def_ 3 (d := ⟨("sums_of", none), "sums_of", "sums_of", defArgs s_sums_of, defBody s_sums_of, defScope s_sums_of, [], []⟩) rfl; exact ⟨_, fd, He.glo_ok X G (F _ (by simp [faL, faL0, faL1, faL2])), D⟩),
    d_need_ring := (by obtain ⟨fd, D⟩ := cD.def_ 4 (d := ⟨("need_ring", none), "need_ring", "need_ring", defArgs s_need_ring, defBody s_need_ring, defScope s_need_ring, [], []⟩) rfl; exact ⟨_, fd, He.glo_ok X G (F _ (by simp [faL, faL0, faL1, faL2])), D⟩),
    d_is_sign := (by obtain ⟨fd, D⟩ := cD.def_ 5 (d := ⟨("is_sign", none), "is_sign", "is_sign", defArgs s_is_sign, defBody s_is_sign, defScope s_is_sign, [], []⟩) rfl; exact ⟨_, fd, He.glo_ok X G (F _ (by simp [faL, faL0, faL1, faL2])), D⟩),
    d_is_pair := (by obtain ⟨fd, D⟩ := cD.def_ 6 (d := ⟨("is_pair", none), "is_pair", "is_pair", defArgs s_is_pair, defBody s_is_pair, defScope s_is_pair, [], []⟩) rfl; exact ⟨_, fd, He.glo_ok X G (F _ (by simp [faL, faL0, faL1, faL2])), D⟩),
    d_is_strand := (by obtain ⟨fd, D⟩ := cD.def_ 7 (d := ⟨("is_strand", none), "is_strand", "is_strand", defArgs s_is_strand, defBody s_is_strand, defScope s_is_strand, [], []⟩) rfl; exact ⟨_, fd, He.glo_ok X G (F _ (by simp [faL, faL0, faL1, faL2])), D⟩),
    d_are_strands := (by obtain ⟨fd, D⟩ := cD.def_ 8 (d := ⟨("are_strands", none), "are_strands", "are_strands", defArgs s_are_strands, defBody s_are_strands, defScope s_are_strands, [], []⟩) rfl; exact ⟨_, fd, He.glo_ok X G (F _ (by simp [faL, faL0, faL1, faL2])), D⟩),
    d_strand_of := (by obtain ⟨fd, D⟩ := cD.def_ 9 (d := ⟨("strand_of", none), "strand_of", "strand_of", defArgs s_strand_of, defBody s_strand_of, defScope s_strand_of, [], []⟩) rfl; exact ⟨_, fd, He.glo_ok X G (F _ (by simp [faL, faL0, faL1, faL2])), D⟩),
    d_lot_of := (by obtain ⟨fd, D⟩ := cD.def_ 10 (d := ⟨("lot_of", none), "lot_of", "lot_of", defArgs s_lot_of, defBody s_lot_of, defScope s_lot_of, [], []⟩) rfl; exact ⟨_, fd, He.glo_ok X G (F _ (by simp [faL, faL0, faL1, faL2])), D⟩),
    d_pair_text := (by obtain ⟨fd, D⟩ := cD.def_ 11 (d := ⟨("pair_text", none), "pair_text", "pair_text", defArgs s_pair_text, defBody s_pair_text, defScope s_pair_text, [], []⟩) rfl; exact ⟨_, fd, He.glo_ok X G (F _ (by simp [faL, faL0, faL1, faL2])), D⟩),
    d_need_lineup := (by obtain ⟨fd, D⟩ := cD.def_ 12 (d := ⟨("need_lineup", none), "need_lineup", "need_lineup", defArgs s_need_lineup, defBody s_need_lineup, defScope s_need_lineup, [], []⟩) rfl; exact ⟨_, fd, He.glo_ok X G (F _ (by simp [faL, faL0, faL1, faL2])), D⟩),
    d_fixed := (by obtain ⟨fd, D⟩ := cD.def_ 13 (d := ⟨("fixed", none), "fixed", "fixed", defArgs s_fixed, defBody s_fixed, defScope s_fixed, [], []⟩) rfl; exact ⟨_, fd, He.glo_ok X G (F _ (by simp [faL, faL0, faL1, faL2])), D⟩),
    d_net_of := (by obtain ⟨fd, D⟩ := cD.def_ 14 (d := ⟨("net_of", none), "net_of", "net_of", defArgs s_net_of, defBody s_net_of, defScope s_net_of, [], []⟩) rfl; exact ⟨_, fd, He.glo_ok X G (F _ (by simp [faL, faL0, faL1, faL2])), D⟩),
    d_great_spot := (by obtain ⟨fd, D⟩ := cD.def_ 15 (d := ⟨("great_spot", none), "great_spot", "great_spot", defArgs s_great_spot, defBody s_great_spot, defScope s_great_spot, [], []⟩) rfl; exact ⟨_, fd, He.glo_ok X G (F _ (by simp [faL, faL0, faL1, faL2])), D⟩),
    d_can_line := (by obtain ⟨fd, D⟩ := cD.def_ 16 (d := ⟨("can_line", none), "can_line", "can_line", defArgs s_can_line, defBody s_can_line, defScope s_can_line, [], []⟩) rfl; exact ⟨_, fd, He.glo_ok X G (F _ (by simp [faL, faL0, faL1, faL2])), D⟩),
    d_law_bench := (by obtain ⟨fd, D⟩ := cD.def_ 17 (d := ⟨("_law_bench", none), "_law_bench", "_law_bench", defArgs s_law_bench, defBody s_law_bench, defScope s_law_bench, [], []⟩) rfl; exact ⟨_, fd, He.glo_ok X G (F _ (by simp [faL, faL0, faL1, faL2])), D⟩),
    d_law_draw := (by obtain ⟨fd, D⟩ := cD.def_ 18 (d := ⟨("_law_draw", none), "_law_draw", "_law_draw", defArgs s_law_draw, defBody s_law_draw, defScope s_law_draw, [], []⟩) rfl; exact ⟨_, fd, He.glo_ok X G (F _ (by simp [faL, faL0, faL1, faL2])), D⟩),
    d_law_pick := (by obtain ⟨fd, D⟩ := cD.def_ 19 (d := ⟨("_law_pick", none), "_law_pick", "_law_pick", defArgs s_law_pick, defBody s_law_pick, defScope s_law_pick, [], []⟩) rfl; exact ⟨_, fd, He.glo_ok X G (F _ (by simp [faL, faL0, faL1, faL2])), D⟩),
    d_law_mixed := (by obtain ⟨fd, D⟩ := cD.def_ 20 (d := ⟨("_law_mixed", none), "_law_mixed", "_law_mixed", defArgs s_law_mixed, defBody s_law_mixed, defScope s_law_mixed, [], []⟩) rfl; exact ⟨_, fd, He.glo_ok X G (F _ (by simp [faL, faL0, faL1, faL2])), D⟩),
    d_law_lengths := (by obtain ⟨fd, D⟩ := cD.def_ 21 (d := ⟨("_law_lengths", none), "_law_lengths", "_law_lengths", defArgs s_law_lengths, defBody s_law_lengths, defScope s_law_lengths, [], []⟩) rfl; exact ⟨_, fd, He.glo_ok X G (F _ (by simp [faL, faL0, faL1, faL2])), D⟩),
    d_law_strands := (by obtain ⟨fd, D⟩ := cD.def_ 22 (d := ⟨("_law_strands", none), "_law_strands", "_law_strands", defArgs s_law_strands, defBody s_law_strands, defScope s_law_strands, [], []⟩) rfl; exact ⟨_, fd, He.glo_ok X G (F _ (by simp [faL, faL0, faL1, faL2])), D⟩),
    d_law_right := (by obtain ⟨fd, D⟩ := cD.def_ 23 (d := ⟨("_law_right", none), "_law_right", "_law_right", defArgs s_law_right, defBody s_law_right, defScope s_law_right, [], []⟩) rfl; exact ⟨_, fd, He.glo_ok X G (F _ (by simp [faL, faL0, faL1, faL2])), D⟩),
    d_law_nets := (by obtain ⟨fd, D⟩ := cD.def_ 24 (d := ⟨("_law_nets", none), "_law_nets", "_law_nets", defArgs s_law_nets, defBody s_law_nets, defScope s_law_nets, [], []⟩) rfl; exact ⟨_, fd, He.glo_ok X G (F _ (by simp [faL, faL0, faL1, faL2])), D⟩),
    d_law_is_home := (by obtain ⟨fd, D⟩ := cD.def_ 25 (d := ⟨("_law_is_home", none), "_law_is_home", "_law_is_home", defArgs s_law_is_home, defBody s_law_is_home, defScope s_law_is_home, [], []⟩) rfl; exact ⟨_, fd, He.glo_ok X G (F _ (by simp [faL, faL0, faL1, faL2])), D⟩),
    d_law_paper_right := (by obtain ⟨fd, D⟩ := cD.def_ 26 (d := ⟨("_law_paper_right", none), "_law_paper_right", "_law_paper_right", defArgs s_law_paper_right, defBody s_law_paper_right, defScope s_law_paper_right, [], []⟩) rfl; exact ⟨_, fd, He.glo_ok X G (F _ (by simp [faL, faL0, faL1, faL2])), D⟩),
    d_law_parted := (by obtain ⟨fd, D⟩ := cD.def_ 27 (d := ⟨("_law_parted", none), "_law_parted", "_law_parted", defArgs s_law_parted, defBody s_law_parted, defScope s_law_parted, [], []⟩) rfl; exact ⟨_, fd, He.glo_ok X G (F _ (by simp [faL, faL0, faL1, faL2])), D⟩),
    d_law_pulled := (by obtain ⟨fd, D⟩ := cD.def_ 28 (d := ⟨("_law_pulled", none), "_law_pulled", "_law_pulled", defArgs s_law_pulled, defBody s_law_pulled, defScope s_law_pulled, [], []⟩) rfl; exact ⟨_, fd, He.glo_ok X G (F _ (by simp [faL, faL0, faL1, faL2])), D⟩),
    d_law_renumbered_right := (by obtain ⟨fd, D⟩ := cD.def_ 29 (d := ⟨("_law_renumbered_right", none), "_law_renumbered_right", "_law_renumbered_right", defArgs s_law_renumbered_right, defBody s_law_renumbered_right, defScope s_law_renumbered_right, [], []⟩) rfl; exact ⟨_, fd, He.glo_ok X G (F _ (by simp [faL, faL0, faL1, faL2])), D⟩),
    d_law_heard := (by obtain ⟨fd, D⟩ := cD.def_ 30 (d := ⟨("_law_heard", none), "_law_heard", "_law_heard", defArgs s_law_heard, defBody s_law_heard, defScope s_law_heard, [], []⟩) rfl; exact ⟨_, fd, He.glo_ok X G (F _ (by simp [faL, faL0, faL1, faL2])), D⟩),
    d_law_refused_right := (by obtain ⟨fd, D⟩ := cD.def_ 31 (d := ⟨("_law_refused_right", none), "_law_refused_right", "_law_refused_right", defArgs s_law_refused_right, defBody s_law_refused_right, defScope s_law_refused_right, [], []⟩) rfl; exact ⟨_, fd, He.glo_ok X G (F _ (by simp [faL, faL0, faL1, faL2])), D⟩),
    m_Ring___init := ⟨cD.def_ 33 (d := ⟨("Ring", some "__init__"), "__init__", "Ring.__init__", defArgs s_Ring___init, defBody s_Ring___init, defScope s_Ring___init, [], []⟩) rfl⟩,
    m_LineUp___init := ⟨cD.def_ 34 (d := ⟨("LineUp", some "__init__"), "__init__", "LineUp.__init__", defArgs s_LineUp___init, defBody s_LineUp___init, defScope s_LineUp___init, [], []⟩) rfl⟩,
    m_LineUp___str := ⟨cD.def_ 35 (d := ⟨("LineUp", some "__str__"), "__str__", "LineUp.__str__", defArgs s_LineUp___str, defBody s_LineUp___str, defScope s_LineUp___str, [], []⟩) rfl⟩,
    m_Paper___init := ⟨cD.def_ 36 (d := ⟨("Paper", some "__init__"), "__init__", "Paper.__init__", defArgs s_Paper___init, defBody s_Paper___init, defScope s_Paper___init, [], []⟩) rfl⟩,
    m_Paper___bool := ⟨cD.def_ 37 (d := ⟨("Paper", some "__bool__"), "__bool__", "Paper.__bool__", defArgs s_Paper___bool, defBody s_Paper___bool, defScope s_Paper___bool, [], []⟩) rfl⟩,
    m_Denial___bool := ⟨cD.def_ 38 (d := ⟨("Denial", some "__bool__"), "__bool__", "Denial.__bool__", defArgs s_Denial___bool, defBody s_Denial___bool, defScope s_Denial___bool, [], []⟩) rfl⟩,
    m_BadRing___init := ⟨cD.def_ 39 (d := ⟨("BadRing", some "__init__"), "__init__", "BadRing.__init__", defArgs s_BadRing___init, defBody s_BadRing___init, defScope s_BadRing___init, [], []⟩) rfl⟩,
    m_BadLineUp___init := ⟨cD.def_ 40 (d := ⟨("BadLineUp", some "__init__"), "__init__", "BadLineUp.__init__", defArgs s_BadLineUp___init, defBody s_BadLineUp___init, defScope s_BadLineUp___init, [], []⟩) rfl⟩,
    m_Misfit___init := ⟨cD.def_ 41 (d := ⟨("Misfit", some "__init__"), "__init__", "Misfit.__init__", defArgs s_Misfit___init, defBody s_Misfit___init, defScope s_Misfit___init, [], []⟩) rfl⟩,
    bo_Nets := He.eqO_ok e_bo_Nets,
    fb_Paper := e_fb_Paper,
    bo_TooGreat := He.eqO_ok e_bo_TooGreat,
    fb_Denial := e_fb_Denial,
    ty_Ring := tyB_ok e_ty_Ring,
    ty_LineUp := tyB_ok e_ty_LineUp,
    ty_Nets := tyB_ok e_ty_Nets,
    ty_TooGreat := tyB_ok e_ty_TooGreat,
    ko_NoneType_Ring := of_decide_eq_true e_ko_NoneType_Ring,
    ko_int_Ring := of_decide_eq_true e_ko_int_Ring,
    ko_list_Ring := of_decide_eq_true e_ko_list_Ring,
    ko_str_Ring := of_decide_eq_true e_ko_str_Ring,
    ko_NoneType_LineUp := of_decide_eq_true e_ko_NoneType_LineUp,
    ko_bool_LineUp := of_decide_eq_true e_ko_bool_LineUp,
    ko_list_LineUp := of_decide_eq_true e_ko_list_LineUp,
    ko_str_LineUp := of_decide_eq_true e_ko_str_LineUp,
    ko_Nets_Paper := of_decide_eq_true e_ko_Nets_Paper,
    ko_TooGreat_Denial := of_decide_eq_true e_ko_TooGreat_Denial,
    st_LineUp := He.eqO_ok e_st_LineUp,
    fs_LineUp := e_fs_LineUp,
    ox_BadRing := oxB_ok e_ox_BadRing,
    xp_BadRing := He.eqO_ok e_xp_BadRing,
    xi_BadRing := He.eqO_ok e_xi_BadRing,
    xt_BadRing := of_decide_eq_true e_xt_BadRing,
    xc_BadRing := xcB_ok e_xc_BadRing,
    xm_BadRing := of_decide_eq_true e_xm_BadRing,
    kx_BadRing_BadLineUp := of_decide_eq_true e_kx_BadRing_BadLineUp,
    kx_BadRing_Misfit := of_decide_eq_true e_kx_BadRing_Misfit,
    ox_BadLineUp := oxB_ok e_ox_BadLineUp,
    xp_BadLineUp := He.eqO_ok e_xp_BadLineUp,
    xi_BadLineUp := He.eqO_ok e_xi_BadLineUp,
    xt_BadLineUp := of_decide_eq_true e_xt_BadLineUp,
    xc_BadLineUp := xcB_ok e_xc_BadLineUp,
    xm_BadLineUp := of_decide_eq_true e_xm_BadLineUp,
    kx_BadLineUp_BadRing := of_decide_eq_true e_kx_BadLineUp_BadRing,
    kx_BadLineUp_Misfit := of_decide_eq_true e_kx_BadLineUp_Misfit,
    ox_Misfit := oxB_ok e_ox_Misfit,
    xp_Misfit := He.eqO_ok e_xp_Misfit,
    xi_Misfit := He.eqO_ok e_xi_Misfit,
    xt_Misfit := of_decide_eq_true e_xt_Misfit,
    xc_Misfit := xcB_ok e_xc_Misfit,
    xm_Misfit := of_decide_eq_true e_xm_Misfit,
    kx_Misfit_BadRing := of_decide_eq_true e_kx_Misfit_BadRing,
    kx_Misfit_BadLineUp := of_decide_eq_true e_kx_Misfit_BadLineUp,
    su_Nets := suB_ok (He.cls_ok (F _ (by simp [faL, faL0, faL1, faL2]))) e_su_Nets,
    su_TooGreat := suB_ok (He.cls_ok (F _ (by simp [faL, faL0, faL1, faL2]))) e_su_TooGreat,
    sf_Nets := sfB_ok hs.1 e_sf_Nets (by decide +kernel),
    sf_TooGreat := sfB_ok hs.2 e_sf_TooGreat (by decide +kernel) }
end
end KB

-- part KH1
namespace KB
open PySem PySem.W PySem.Calls PyProof.Rows
/-! ### the run -/
abbrev RR : OpenRow := OpenLaw.row PySem.Challenge.rw_ringbars_k50_whole_lineups_by_nets
def nm0 : List PySem.Str := ["_wall", "__name__", "DIGITS", "is_integer", "is_within", "RingError", "BadRing", "BadLineUp", "Misfit", "TooMany", "BadText", "MOST_DIGITS", "number_in", "Scan", "LEAST_BARS", "MOST_BARS", "MOST_LENGTH", "are_lengths", "sums_of", "Ring"]
def nm1 : List PySem.Str := ["need_ring", "DIGITS_OF_BARS", "is_sign", "is_pair", "is_strand", "are_strands", "strand_of", "lot_of", "LineUp", "pair_text", "is_lacking", "least_untold", "take_strand", "pair_in", "need_lineup", "fixed", "Paper", "Denial", "Nets", "TooGreat"]
def nm2 : List PySem.Str := ["net_of", "great_spot", "can_line", "_law_bench", "_law_draw", "_law_pick", "_law_mixed", "_law_lengths", "_law_strands", "_law_right", "_law_nets", "_law_is_home", "_law_paper_right", "_law_parted", "_law_pulled", "_law_renumbered_right", "_law_heard", "_law_refused_right"]
def nmL : List PySem.Str := nm0 ++ nm1 ++ nm2
abbrev qV : Program := view RR.prog [65]
def obL (s : SharedT) : AlY := obsY (HandSHeadRun.getT s)
theorem obL_eq (s : SharedT) : obL s = hookY.obs s.abs := obsY_eq (HandSHeadRun.getT_eq s)

theorem run (w : World) : HandSHeadRun.RunEq RR qV hookY obL 8000 nmL w := by
  intro os
  kernel_rfl
end KB

-- part KH2
namespace KB
open PySem PySem.Spec PyProof.Rows L2
/-! ### what the law's end asks of the head -/
theorem law_at {w : World} {mg : Str → Option Value} {fa : Addr} {h : Heap} (Y : hookY.says w h) (G : h.Ns mainGlobals mg) (hmg : mg ("law" : Str) = some (.ref fa)) :
    ∃ K : PySem.W.Frag, K.In h ∧ LamX.LawAtS PySem.Challenge.rw_ringbars_k50_whole_lineups_by_nets w K CX0 10 63 "_law_script" mg fa h := by
  obtain ⟨K, KX, c⟩ := Y
  have T := tx_of KX G c
  have cD : He.SaysD faL fnL K := congrArg (fun z : He.AlT => z.1) c.t
  obtain ⟨fd, F⟩ := cD.def_ 32 (d := ⟨("law", none), "law", "law", defArgs s_law, defBody s_law, defScope s_law, [], []⟩) rfl
  have e := hmg.symm.trans (He.glo_ok KX G (cD.facts (f := .glo "law") (by simp [faL, faL0, faL1, faL2])))
  cases e
  obtain ⟨fd2, F2⟩ := cD.def_ 31 (d := ⟨("_law_refused_right", none), "_law_refused_right", "_law_refused_right", defArgs s_law_refused_right, defBody s_law_refused_right, defScope s_law_refused_right, [], []⟩) rfl
  have hm2 : mg ("_law_refused_right" : Str) = some (.ref (He.fAd K ("_law_refused_right", none))) := He.glo_ok KX G (cD.facts (f := .glo "_law_refused_right") (by simp [faL, faL0, faL1, faL2]))
  have hcode : ∀ oc od fd' osl, K.lookup (He.fAd K ("_law_refused_right", none)) = some ⟨oc, od, .func fd', osl⟩ → fd'.code = .ref (He.cT K ("_law_refused_right", none)).1 := by
    intro oc od fd' osl lk
    obtain ⟨oc2, od2, dV, kV, doc, pm, an, cdv, ct, osl2, rfl, lk2, hcd, _, _⟩ := F2.ex
    have e2 := lk.symm.trans lk2
    injection e2 with e3
    injection e3 with _ _ e4 _
    injection e4 with e5
    subst e5
    obtain ⟨c0, hc0⟩ := He.codeIn_ref hcd
    have hc1 : (PySem.W.fnOf "_law_refused_right" "_law_refused_right" (defArgs s_law_refused_right) (defBody s_law_refused_right) (defScope s_law_refused_right) dV kV doc pm an cdv ct).code = .ref c0 := hc0
    have e6 : He.codeOf K ("_law_refused_right", none) = c0 := He.codeOf_eq lk hc1
    show _ = Value.ref (He.codeOf K ("_law_refused_right", none))
    rw [e6]
    exact hc1
  have mem : (("_law_refused_right", none) : He.Defn) ∈ tfL := by simp [tfL]
  have b := FunD.bindsA (ps := ["_law_script"]) F fun _ _ _ _ _ _ us hl => match us, hl with | [_], _ => rfl
  refine ⟨K, KX, fd, [He.cT K ("_law_refused_right", none)], spLaw K (He.cT K ("_law_refused_right", none)).2, ?_, ?_, ?_, fun s v => b s [v] rfl, ?_, ?_⟩
  · intro p hp
    rw [List.mem_singleton.mp hp]
    exact c.empty _ mem
  · intro p hp
    rw [List.mem_singleton.mp hp]
    exact c.out _ mem
  · intro p hp
    rw [List.mem_singleton.mp hp]
    exact PySem.W.codeHd_of_K KX (c.hd _ mem)
  · intro H a ns _ _ hT hS
    exact ⟨a, ns, rfl, hS, hT _ (List.mem_singleton.mpr rfl), fun _ => rfl⟩
  · intro base _ _ TB
    exact ok_law T F (G_law_refused_right T (TB _ (List.mem_singleton.mpr rfl)) hm2 F2 hcode)
end KB

-- part KH3
open PySem PySem.W PySem.Calls PyProof.Rows
theorem PySem.Challenge.cw_ringbars_k50_whole_lineups_by_nets_holds : PySem.Challenge.rw_ringbars_k50_whole_lineups_by_nets.Holds := by
  w_on; o_law
  refine HandSHeadRun.head_any (r := KB.RR) (q := KB.qV) (H := KB.hookY) (ob := KB.obL) (M := 8000) (loose := KB.nmL) (d := HandSHeadRun.topDef KB.RR.prog 65) (kwd := []) KB.obL_eq
    (by kernel_rfl) (fun s => by kernel_rfl) KB.run (by kernel_rfl) (by kernel_rfl) (by kernel_rfl) (by rfl) (by first | assumption | decide +kernel) (by decide +kernel) ⟨rfl, rfl, rfl, rfl, rfl, by decide +kernel⟩ ?hw ?hc
  case hw => w_witness2
  case hc =>
    refine LamX.walk_ofTsE (l := PySem.Challenge.rw_ringbars_k50_whole_lineups_by_nets) (n := 63) (k := 10) (x := "_law_script") (CX := fun _ => L2.CX0) rfl (by decide) (by kernel_rfl) ⟨rfl, by decide, by decide⟩ ?F (fun _ _ _ _ _ z => z)
    intro w mg fa h Y G hmg0
    have e : (HandSHeadRun.topDef KB.RR.prog 65).name = ("law" : PySem.Str) := by kernel_rfl
    exact KB.law_at Y G (e ▸ hmg0)

