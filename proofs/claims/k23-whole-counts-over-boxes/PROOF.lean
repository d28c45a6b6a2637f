import PyProof.Rows.All
import Wide.All
import OpenK.AllK
import Wide.FinOn
import HandS.ForMost
import HandS.TupSets
import HandS.DictComp
import HandS.Walk
import HandS.TupAny
import HandS.Zip
import HandS.Style
import HandS.Flow
import HandS.Conv
import HandS.Exc
import KE.KDictDisplayH
import KE.GoesEnum
import KE.GoesMore
import HandS.IsInst
import HandS.ReCall
import HandS.Wide
import KE.SortData
import KE.KDictCopyH
import KE.KStateDown
import HandS.Defaults
import HandS.Head0
import HandS.Head1
import HandS.Head2
import HandS.HeadEnd
import HandS.HeadHook1
import HandS.HeadHook2
import PySem.Challenge.RW_boxedroots_k23_whole_counts_over_boxes
set_option Elab.async false
set_option linter.all false
set_option maxRecDepth 100000
set_option maxHeartbeats 2000000
/-! Dicts whose keys are tuples of ints, wherever the tuples stand (made or written): own object, own rules. -/
namespace Bx
open PySem L2
abbrev En := List Int × Addr × V
abbrev EnV := List Int × Addr × Value
abbrev EnR : List En → List EnV → Prop := Paired fun (p : En) (q : EnV) => p.1 = q.1 ∧ p.2.1 = q.2.1 ∧ RelV p.2.2 q.2.2
def lkE (es : List En) (k : List Int) : Option V := (es.find? fun e => decide (e.1 = k)).map (·.2.2)
def ptE (es : List En) (k : List Int) (b : Addr) (v : V) : List En := if (lkE es k).isSome then es.map (fun e => if e.1 = k then (e.1, e.2.1, v) else e) else es ++ [(k, b, v)]
def DoP (P : Program) (w : World) (a : Addr) (es : List En) (h : Heap) : Prop := es.length ≤ sizeLine ∧ (a == sysModules) = false ∧ ∃ xs : List EnV, EnR es xs ∧
  ∃ o ens ep, h.get? a = some o ∧ o.ExactDict ∧ o.data = .dict ens ep ∧ ens.toList = xs.map (entryOfKey (TK P w)) ∧ (xs.map (·.1)).Nodup
def DO (P : Program) (w : World) (a : Addr) (es : List En) : HO := .ext (DoP P w a es)
/-- the keys stand as tuples -/
def KeyS (K : PySem.W.Frag) (H : Hp) (es : List En) : Prop := ∀ e ∈ es, SqT K H e.2.1 (e.1.map V.int)
section
variable {P : Program} {w : World} {H : Hp} {h h' : Heap} {a : Addr} {es : List En}
theorem DoP.ok (d : DoP P w a es h) : ObjOk P w H h a (DO P w a es) := by
  obtain ⟨_, _, xs, _, o, ens, ep, ho, _⟩ := id d
  refine ⟨d, ⟨o, ho⟩, fun h1 h2 d1 k => ?_⟩
  obtain ⟨l1, s1, xs, r, o1, ens, ep, ho1, q⟩ := d1
  exact ⟨l1, s1, xs, r, o1, ens, ep, k _ ho1, q⟩
theorem doP_of (ok : HOk P w H h) (e : Rd H a (DO P w a es)) : DoP P w a es h := (show ObjOk P w H h a (DO P w a es) from e.ok ok).1
theorem EnR.lk {es : List En} {xs : List EnV} (r : EnR es xs) (k : List Int) : RelO (lkE es k) ((atKey xs k).map (·.2)) := by
  induction r with
  | nil => exact True.intro
  | @cons p q ps qs h t ih =>
    obtain ⟨h1, _, h2⟩ := h
    by_cases e : p.1 = k
    · have e' : q.1 = k := h1.symm.trans e
      have b : atKey (q :: qs) k = some q.2 := by simp [atKey, List.find?_cons, e']
      have b2 : lkE (p :: ps) k = some p.2.2 := by simp [lkE, List.find?_cons, e]
      rw [b, b2]; exact h2
    · have e' : ¬ q.1 = k := fun z => e (h1.trans z)
      have b : atKey (q :: qs) k = atKey qs k := by simp [atKey, List.find?_cons, e']
      have b2 : lkE (p :: ps) k = lkE ps k := by simp [lkE, List.find?_cons, e]
      rw [b, b2]; exact ih
theorem EnR.put {es : List En} {xs : List EnV} (r : EnR es xs) (k : List Int) {b : Addr} {v : V} {u : Value} (ru : RelV v u) : EnR (ptE es k b v) (storedH xs k b u) := by
  have e : (lkE es k).isSome = (atKey xs k).isSome := by
    have q := r.lk k
    revert q
    cases lkE es k <;> cases atKey xs k <;> intro q
    · rfl
    · exact q.elim
    · exact q.elim
    · rfl
  unfold ptE storedH
  rw [e]
  by_cases c : (atKey xs k).isSome = true
  · rw [if_pos c, if_pos c]
    clear c e
    induction r with
    | nil => exact .nil
    | @cons p q ps qs h t ih =>
      rw [List.map_cons, List.map_cons]
      refine .cons ?_ ih
      obtain ⟨h1, h2, h3⟩ := h
      unfold putAt
      by_cases z : p.1 = k
      · rw [if_pos z, if_pos (h1.symm.trans z)]; exact ⟨h1, h2, ru⟩
      · rw [if_neg z, if_neg (fun y => z (h1.trans y))]; exact ⟨h1, h2, h3⟩
  · rw [if_neg c, if_neg c]; exact Paired.snoc r ⟨rfl, rfl, ru⟩
theorem EnR.keys {es : List En} {xs : List EnV} (r : EnR es xs) : es.map (·.1) = xs.map (·.1) := by
  induction r with
  | nil => rfl
  | cons h _ ih => rw [List.map_cons, List.map_cons, ih, h.1]
theorem ptE_length (es : List En) (k : List Int) (b : Addr) (v : V) : (ptE es k b v).length ≤ es.length + 1 := by
  unfold ptE; split <;> simp
theorem KeyS.put {K : PySem.W.Frag} {H : Hp} {es : List En} {k : List Int} {b : Addr} {v : V} (s : KeyS K H es) (sb : SqT K H b (k.map V.int)) : KeyS K H (ptE es k b v) := by
  unfold ptE
  split
  · intro e he
    obtain ⟨e0, h0, rfl⟩ := List.mem_map.mp he
    split <;> exact s e0 h0
  · intro e he
    rcases List.mem_append.mp he with h | h
    · exact s e h
    · have : e = (k, b, v) := by simpa using h
      subst this
      exact sb
end
section
variable {X : Cx} {pins : List (Addr × Obj)} {σ : St} {H : Hp} {s : Shared} {a b : Addr} {es : List En} {k : List Int} {v : V} {A : Around} {E : Value → Shared → Prop}
theorem do_rd (I : Inv X pins σ H s) (e : Rd H a (DO X.prog X.w a es)) (ks : KeyS X.K H es) : es.length ≤ sizeLine ∧ (a == sysModules) = false ∧ ∃ xs : List EnV, EnR es xs ∧ s.heap.DictOfH (TK X.prog X.w) a xs := by
  obtain ⟨l, sm, xs, r, o, ens, ep, ho, hx, hd, he, hn⟩ := doP_of I.hok e
  refine ⟨l, sm, xs, r, o, ens, ep, ho, hx, hd, he, ?_, hn⟩
  have all : ∀ {l : List En} {m : List EnV}, EnR l m → KeyS X.K H l → ∀ x ∈ m, (TK X.prog X.w).is s.heap x.1 x.2.1 := by
    intro l m q
    induction q with
    | nil => intro _ x hx; exact nomatch hx
    | @cons p q ps qs hq t ih =>
      intro ks x hx
      rcases List.mem_cons.mp hx with e | hx
      · subst e
        have z := I.isT (ks p List.mem_cons_self)
        rw [hq.1, hq.2.1] at z
        exact z
      · exact ih (fun e he => ks e (List.mem_cons_of_mem _ he)) x hx
  exact all r ks
theorem do_typeIs (I : Inv X pins σ H s) (e : Rd H a (DO X.prog X.w a es)) : s.TypeIs (.ref a) "dict" ∧ ∀ b, Value.ref a = .ref b → ∃ ob, s.heap.get? b = some ob ∧ ob.dict = none := by
  obtain ⟨l, sm, xs, r, o, ens, ep, ho, hx, hd, he, hn⟩ := doP_of I.hok e
  refine ⟨⟨o, ho, hx.1⟩, fun b q => ?_⟩
  cases q
  exact ⟨o, ho, hx.2.1⟩
/-- d[k], there -/
theorem do_get {Q : Value → Shared → Prop} (hu : A.units + 1 < cLine) (I : Inv X pins σ H s) (e : Rd H a (DO X.prog X.w a es)) (ks : KeyS X.K H es) (kb : SqT X.K H b (k.map V.int)) (l : lkE es k = some v)
    (h : ∀ w' s', Inv X pins σ H s' → RelV v w' → Q w' s') : wpAny (model X.prog X.w) A (getItem (.ref a) (.ref b)) Q E s := by
  obtain ⟨_, _, xs, r, dd⟩ := do_rd I e ks
  obtain ⟨w', hw, rw'⟩ := RelO.some_of (v := v) (o := (atKey xs k).map (·.2)) (by rw [← l]; exact r.lk k)
  obtain ⟨p, hp, hp2⟩ := Option.map_eq_some_iff.mp hw
  refine wpAny_getItem_heap (tupleKind_room_in1 hu) (I.isT kb) dd hp ?_
  rw [hp2]
  exact h w' _ (I.tok _) rw'
/-- d.get(k, x) -/
theorem do_get2 {d : V} {r : Value} {Q : Value → Shared → Prop} (hu : A.units + 1 < cLine) (I : Inv X pins σ H s) (e : Rd H a (DO X.prog X.w a es)) (ks : KeyS X.K H es) (kb : SqT X.K H b (k.map V.int)) (rd : RelV d r)
    (h : ∀ w' s', Inv X pins σ H s' → RelV ((lkE es k).getD d) w' → Q w' s') : wpAny (model X.prog X.w) A (call (.builtin "dict.get") [.ref a, .ref b, r]) Q E s := by
  obtain ⟨_, sm, xs, rr, dd⟩ := do_rd I e ks
  exact call_meetsIn PySem.F.slot_dict_get dd.typeIs PySem.F.entry_dict_get (PySem.F.args_dict_get_3 _ _ _) (meetsH_dict_get_default (TK X.prog X.w) a b sm r) ⟨tupleKind_room_in1 hu, k, xs, I.isT kb, dd, h _ _ (I.tok _) ((rr.lk k).getD rd)⟩
theorem do_put {h' : Heap} {r : Value} {xs : List EnV} {t' : Nat} (I : Inv X pins σ H s) (e : H a = some (DO X.prog X.w a es)) (z : es.length < sizeLine) (rr : EnR es xs) (sm : (a == sysModules) = false) (rv : RelV v r)
    (dd' : h'.DictOfH (TK X.prog X.w) a (storedH xs k b r)) (hs : Heap.SameBut a s.heap h') : Inv X pins σ (upd H a (DO X.prog X.w a (ptE es k b v))) { s with heap := h', toks := t' } := by
  obtain ⟨q, ens, ep, hq, h2, h3, h4, _, h5⟩ := dd'
  refine d_write I (by rw [e]; exact True.intro) hs ⟨q, hq⟩ (DoP.ok ⟨?_, sm, _, rr.put k rv, q, ens, ep, hq, h2, h3, h4, h5⟩)
  have := ptE_length es k b v
  omega
/-- d[k] = v -/
theorem do_set {r : Value} {Q : Unit → Shared → Prop} (hu : A.units + 1 < cLine) (I : Inv X pins σ H s) (e : H a = some (DO X.prog X.w a es)) (z : es.length < sizeLine) (ks : KeyS X.K H es) (kb : SqT X.K H b (k.map V.int)) (rv : RelV v r)
    (h : ∀ s', Inv X pins σ (upd H a (DO X.prog X.w a (ptE es k b v))) s' → Q () s') : wpAny (model X.prog X.w) A (setItem (.ref a) (.ref b) r) Q E s := by
  obtain ⟨_, sm, xs, rr, dd⟩ := do_rd I (.inl e) ks
  have hz : xs.length ≤ sizeLine := by rw [← Paired.length rr]; omega
  exact wpAny_setItem_heap (hsz := hz) (tupleKind_room_in1 hu) (I.isT kb) dd fun h' dd' hs => h _ (do_put I e z rr sm rv dd' hs)
/-- d[k] = v, by a comprehension or a display -/
theorem do_dictSet {r : Value} {Q : Unit → Shared → Prop} (hu : A.units < cLine) (I : Inv X pins σ H s) (e : H a = some (DO X.prog X.w a es)) (z : es.length < sizeLine) (ks : KeyS X.K H es) (kb : SqT X.K H b (k.map V.int)) (rv : RelV v r)
    (h : ∀ s', Inv X pins σ (upd H a (DO X.prog X.w a (ptE es k b v))) s' → Q () s') : wpAny (model X.prog X.w) A (dictSet a (.ref b) r) Q E s := by
  obtain ⟨_, sm, xs, rr, dd⟩ := do_rd I (.inl e) ks
  have hz : xs.length ≤ sizeLine := by rw [← Paired.length rr]; omega
  exact wpAny_dictSet_heap (hsz := hz) (knd := TK X.prog X.w) hu (I.isT kb) dd fun h' dd' hs => h _ (do_put I e z rr sm rv dd' hs)
theorem do_empty {P : Program} {w : World} {H : Hp} (h : Heap) (hb : sysModules < h.objs.size) : ObjOk P w H (h.push { cls := .type "dict", data := .dict #[] }) h.objs.size (DO P w h.objs.size []) :=
  DoP.ok ⟨Nat.zero_le _, by simpa using Nat.ne_of_gt hb, [], .nil, _, #[], 0, Heap.get?_push_size _ rfl, ⟨rfl, rfl, rfl⟩, rfl, rfl, List.nodup_nil⟩
end
/-! ### the rules -/
/-- the dict at x has these entries, to be read -/
def DAt (P : Program) (w : World) (K : PySem.W.Frag) (H : Hp) (x : V) (es : List En) : Prop := ∃ a, x = .ref a ∧ Rd H a (DO P w a es) ∧ KeyS K H es
def tXNew (P : Program) (w : World) : TE := fun _ H Q => ∀ p, H p = none → Q (.ref p) (upd H p (DO P w p []))
def tXGet (P : Program) (w : World) (K : PySem.W.Frag) (td ty : TE) : TE := fun σ H Q => td σ H fun x H1 => ty σ H1 fun y H2 => ∃ es b k v, DAt P w K H2 x es ∧ y = .ref b ∧ SqT K H2 b (k.map V.int) ∧ lkE es k = some v ∧ Q v H2
def sXPut (P : Program) (w : World) (K : PySem.W.Frag) (td ty tv : TE) : TS := fun D σ H => tv σ H fun v H1 => td σ H1 fun x H2 => ty σ H2 fun y H3 => ∃ a es b k, x = .ref a ∧ H3 a = some (DO P w a es) ∧ es.length < sizeLine ∧ KeyS K H3 es ∧ y = .ref b ∧ SqT K H3 b (k.map V.int) ∧
  D.nx σ (upd H3 a (DO P w a (ptE es k b v)))
section
variable {X : Cx} {o i value : Expr} {td ty tv : TE} {pos pos' : Pos}
theorem pe_xnew : PE X (.Dict [] [] pos) (tXNew X.prog X.w) := ⟨fun pins s σ H Q I h =>
  wpAny_Dict_empty ⟨.ref s.heap.objs.size, _, I.laid (a := s.heap.objs.size) (t' := s.toks) (fun b u e => Heap.get?_push_of_some _ e) (Nat.le_refl _) (do_empty _ I.big), rfl, h _ (I.hok.fresh (Nat.le_refl _))⟩⟩
theorem pe_xget (hu : X.A.units + 1 < cLine) (ho : PE X o td) (hi : PE X i ty) (hs : NoSl i) : PE X (.Subscript o i pos) (tXGet X.prog X.w X.K td ty) := by
  refine ⟨fun pins s σ H Q I h => subD_of PySem.F.slot_dict_getitem.lookup hs (thn (ho.run pins s σ H _ I h) fun v s1 ⟨x, H1, I1, r1, q1⟩ => thn (hi.run pins s1 σ H1 _ I1 q1) fun u s2 ⟨y, H2, I2, r2, es, b, k, z, ⟨a, e, rd, ks⟩, e2, kb, l, q⟩ => ?_)⟩
  subst e e2
  obtain rfl : v = Value.ref a := r1
  obtain rfl : u = Value.ref b := r2
  exact ⟨(do_typeIs I2 rd).1, do_get hu I2 rd ks kb l fun w' s3 I3 rw' => ⟨z, H2, I3, rw', q⟩⟩
theorem ps_xput (hu : X.A.units + 1 < cLine) (ho : PE X o td) (hi : PE X i ty) (hv : PE X value tv) (hs : swapsWith value (some (.Subscript o i pos')) pos.line X.env = pure false) : PS X (.Assign [.Subscript o i pos'] value pos) (sXPut X.prog X.w X.K td ty tv) := by
  refine ⟨fun pins s σ H D I h => ?_⟩
  refine wpAny_Assign_Subscript (thn (hv.run pins s σ H _ I h) fun r s1 ⟨v, H1, I1, rv, q1⟩ => thn (ho.run pins s1 σ H1 _ I1 q1) fun u s2 ⟨x, H2, I2, rx, q2⟩ => thn (hi.run pins s2 σ H2 _ I2 q2) fun iv s3 ⟨y, H3, I3, ry, a, es, b, k, ex, g, z, ks, ey, kb, q3⟩ => ?_) hs
  subst ex ey
  obtain rfl : u = Value.ref a := rx
  obtain rfl : iv = Value.ref b := ry
  exact do_set hu I3 g z ks kb rv fun s4 I4 => ⟨σ, _, I4, q3⟩
end
end Bx

set_option Elab.async false
set_option linter.all false
set_option maxRecDepth 100000
set_option maxHeartbeats 2000000
namespace Bx
open PySem L2
section
variable {X : Cx}
/-! ### a display of one pair, get with a default, clear -/
def tXDisp1 (P : Program) (w : World) (K : PySem.W.Frag) (tk tv : TE) : TE := fun σ H Q => ∀ p, H p = none → tk σ (upd H p (DO P w p [])) fun y H1 => tv σ H1 fun z H2 => H2 p = some (DO P w p []) ∧ ∃ b k, y = .ref b ∧ SqT K H2 b (k.map V.int) ∧ Q (.ref p) (upd H2 p (DO P w p [(k, b, z)]))
theorem pe_xdisp1 {k v : Expr} {pos : Pos} {tk tv : TE} (hu : X.A.units < cLine) (hk : PE X k tk) (hv : PE X v tv) : PE X (.Dict [some k] [v] pos) (tXDisp1 X.prog X.w X.K tk tv) := by
  refine ⟨fun pins s σ H Q I q => ?_⟩
  have hn := I.hok.fresh (Nat.le_refl s.heap.objs.size)
  have I1 := I.laid (a := s.heap.objs.size) (o := DO X.prog X.w s.heap.objs.size []) (h' := s.heap.push { cls := .type "dict", data := .dict #[] }) (t' := s.toks) (fun _ _ q => Heap.get?_push_of_some _ q) (Nat.le_refl _) (do_empty s.heap I.big)
  rw [arm_eval_Dict, zip_pairTrees [some k] [v] X.env pos rfl rfl, dictDisplay_pairs (pairTrees [some k] [v] X.env pos) (by intro e; cases e) (by show 1 < 17; decide)]
  refine wpAny_bind (wpAny_standAt (wpAny_bind (wpAny_subDictH (knd := TK X.prog X.w) (Q := fun d s' => wpAny (model X.prog X.w) X.A (pure (Value.ref d)) (EP X pins σ Q) X.xe s') hu (by show 1 ≤ 15; decide) ?_)))
  refine pairTrees_cons_walk (thn (hk.run pins _ σ _ _ I1 (q _ hn)) fun u s1 ⟨y, H1, I2, ry, q1⟩ => thn (hv.run pins s1 σ H1 _ I2 q1) fun u2 s2 ⟨z, H2, I3, rz, hp, b, kk, ey, kb, q2⟩ => pairTrees_nil_walk ?_)
  subst ey
  obtain rfl : u = Value.ref b := ry
  obtain ⟨_, sm, xs, rr, dd⟩ := do_rd I3 (.inl hp) (fun e he => nomatch he)
  cases rr
  refine ⟨[(kk, b, u2)], ⟨rfl, rfl, I3.isT kb, True.intro⟩, dd, fun h' tk dd' hs => wpAny_pure ⟨.ref s.heap.objs.size, _, ?_, rfl, q2⟩⟩
  exact do_put (k := kk) (b := b) (v := z) (r := u2) (xs := []) I3 hp (by show 0 < sizeLine; decide) .nil sm rz dd' hs
def tyX (P : Program) (w : World) (x : V) (H : Hp) : Prop := ∃ a es, x = .ref a ∧ Rd H a (DO P w a es)
theorem ty_X : TyOk X "dict" (tyX X.prog X.w) := by
  intro pins σ H s x v I r ty
  obtain ⟨a, es, rfl, rd⟩ := ty
  cases r
  exact do_typeIs I rd
def rXGet2 (P : Program) (w : World) (K : PySem.W.Frag) : V → List V → Hp → VK → Prop := fun x xs H Q => ∃ es b k d, DAt P w K H x es ∧ xs = [.ref b, d] ∧ SqT K H b (k.map V.int) ∧ Q ((lkE es k).getD d) H
theorem mt_xget2 (hu : X.A.units + 1 < cLine) : MtR X "dict.get" (rXGet2 X.prog X.w X.K) := by
  intro pins s σ H x xs v us Q I rx rs h
  obtain ⟨es, b, k, d, ⟨a, rfl, rd, ks⟩, rfl, kb, q⟩ := h
  cases rx
  obtain ⟨u1, u2, rfl, r1, r2⟩ := vals2 rs
  cases r1
  exact do_get2 hu I rd ks kb r2 fun w' s' I' rw' => ⟨_, H, I', rw', q⟩
def rXClear (P : Program) (w : World) : V → List V → Hp → VK → Prop := fun x xs H Q => ∃ a es, x = .ref a ∧ xs = [] ∧ H a = some (DO P w a es) ∧ Q .non (upd H a (DO P w a []))
theorem mt_xclear : MtR X "dict.clear" (rXClear X.prog X.w) := by
  intro pins s σ H x xs v us Q I rx rs h
  obtain ⟨a, es, rfl, rfl, hd, q⟩ := h
  cases rx
  cases rs
  obtain ⟨l, sm, xs, r, o, ens, ep, ho, hx, hdt, he, hn⟩ := doP_of I.hok (.inl hd)
  have hsz : ens.size ≤ sizeLine := by
    have e1 : ens.size = xs.length := size_of_entries he
    have e2 : es.length = xs.length := Paired.length r
    omega
  refine call_meetsIn PySem.F.slot_dict_clear ⟨o, ho, hx.1⟩ PySem.F.entry_dict_clear (PySem.F.args_dict_clear_1 _) (meets_dict_clear_raw a) ⟨ens, ep, ⟨o, ho, hx, hdt⟩, hsz, fun h' hr hs => ⟨.non, upd H a (DO X.prog X.w a []), ?_, rfl, q⟩⟩
  obtain ⟨o', ho', hx', hd'⟩ := hr
  exact d_write (t' := s.toks) I (by rw [hd]; exact True.intro) hs ⟨o', ho'⟩ (DoP.ok ⟨Nat.zero_le _, sm, [], .nil, o', #[], ep + 1, ho', hx', hd', rfl, List.nodup_nil⟩)
/-! ### isinstance(d, dict) -/
def rXIsD (P : Program) (w : World) : List V → Hp → VK → Prop := fun xs H Q => ∃ a es, xs = [.ref a, .ty "dict"] ∧ Rd H a (DO P w a es) ∧ Q (.bl true) H
theorem call_xisd : CallR X (.builtin "isinstance") (rXIsD X.prog X.w) := by
  intro pins s σ H xs us Q I r h
  obtain ⟨a, es, rfl, rd, q⟩ := h
  obtain ⟨u1, u2, rfl, r1, r2⟩ := vals2 r
  cases r1
  cases r2
  obtain ⟨_, sm, xs, rr, o, ens, ep, ho, hx, _⟩ := doP_of I.hok rd
  exact PySem.W.kia_one (K := X.K) (t := .type "dict") (c := .type "dict") PySem.W.kitx_dict I.kIn ⟨o, ho, hx.1⟩ (kit_ty (by decide +kernel)) (fun z => nomatch z) fun tk => ⟨.bl true, H, I.tok tk, rfl, q⟩
/-! ### the keys walked, the dict locked -/
def Itx (P : Program) (w : World) (d : Addr) (o : Obj) (es : List En) : It :=
  ⟨fun i H => H d = some (.frz o (DO P w d es)) ∧ i < es.length, fun i H x H' => H' = H ∧ ∃ e, es[i]? = some e ∧ x = .ref e.2.1, fun i H => H d = some (.frz o (DO P w d es)) ∧ es.length ≤ i⟩
theorem frzX {pins : List (Addr × Obj)} {σ : L2.St} {H : Hp} {s : Shared} {d : Addr} {o : Obj} {es : List En} (I : Inv X pins σ H s) (h : H d = some (.frz o (DO X.prog X.w d es))) :
    (d == sysModules) = false ∧ s.heap.get? d = some o ∧ o.ExactDict ∧ ∃ (ens : Array DictEntry) (ep : Nat), o.data = .dict ens ep ∧ ens.size = es.length ∧ ∀ (i : Nat) (e : En), es[i]? = some e → ∃ en : DictEntry, ens[i]? = some en ∧ en.key = .ref e.2.1 := by
  obtain ⟨hd, ⟨⟨l, sm, xs, r, o', ens, ep, ho, hx, hdt, he, hn⟩, _, _⟩⟩ := I.hok d _ h
  rw [hd] at ho
  cases ho
  refine ⟨sm, hd, hx, ens, ep, hdt, ?_, fun i e hi => ?_⟩
  · have l1 : ens.size = xs.length := size_of_entries he
    have l2 : es.length = xs.length := Paired.length r
    omega
  · obtain ⟨b, hb, _, e2, _⟩ := paired_get r hi
    have q := entry_at he i
    rw [hb] at q
    exact ⟨_, q, by show Value.ref b.2.1 = _; rw [e2]⟩
theorem turn_x {P : Program} {w : World} {K : PySem.W.Frag} {tg : Expr} {d : Addr} {o : Obj} {es : List En} {ens : Array DictEntry} {ep : Nat} (it : Addr) (hod : o.data = .dict ens ep) :
    Turn P w K tg (Itx P w d o es) [it] it (fun i h => h.IsKeyIter it d i es.length ep) where
  mem := by simp
  obj := fun i h st b hb => by
    have e : b = it := by simpa using hb
    subst e
    obtain ⟨oi, e, c, dd⟩ := st
    exact ⟨oi, e, fun v z => by rw [dd] at z; cases z⟩
  keep := fun i h h' st k => st.at fun oi e => k it (by simp) oi e
  item := by
    intro X hP hw hK hc i pins s σ H E I hf st hg
    subst hP hw hK
    obtain ⟨hd, hi⟩ := hg
    obtain ⟨f0, f1, f2, f3, f4, f5⟩ := hf it (by simp)
    obtain ⟨hs, hgd, hx, ens', ep', hdt, hsz, ent⟩ := frzX I hd
    obtain ⟨rfl, rfl⟩ := dict_ep hod hdt
    obtain ⟨e, he⟩ : ∃ e, es[i]? = some e := ⟨es[i], List.getElem?_eq_getElem hi⟩
    obtain ⟨en, hen, hkey⟩ := ent i e he
    refine next_key_item st hgd hdt hsz hen fun h' st' sb => ?_
    have I1 : Inv X pins σ H { s with heap := h' } := I.turned (t' := s.toks) (fun b ob hb e => (sb.2 b hb).trans e) f0 f1 f3 f4 f5
    obtain ⟨oi, e1, c, dd⟩ := id st'
    exact ⟨en.key, rfl, go_of (s := { s with heap := h' }) e1 c dd (by decide) ⟨.ref e.2.1, H, I1, hkey, ⟨rfl, e, he, rfl⟩, st', fun b hb => (hf b hb).1⟩⟩
  done := by
    intro X hP hw hK hc i pins s σ H E I hf st hg
    subst hP hw hK
    obtain ⟨hd, hi⟩ := hg
    obtain ⟨f0, f1, f2, f3, f4, f5⟩ := hf it (by simp)
    obtain ⟨hs, hgd, hx, ens', ep', hdt, hsz, ent⟩ := frzX I hd
    obtain ⟨rfl, rfl⟩ := dict_ep hod hdt
    exact next_key_end (I.ok.hd hc) st hgd hdt hsz hi fun h' eb => ⟨rfl, I.turned (t' := s.toks) (fun b ob hb e => eb b ob hb e) f0 f1 f3 f4 f5⟩
  self := fun A i s Q E st h => by
    refine wpAny_pyIter_slot st.typeIs PySem.F.slot_dict_keyiterator_iter (wpAny_call_entry PySem.F.slot_dict_keyiterator_iter st.typeIs PySem.F.entry_dict_keyiterator_iter ?_ (PySem.F.args_dict_keyiterator_iter_1 _))
    show wpAny _ _ (ret (.ref it)) _ _ s
    exact wpAny_pure ⟨_, rfl, "dict_keyiterator", _, st.typeIs, PySem.F.slot_dict_keyiterator_next.lookup, h⟩
def iXKeys (P : Program) (w : World) (td : TE) : TI := fun σ H R => td σ H fun x H1 => ∃ d o es, x = .ref d ∧ H1 d = some (.frz o (DO P w d es)) ∧ R (Itx P w d o es) H1
theorem pi_xkeys {tg e : Expr} {td : TE} (he : PE X e td) : PI X tg e (iXKeys X.prog X.w td) := by
  refine ⟨fun pins s σ H R I h => ?_⟩
  refine thn (he.run pins s σ H _ I h) fun u s1 ⟨x, H1, I1, rx, d, o, es, ex, hd, q⟩ => ?_
  subst ex
  obtain rfl : u = Value.ref d := rx
  obtain ⟨hs, hgd, hx, ens, ep, hdt, hsz, ent⟩ := frzX I1 hd
  refine iter_keys hs hgd hx hdt (pi_one (tk := s1.toks) I1 _ (turn_x _ hdt) ⟨_, Heap.get?_push_size _ rfl, rfl, ?_⟩ q)
  rw [hsz] <;> rfl
theorem walk_x {P : Program} {w : World} {d : Addr} {o : Obj} {es : List En} : Walk (Itx P w d o es) es.length (fun H => H d = some (.frz o (DO P w d es))) (fun i H x H' => H' = H ∧ ∃ e, es[i]? = some e ∧ x = .ref e.2.1) :=
  ⟨fun _ _ hi q => ⟨q, hi⟩, fun _ q => ⟨q, Nat.le_refl _⟩, fun _ _ _ _ _ _ y => y⟩
end
end Bx

set_option Elab.async false
set_option linter.all false
set_option maxRecDepth 100000
set_option maxHeartbeats 2000000
namespace Bx
open PySem L2
/-! ### sorted(d), any number of keys -/
theorem lexLt_lt : ∀ xs ys : List Int, HT.lexLt xs ys = decide (xs < ys)
  | [], [] => by simp [HT.lexLt]
  | [], _ :: _ => by simp [HT.lexLt]
  | _ :: _, [] => by simp [HT.lexLt]
  | x :: xs, y :: ys => by
    have ih := lexLt_lt xs ys
    unfold HT.lexLt
    by_cases e : x = y
    · subst e
      rw [if_pos rfl, ih]
      simp [List.cons_lt_cons_iff]
    · rw [if_neg e]
      simp [List.cons_lt_cons_iff, e]
theorem le_tr {x y z : List Int} (h1 : (!decide (y < x)) = true) (h2 : (!decide (z < y)) = true) : (!decide (z < x)) = true := by
  simp only [Bool.not_eq_true', decide_eq_false_iff_not, List.not_lt] at *
  exact List.le_trans h1 h2
theorem le_tot (x y : List Int) : ((!decide (y < x)) || (!decide (x < y))) = true := by
  simp only [Bool.or_eq_true, Bool.not_eq_true', decide_eq_false_iff_not, List.not_lt]
  exact List.le_total x y
theorem le_ne_lt {x y : List Int} (h : (!decide (y < x)) = true) (hn : x ≠ y) : x < y := by
  simp only [Bool.not_eq_true', decide_eq_false_iff_not, List.not_lt] at h
  rcases List.le_iff_lt_or_eq.mp h with h | h
  · exact h
  · exact absurd h hn
def encK (e : En) : PyData := .tuple (e.1.map .int)
theorem dataLe_enc : PySem.W.dataLe false encK = fun p q => !decide (q.1 < p.1) := by
  rw [PySem.W.dataLe_eq]
  funext p q
  show (!PySem.W.dataLt (encK q) (encK p)) = _
  have h := PySem.W.dataLt_ints q.1 p.1
  rw [← h]
  rfl
def rXSorted (P : Program) (w : World) (K : PySem.W.Frag) : List V → Hp → VK → Prop := fun xs H Q => ∃ a es, xs = [.ref a] ∧ Rd H a (DO P w a es) ∧ KeyS K H es ∧ (∀ e ∈ es, e.1 ≠ []) ∧
  ∀ (L : List En) (p : Addr), L.Perm es → L.Pairwise (fun e f => HT.lexLt e.1 f.1 = true) → H p = none → Q (.ref p) (upd H p (.lst (L.map fun e => V.ref e.2.1)))
theorem refs_map {L : List En} : ∀ {out : List Value}, PySem.W.EachIs (fun v (e : En) => v = Value.ref e.2.1) out L → Vals (L.map fun e => V.ref e.2.1) out := by
  induction L with
  | nil => intro out h; cases h; exact .nil
  | cons e L ih => intro out h; cases h with | cons h1 h2 => exact .cons h1 (ih h2)
theorem each_get {α β : Type} {R : α → β → Prop} : ∀ {as : List α} {bs : List β}, as.length = bs.length → (∀ (j : Nat) a b, as[j]? = some a → bs[j]? = some b → R a b) → PySem.W.EachIs R as bs
  | [], [], _, _ => .nil
  | [], _ :: _, h, _ => by simp at h
  | _ :: _, [], h, _ => by simp at h
  | a :: as, b :: bs, h, f => .cons (f 0 a b rfl rfl) (each_get (by simpa using h) fun j x y h1 h2 => f (j + 1) x y (by simpa using h1) (by simpa using h2))
theorem reads_ints {P : Program} {w : World} {h : Heap} : ∀ {k : List Int} {vs : List Value}, ItemsAre (intKind P w) k vs → ReadsAll h vs (k.map .int) []
  | [], _, .nil => .nil
  | i :: k, _, .cons (v := v) h1 h2 => by
    obtain ⟨t, rfl⟩ := Value.isInt_shape h1
    exact .cons (as := []) (bs := []) (.int i t) (reads_ints h2)
theorem isT_reads {P : Program} {w : World} {h : Heap} {k : List Int} {b : Addr} (x : IsT P w h k b) : Reads h (.ref b) (.tuple (k.map .int)) [] := by
  obtain ⟨o, items, n, ho, hc, hd, hi⟩ := x
  exact .tuple ho hc hd (reads_ints hi)
theorem enc_depth (e : En) : (encK e).depth ≤ 1 := by
  show (PyData.tuple (e.1.map .int)).depth ≤ 1
  have h := PySem.W.depth_ints e.1
  simp only [PyData.depth, h]
  omega
section
variable {X : Cx}
theorem call_xsorted (hcalm : X.calm = true) (hu : X.A.units + 64 < cLine) : CallR X (.builtin "sorted") (rXSorted X.prog X.w X.K) := by
  intro pins s σ H xs us Q I r q
  obtain ⟨a, es, ex, hd, ks, hne, q⟩ := q
  subst ex
  obtain ⟨u, eu, rx⟩ := vals1 r
  subst eu
  cases rx
  obtain ⟨z, lo, xs, rel, o, ens, ep, ho, hx, hdt, he, hkeys, hnd⟩ := do_rd I hd ks
  have hsz : ens.size = es.length := by
    have l1 : ens.size = xs.length := size_of_entries he
    have l2 : es.length = xs.length := Paired.length rel
    omega
  refine Calls.call_function_entry PyProof.Rows.kind_sorted PyProof.Rows.plain_sorted PyProof.Rows.entry_sorted (PyProof.Rows.args_sorted1 _) ?_
  unfold Builtin.«sorted»
  refine wpAny_bind (m := checkCount "sorted" 1 1 _) (wpAny_pure ?_)
  refine wpAny_bind (PySem.W.kdu_collect (A := X.A.in1) (KdlSrc.rawDict (es := ens) (ep := ep) lo) (I.ok.hd hcalm) ⟨o, ho, hx, hdt⟩ (by rw [hsz]; exact z) fun h' tk acc hk hacc => ?_)
  have hal : acc.toList.length = es.length := by rw [Array.length_toList, hacc.1, hsz]
  have I1 : Inv X pins σ H { s with heap := h', toks := tk } := I.kept hk
  have hE : PySem.W.EachIs (fun v (e : En) => v = Value.ref e.2.1) acc.toList es := by
    refine each_get hal fun j v e hv he' => ?_
    obtain ⟨hi, e2⟩ := hacc.2 j v (by rw [← Array.getElem?_toList]; exact hv)
    obtain ⟨b, hb, _, e3, _⟩ := paired_get rel he'
    have e4 := entry_at he j
    rw [hb] at e4
    rw [e2]
    have e5 : ens[j] = entryOfKey (TK X.prog X.w) b := by
      rw [Array.getElem?_eq_getElem hi] at e4
      exact Option.some.inj e4
    rw [e5, e3]
    rfl
  refine wpAny_bind (wpAny_newList ?_ (by rw [hal]; exact z))
  have hoL : (h'.push (PyProof.Rows.seqObj "list" acc.toList.toArray 0)).get? h'.objs.size = some (PyProof.Rows.seqObj "list" acc.toList.toArray 0) := Heap.get?_push_size _ rfl
  show wpAny _ _ _ _ _ { s with heap := h'.push (PyProof.Rows.seqObj "list" acc.toList.toArray 0), toks := tk }
  refine wpAny_bind (wpAny_holding (PySem.W.list_sort_data (s := { s with heap := h'.push (PyProof.Rows.seqObj "list" acc.toList.toArray 0), toks := tk }) (enc := encK) (R := fun v (e : En) => v = Value.ref e.2.1) hoL hE ?_ ?_ ?_ z ?_ fun out hlen hout => ?_))
  · refine each_get hal fun j v e hv he' => ⟨[], ?_, by simp⟩
    have hin : e ∈ es := List.mem_of_getElem? he'
    have e2 : v = Value.ref e.2.1 := by
      have := (PySem.W.EachIs.zip hE (v, e) (List.mem_of_getElem? (i := j) (by rw [List.getElem?_zip_eq_some]; exact ⟨hv, he'⟩)))
      exact this
    rw [e2]
    exact PyProof.Rows.Reads.keeps (fun b o q => Heap.get?_push_of_some _ q) (isT_reads (I1.isT (ks e hin)))
  · exact PySem.W.AllAlike.of fun b b' => by
      show PySem.W.alike (.tuple (b.1.map .int)) (.tuple (b'.1.map .int)) = true
      simp only [PySem.W.alike]
      exact PySem.W.alike_ints b.1 b'.1
  · refine .inl fun d hd => ?_
    obtain ⟨e, he', rfl⟩ := List.mem_map.mp hd
    show ∃ x r, PyData.tuple (e.1.map .int) = .tuple (x :: r)
    cases hk' : e.1 with
    | nil => exact absurd hk' (hne e he')
    | cons x r => exact ⟨_, _, rfl⟩
  · intro b _
    have := enc_depth b
    show X.A.in1.units + 1 + (encK b).depth < cLine
    have e : X.A.in1.units = X.A.units + 1 := rfl
    omega
  · obtain ⟨e', he'⟩ := PyProof.Rows.sortedHeap_at (vs := acc.toList) (out := List.toArray out) hoL
    rw [dataLe_enc] at hout
    have hperm : (es.mergeSort (fun p q : En => !decide (q.1 < p.1))).Perm es := List.mergeSort_perm _ _
    have hlenL : ((es.mergeSort (fun p q : En => !decide (q.1 < p.1))).map fun e => V.ref e.2.1).length ≤ sizeLine := by
      rw [List.length_map, hperm.length_eq]; exact z
    have hsort : (es.mergeSort (fun p q : En => !decide (q.1 < p.1))).Pairwise (fun p q => (!decide (q.1 < p.1)) = true) := by
      refine List.pairwise_mergeSort (le := fun p q : En => !decide (q.1 < p.1)) ?_ ?_ es
      · intro x y z h1 h2
        exact le_tr h1 h2
      · intro x y
        exact le_tot x.1 y.1
    have hnd' : (es.map (·.1)).Nodup := by rw [rel.keys]; exact hnd
    refine wpAny_pure ⟨_, rfl, .ref h'.objs.size, upd H h'.objs.size (.lst ((es.mergeSort (fun p q : En => !decide (q.1 < p.1))).map fun e => V.ref e.2.1)), I1.laid (t' := tk) (fun b u e => ?_) (Nat.le_refl _)
      (show ObjOk X.prog X.w _ _ _ (.lst _) from ⟨hlenL, out, e', refs_map hout, he'⟩), rfl, q _ _ hperm ?_ (I1.hok.fresh (Nat.le_refl _))⟩
    · have hb : b < h'.objs.size := Heap.lt_size e
      rw [PyProof.Rows.sortedHeap_old (Nat.ne_of_lt hb) (by show b < (h'.push _).objs.size; rw [Heap.size_push]; exact Nat.lt_succ_of_lt hb)]
      exact Heap.get?_push_of_some _ e
    · have hndL : ((es.mergeSort (fun p q : En => !decide (q.1 < p.1))).map (·.1)).Nodup := (hperm.map _).nodup_iff.mpr hnd'
      have hne2 : (es.mergeSort (fun p q : En => !decide (q.1 < p.1))).Pairwise (fun p q => p.1 ≠ q.1) := List.pairwise_map.mp hndL
      refine (hsort.and hne2).imp fun {p q} h => ?_
      rw [lexLt_lt]
      exact decide_eq_true (le_ne_lt h.1 h.2)
end
end Bx

set_option Elab.async false
set_option linter.all false
set_option maxRecDepth 100000
set_option maxHeartbeats 2000000
namespace Bx
open PySem L2
/-! ### two dicts of the same pairs -/
section
variable {prog : Program} {w : World} {A : Around} {E : Value → Shared → Prop} {s : Shared}
theorem same_pairs {nm : String} {a b : Addr} {xs ys : List EnV} {Q : Bool → Shared → Prop} (ha : (a == sysModules) = false) (hb : (b == sysModules) = false) (hu : A.units < cLine)
    (da : s.heap.DictOfH (TK prog w) a xs) (db : s.heap.DictOfH (TK prog w) b ys) (hl : xs.length = ys.length)
    (hit : ∀ x ∈ xs, ∃ p, atKey ys x.1 = some p ∧ SeqAt.EqAt A s x.2.2 p.2 true) (h : Q true s) : wpAny (model prog w) A (Builtin.Dict.samePairs nm a b) Q E s := by
  obtain ⟨oa, es, ep, hoa, _, hda, hea, hia, hna⟩ := da
  obtain ⟨ob, fs, fp, hob, _, hdb, heb, hib, hnb⟩ := db
  have ha1 : es.size = xs.length := size_of_entries hea
  have hb1 : fs.size = ys.length := size_of_entries heb
  have hsz : es.size = fs.size := by omega
  unfold Builtin.Dict.samePairs Builtin.Dict.showsAll
  rw [if_neg (show ¬ (a == sysModules) = true by rw [ha]; exact Bool.false_ne_true), if_neg (show ¬ (b == sysModules) = true by rw [hb]; exact Bool.false_ne_true)]
  refine wpAny_bind (wpAny_pure (wpAny_bind (wpAny_pure ?_)))
  refine wpAny_bind (wpAny_dictEntries hoa hda ?_)
  dsimp only
  refine wpAny_bind (wpAny_dictEntries hob hdb ?_)
  rw [if_neg (by rw [hsz]; simp)]
  refine wpAny_bind (wpAny_dictEpoch hoa hda ?_)
  refine wpAny_bind ?_
  rw [Std.Legacy.Range.forIn_eq_forIn_range']
  simp only [Std.Legacy.Range.size, Nat.sub_zero, Nat.add_sub_cancel, Nat.div_one]
  refine wpAny_forIn_list _ (fun rest q s' => s' = s ∧ q = (none, ()) ∧ ∃ i, rest = List.range' i (es.size - i) ∧ i ≤ es.size) _ ?_ ?_ _ _ ⟨rfl, rfl, 0, by simp, Nat.zero_le _⟩
  · rintro x rest q s' ⟨rfl, rfl, i, hr, hi⟩
    have hlt : i < es.size := by
      rcases Nat.lt_or_ge i es.size with h | h
      · exact h
      · rw [Nat.sub_eq_zero_of_le h] at hr; simp at hr
    obtain ⟨rfl, hrest⟩ : x = i ∧ rest = List.range' (i + 1) (es.size - (i + 1)) := by
      have e : es.size - i = (es.size - (i + 1)) + 1 := by omega
      rw [e, List.range'_succ] at hr
      injection hr with h1 h2
      exact ⟨h1, h2⟩
    refine wpAny_bind (wpAny_dictEntries hoa hda ?_)
    obtain ⟨y, hy⟩ : ∃ y, xs[x]? = some y := ⟨xs[x]'(by omega), List.getElem?_eq_getElem (by omega)⟩
    have hex : es[x]? = some (entryOfKey (TK prog w) y) := by rw [entry_at hea x, hy]; rfl
    have hmem : y ∈ xs := List.mem_of_getElem? hy
    obtain ⟨p, hp, heq⟩ := hit y hmem
    rw [hex]
    show wpAny _ _ (holding [_, _] _ >>= _) _ _ _
    refine wpAny_bind (wpAny_holding (wpAny_bind (wpAny_dictFind_heap (knd := TK prog w) (k := y.1) (a := y.2.1) hu (hia y hmem) hob hdb heb hib hnb ?_ ?_)))
    · intro hno
      rw [atKey_none_of_get hno] at hp
      cases hp
    · intro j p' hj
      have e1 := atKey_of_get hnb hj
      rw [hp] at e1
      cases e1
      refine wpAny_bind (wpAny_dictEntries hob hdb ?_)
      have hfj : fs[j]? = some (entryOfKey (TK prog w) (y.1, p)) := by rw [entry_at heb j, hj]; rfl
      rw [hfj]
      refine wpAny_holding (heq prog w _ _ ?_)
      show wpAny _ _ (if (!true) = true then _ else _) _ _ _
      rw [if_neg (by decide)]
      refine wpAny_bind (wpAny_dictEpoch hoa hda ?_)
      rw [if_neg (by simp)]
      exact wpAny_pure ⟨rfl, rfl, x + 1, hrest, hlt⟩
  · rintro q s' ⟨rfl, rfl, i, hr, hi⟩
    exact wpAny_pure h
theorem dicts_ne {a b : Addr} {xs ys : List EnV} {Q : Value → Shared → Prop} (ha : (a == sysModules) = false) (hb : (b == sysModules) = false) (hu : A.units + 1 < cLine)
    (da : s.heap.DictOfH (TK prog w) a xs) (db : s.heap.DictOfH (TK prog w) b ys) (hl : xs.length = ys.length)
    (hit : ∀ x ∈ xs, ∃ p, atKey ys x.1 = some p ∧ SeqAt.EqAt A.in1 s x.2.2 p.2 true) (h : Q (.bool false) s) : wpAny (model prog w) A (compareOp .NotEq (.ref a) (.ref b)) Q E s := by
  refine wpAny_richCompare_same_room (op := .NotEq) da.typeIs db.typeIs PySem.F.slot_dict_ne (wpAny_call_entry PySem.F.slot_dict_ne da.typeIs PySem.F.entry_dict_ne ?_ (PySem.F.args_dict_ne_2 _ _)) (by omega)
  show wpAny _ _ (Builtin.Dict.dictSlotArgs "__ne__" ⟨[.ref a, .ref b], []⟩ >>= _) _ _ s
  refine wpAny_bind ?_
  unfold Builtin.Dict.dictSlotArgs
  refine wpAny_bind (wpAny_notOrdered_dict da.typeIs ?_)
  show wpAny _ _ (pure (Value.ref a, Value.ref b)) _ _ s
  refine wpAny_pure ?_
  refine wpAny_bind (wpAny_isInstance (T := "dict") db.typeIs PySem.F.sub_dict_dict ?_)
  simp only [Bool.not_true, Bool.false_eq_true, if_false]
  refine wpAny_bind (wpAny_pure (wpAny_bind (wpAny_pure ?_)))
  refine wpAny_bind (same_pairs ha hb hu da db hl hit ?_)
  refine wpAny_pure ⟨_, rfl, ?_, ?_⟩
  · exact fun x => nomatch x
  · simpa using h
end
/-- two dicts told unlike: they are not -/
def rXNe (P : Program) (w : World) (K : PySem.W.Frag) : R2 := fun x y H Q => ∃ ea eb, DAt P w K H x ea ∧ DAt P w K H y eb ∧ ea.length = eb.length ∧ (∀ e ∈ ea, ∃ v ns, lkE eb e.1 = some v ∧ TupI K H e.2.2 ns ∧ TupI K H v ns) ∧ Q (.bl false) H
theorem shaped_tints (ns : List Int) : SeqAt.shaped (.tuple (ns.map PyData.int)) = true := by
  have h1 := PySem.W.depthAll_ints ns
  have h2 : PyData.depth (.tuple (ns.map PyData.int)) ≤ 64 := by simp only [PyData.depth]; omega
  show (PyData.canLay0 (.tuple (ns.map PyData.int)) && decide (PyData.depth (.tuple (ns.map PyData.int)) ≤ 64)) = true
  rw [Bool.and_eq_true]
  exact ⟨by simp only [PyData.canLay0]; exact PySem.W.canLayAll0_ints ns, decide_eq_true h2⟩
theorem eqv_tints (ns ms : List Int) : PyData.eqv (.tuple (ns.map PyData.int)) (.tuple (ms.map PyData.int)) = decide (ns = ms) := by
  rw [← SeqAt.same_eq_eqv _ _ (by simp only [SeqAt.noMix]; exact PySem.W.noMix_ints ns ms)]
  simp only [PySem.Spec.same]
  exact PySem.W.same_ints ns ms
theorem eqAt_tup {X : Cx} {pins : List (Addr × Obj)} {σ : L2.St} {H : Hp} {s : Shared} {A : Around} {x y : V} {u v : Value} {ns : List Int} (I : Inv X pins σ H s) (hx : TupI X.K H x ns) (hy : TupI X.K H y ns) (ru : RelV x u) (rv : RelV y v) (hu : A.in1.units + 64 < cLine) :
    SeqAt.EqAt A.in1 s u v true := by
  obtain ⟨t, rfl, h1⟩ := hx
  obtain ⟨t', rfl, h2⟩ := hy
  cases ru
  cases rv
  have q := PySem.W.keq_at (A := A) (isT_reads (I.isT h1)) (isT_reads (I.isT h2)) ?_ ?_ hu
  · have e : PyData.eqv (.tuple (ns.map PyData.int)) (.tuple (ns.map PyData.int)) = true := by rw [eqv_tints]; simp
    rw [e] at q
    exact q
  · exact shaped_tints ns
  · exact shaped_tints ns
section
variable {X : Cx}
theorem op_xne (hu : X.A.units + 66 < cLine) : OpR X (compareOp .NotEq) (rXNe X.prog X.w X.K) := by
  intro pins s σ H x y v u Q I rx ry h
  obtain ⟨ea, eb, ⟨a, rfl, ra, ka⟩, ⟨b, rfl, rb, kb⟩, hl, hp, q⟩ := h
  cases rx
  cases ry
  obtain ⟨_, sa, xs, r1, d1⟩ := do_rd I ra ka
  obtain ⟨_, sb, ys, r2, d2⟩ := do_rd I rb kb
  have l1 : ea.length = xs.length := Paired.length r1
  have l2 : eb.length = ys.length := Paired.length r2
  refine dicts_ne sa sb (by omega) d1 d2 (by omega) (fun x hx => ?_) ⟨.bl false, H, I, rfl, q⟩
  have fnd : ∀ {l : List En} {m : List EnV}, EnR l m → x ∈ m → ∃ e ∈ l, e.1 = x.1 ∧ RelV e.2.2 x.2.2 := by
    intro l m r
    induction r with
    | nil => intro hx; exact nomatch hx
    | @cons p q ps qs hq t ih =>
      intro hx
      rcases List.mem_cons.mp hx with e | hx
      · subst e
        exact ⟨p, List.mem_cons_self, hq.1, hq.2.2⟩
      · obtain ⟨e, he, r⟩ := ih hx
        exact ⟨e, List.mem_cons_of_mem _ he, r⟩
  obtain ⟨e, he, e1, e2⟩ := fnd r1 hx
  obtain ⟨v, ns, lk, t1, t2⟩ := hp e he
  obtain ⟨w', hw, rw'⟩ := RelO.some_of (v := v) (o := (atKey ys e.1).map (·.2)) (by rw [← lk]; exact r2.lk e.1)
  obtain ⟨p, hp1, hp2⟩ := Option.map_eq_some_iff.mp hw
  rw [← e1]
  refine ⟨p, hp1, eqAt_tup I t1 t2 e2 (by rw [hp2]; exact rw') ?_⟩
  have e : X.A.in1.units = X.A.units + 1 := rfl
  omega
end
end Bx

set_option Elab.async false
set_option linter.all false
set_option maxRecDepth 100000
set_option maxHeartbeats 4000000
namespace Bx
open PySem L2
section
variable {X : Cx}
/-- {k: v for target in iter if ..}, the keys tuples of ints: D the new dict -/
def tXDc (P : Program) (w : World) (K : PySem.W.Frag) (wi : TI) (g : TG) (tt : TT) (tk tv : TE) (vs : List Nat) : TE := fun σ H Q => wi σ H fun J H1 => ∀ D, H1 D = none → ∃ W : Nat → Nat → Hp → Prop, (∃ m, W 0 m (upd H1 D (DO P w D []))) ∧ ∀ i m H, W i m H →
  (J.stop i H ∧ Q (.ref D) H) ∨ (J.go i H ∧ ∃ Nx : Hp → Prop, (∀ H', Nx H' → ∃ m', m' < m ∧ W (i + 1) m' H') ∧ ∀ x H', J.yld i H x H' → g x (wipe σ vs) H' fun σ2 H2 => wipe σ2 vs = wipe σ vs ∧ tt σ2 H2 fun b H3 =>
    if b = true then tk σ2 H3 fun y H4 => tv σ2 H4 fun z H5 => ∃ es b k, y = .ref b ∧ SqT K H5 b (k.map V.int) ∧ H5 D = some (DO P w D es) ∧ KeyS K H5 es ∧ es.length < sizeLine ∧ Nx (upd H5 D (DO P w D (ptE es k b z))) else Nx H3)
theorem xdc_core {pins : List (Addr × Obj)} {s : Shared} {σ : L2.St} {H : Hp} {Q : VK} {kx vx tg iter : Expr} {ifs : List Expr} {scope : Scope} {own : List (Str × Nat)} {pos pos' : Pos} {wi : TI} {g : TG} {tt : TT} {tk tv : TE} {use : Option (Value → Sem Unit)} {Qf : Value → Shared → Prop}
    (hu : X.A.units < cLine) (hc : X.calm = true) (hN : X.N.Nodup) (I : Inv X pins σ H s) (hi : PI X tg iter wi) (ok : BlkOk X.N X.env.scope scope own)
    (hg : ∀ (s : Shared) (H : Hp) (C : Addr) (cl : List (Str × Addr)) (fp : List Addr), PG (X.blk s H scope (compEnvC scope cl C X.env) fp) tg g) (ht : ∀ (s : Shared) (H : Hp) (C : Addr) (cl : List (Str × Addr)) (fp : List Addr), PTs (X.blk s H scope (compEnvC scope cl C X.env) fp) ifs tt)
    (hk : ∀ (s : Shared) (H : Hp) (C : Addr) (cl : List (Str × Addr)) (fp : List Addr), PE (X.blk s H scope (compEnvC scope cl C X.env) fp) kx tk)
    (he : ∀ (s : Shared) (H : Hp) (C : Addr) (cl : List (Str × Addr)) (fp : List Addr), PE (X.blk s H scope (compEnvC scope cl C X.env) fp) vx tv) (hs : ∀ x, foldedSetIterable iter X.env x = pure x)
    (h : tXDc X.prog X.w X.K wi g tt tk tv (own.map (·.2)) σ H Q)
    (hRR : ∀ D C s' m H', Inv X pins σ H' s' → Q (.ref D) H' → s'.heap.Ns C m → FpOk X pins H' C → compPost (model X.prog X.w) X.A X.xe use Qf (.ref D) C (.ok .next) s') :
    wpAny (model X.prog X.w) X.A (comprehension (.DictComp kx vx [⟨tg, iter, ifs, 0⟩] scope pos) scope X.env pos' newDict false (eval iter X.env) use) Qf X.xe s := by
  have hfree : ∀ y ∈ scope.names, y.2 = .free → ∃ c, X.env.cells.lookup y.1 = some c := fun y hy e => by
    rcases ok.free y hy e with k | k
    · exact I.ok.has _ (.inl k)
    · exact I.ok.has _ (.inr k)
  refine wpAny_comprehension_free (use := use) rfl hs (closure_ok hfree) ok.kind (fun y hy e => by rw [ok.uniq y hy, e])
    (thn (hi.run pins s σ H _ I h) fun xv s1 hx => thn hx fun itv s2 h2 => ?_)
  obtain ⟨it, fp, tn, J, H2, e, I2, T, st2, f2, q⟩ := h2
  subst e
  refine wpAny_newObj_type (newEnv_comp ?_)
  generalize hD : s2.heap.objs.size = D
  have hDn : H2 D = none := I2.hok.fresh (Nat.le_of_eq hD)
  obtain ⟨W, ⟨m0, w0⟩, turn⟩ := q D hDn
  generalize hs3 : ({ s2 with heap := s2.heap.push { cls := .type "dict", data := .dict #[] } } : Shared) = s3
  have I3 : Inv X pins σ (upd H2 D (DO X.prog X.w D [])) s3 := by
    rw [← hs3]
    refine I2.laid (t' := s2.toks) (fun b o e => Heap.get?_push_of_some _ e) (Nat.le_of_eq hD) ?_
    rw [← hD]
    exact do_empty s2.heap I2.big
  have h3 : s3.heap = s2.heap.push { cls := .type "dict", data := .dict #[] } := by rw [← hs3]
  have sz : ∀ b ∈ fp, b < s2.heap.objs.size := fun b hb => by
    obtain ⟨o, e, _⟩ := T.obj _ _ st2 b hb
    exact Heap.lt_size e
  have f3 : ∀ b ∈ fp, FpOk X pins (upd H2 D (DO X.prog X.w D [])) b ∧ b < s3.heap.objs.size := fun b hb => by
    have hlt := sz b hb
    refine ⟨⟨?_, (f2 b hb).2⟩, by rw [h3, Heap.size_push]; exact Nat.lt_succ_of_lt hlt⟩
    rw [upd_ne (by rw [← hD]; exact Nat.ne_of_lt hlt)]
    exact (f2 b hb).1
  have st3 : tn 0 s3.heap := T.keep _ _ _ st2 fun b _ o e => by rw [h3]; exact Heap.get?_push_of_some _ e
  have I4 := block_start I3 ok hN f3
  have pg := hg s3 (upd H2 D (DO X.prog X.w D [])) s3.heap.objs.size (cellsFrom (s3.heap.objs.size + 1) scope.names (cloFrom X.env.cells scope.names [])) fp
  have pt := ht s3 (upd H2 D (DO X.prog X.w D [])) s3.heap.objs.size (cellsFrom (s3.heap.objs.size + 1) scope.names (cloFrom X.env.cells scope.names [])) fp
  have pk := hk s3 (upd H2 D (DO X.prog X.w D [])) s3.heap.objs.size (cellsFrom (s3.heap.objs.size + 1) scope.names (cloFrom X.env.cells scope.names [])) fp
  have pe := he s3 (upd H2 D (DO X.prog X.w D [])) s3.heap.objs.size (cellsFrom (s3.heap.objs.size + 1) scope.names (cloFrom X.env.cells scope.names [])) fp
  show codeAny _ _ (.compStart (.DictComp kx vx [⟨tg, iter, ifs, 0⟩] scope pos) 0 (.ref it) (.ref D) (compEnvC scope (cellsFrom (s3.heap.objs.size + 1) scope.names (cloFrom X.env.cells scope.names [])) s3.heap.objs.size X.env)) (compPost (model X.prog X.w) X.A X.xe use Qf (.ref D) s3.heap.objs.size) { s3 with heap := pushCells (s3.heap.push { cls := .type "dict", data := .dict #[] }) scope.names }
  have nfp : ∀ b ∈ fp, (upd H2 D (DO X.prog X.w D [])) b = none := fun b hb => (f3 b hb).1.1
  generalize hce : compEnvC scope (cellsFrom (s3.heap.objs.size + 1) scope.names (cloFrom X.env.cells scope.names [])) s3.heap.objs.size X.env = ce at I4 pg pt pk pe ⊢
  have cL : ce.locals = s3.heap.objs.size := by subst hce; rfl
  generalize hH3 : upd H2 D (DO X.prog X.w D []) = H3 at I3 I4 pg pt pk pe w0 nfp f3
  generalize hs4 : ({ s3 with heap := pushCells (s3.heap.push { cls := .type "dict", data := .dict #[] }) scope.names } : Shared) = s4 at I4 ⊢
  have st4 : tn 0 s4.heap := T.keep _ _ _ st3 fun b _ o e => by rw [← hs4]; exact pushCells_keeps _ _ _ _ (Heap.get?_push_of_some _ e)
  have stat : ∀ {σ' : L2.St} {H' : Hp} {s' : Shared}, Inv (X.blk s3 H3 scope ce fp) [] σ' H' s' → (∀ b ∈ fp, H' b = none) → ∀ b ∈ fp, FpOk (X.blk s3 H3 scope ce fp) [] H' b := fun {σ' H' s'} I' hn b hb =>
    ⟨hn b hb, (I'.ok.exf b hb).1, I'.ok.exfs b hb, .inl hb, fun x c e => (I'.ok.exf b hb).2 x c e, fun p hp => absurd (show p ∈ ([] : List (Addr × Obj)) ++ [] from hp) (by simp)⟩
  have loop : codeAny (model X.prog X.w) X.A (.compLoop (.DictComp kx vx [⟨tg, iter, ifs, 0⟩] scope pos) 0 (.ref it) (.ref D) ce) (compPost (model X.prog X.w) X.A X.xe use Qf (.ref D) s3.heap.objs.size) s4 := by
    refine compLoop_anyD (fun n s' => ∃ i H', Inv (X.blk s3 H3 scope ce fp) [] (wipe σ (own.map (·.2))) H' s' ∧ tn i s'.heap ∧ (∀ b ∈ fp, H' b = none) ∧ W i n H') ?_ m0 ⟨0, H3, I4, st4, nfp, w0⟩
    rintro n s5 ⟨i, H5, I5, st5, n5, w5⟩
    rcases turn i n H5 w5 with ⟨stop, qq⟩ | ⟨go, Nx, hNx, step⟩
    · have td := T.done (X.blk s3 H3 scope ce fp) rfl rfl rfl hc i [] s5 _ H5 (fun _ _ => False) I5 (stat I5 n5) st5 stop
      refine thnF td fun r s6 ⟨hr, I6⟩ => ?_
      subst hr
      have I7 : Inv X pins σ H5 s6 := I3.call' (ch := fp) I6.os I6.base I6.hok I6.bare fun b hb => ⟨(f3 b hb).1.2.2.2.1, (f3 b hb).1.2.1, (f3 b hb).1.2.2.2.2.1, (f3 b hb).1.2.2.2.2.2⟩
      have nC : H5 s3.heap.objs.size = none := by
        have z : H5 ce.locals = none := I6.free
        rw [cL] at z
        exact z
      obtain ⟨m, hn, _⟩ := I6.loc
      have hn : s6.heap.Ns ce.locals m := hn
      rw [cL] at hn
      exact hRR D s3.heap.objs.size s6 m H5 I7 qq hn (I3.fpOk (Nat.le_refl _) nC)
    · have ti := T.item (X.blk s3 H3 scope ce fp) rfl rfl rfl hc i [] s5 _ H5 (fun _ _ => False) I5 (stat I5 n5) st5 go
      refine thnF ti fun r s6 ⟨u, hr, h6⟩ => ?_
      subst hr
      refine thnF h6 fun _ s7 ⟨x, H7, I7, r7, y7, st7, n7⟩ => ?_
      have I7' := I7.pinned (stat I7 n7) (T.obj _ _ st7)
      refine thnF (pg.run _ s7 _ H7 x u _ I7' r7 (step x H7 y7)) fun _ s8 ⟨σ8, H8, I8, hw8, q8⟩ => ?_
      refine thnF (pt.run _ s8 σ8 H8 _ I8 q8) fun b s9 ⟨H9, I9, q9⟩ => ?_
      have fin : ∀ {s' : Shared} {H' : Hp}, Inv (X.blk s3 H3 scope ce fp) ([] ++ pinsAt fp s7.heap) σ8 H' s' → Nx H' → ∃ m, m < n ∧ ∃ i H', Inv (X.blk s3 H3 scope ce fp) [] (wipe σ (own.map (·.2))) H' s' ∧ tn i s'.heap ∧ (∀ b ∈ fp, H' b = none) ∧ W i m H' := fun {s' H'} I' nx => by
        obtain ⟨m', hm, w'⟩ := hNx H' nx
        have pin' : ∀ b ∈ fp, ∀ o, s7.heap.get? b = some o → s'.heap.get? b = some o ∧ H' b = none := fun b hb o e =>
          let z := I'.pin (b, o) (List.mem_append_right _ (List.mem_append_right _ (mem_pinsAt hb e)))
          ⟨z.1, z.2.1⟩
        have hl : (wipe σ (own.map (·.2))).length = σ8.length := by rw [← hw8, wipe_length]
        refine ⟨m', hm, i + 1, H', (I'.unpinned (pins := [])).weak hl (fun j v e => ?_), T.keep _ _ _ st7 fun b hb o e => (pin' b hb o e).1, fun b hb => ?_, w'⟩
        · rw [← hw8] at e
          exact (wipe_some e).1
        · obtain ⟨o, e, _⟩ := T.obj _ _ st7 b hb
          exact (pin' b hb o e).2
      cases b with
      | false =>
        simp only [Bool.false_eq_true, if_false] at q9 ⊢
        exact fin I9 q9
      | true =>
        simp only [if_true] at q9 ⊢
        refine thnF (pk.run _ s9 σ8 H9 _ I9 q9) fun z s10 ⟨yk, H10, I10, r10, q10⟩ => ?_
        refine thnF (pe.run _ s10 σ8 H10 _ I10 q10) fun z2 s11 ⟨yv, H11, I11, r11, es, b, k, ek, kb, hD11, ks11, hz11, nx⟩ => ?_
        subst ek
        cases r10
        exact do_dictSet (X := X.blk s3 H3 scope ce fp) hu I11 hD11 hz11 ks11 kb r11 fun s12 I12 => fin I12 nx
  exact codeAny_compStart_dict loop (T.self X.A 0 _ _ _ st4 loop)
theorem pe_xdc {kx vx tg iter : Expr} {ifs : List Expr} {scope : Scope} {own : List (Str × Nat)} {pos : Pos} {wi : TI} {g : TG} {tt : TT} {tk tv : TE} (hu : X.A.units < cLine) (hc : X.calm = true) (hN : X.N.Nodup) (hi : PI X tg iter wi) (ok : BlkOk X.N X.env.scope scope own)
    (hg : ∀ (s : Shared) (H : Hp) (C : Addr) (cl : List (Str × Addr)) (fp : List Addr), PG (X.blk s H scope (compEnvC scope cl C X.env) fp) tg g) (ht : ∀ (s : Shared) (H : Hp) (C : Addr) (cl : List (Str × Addr)) (fp : List Addr), PTs (X.blk s H scope (compEnvC scope cl C X.env) fp) ifs tt)
    (hk : ∀ (s : Shared) (H : Hp) (C : Addr) (cl : List (Str × Addr)) (fp : List Addr), PE (X.blk s H scope (compEnvC scope cl C X.env) fp) kx tk)
    (he : ∀ (s : Shared) (H : Hp) (C : Addr) (cl : List (Str × Addr)) (fp : List Addr), PE (X.blk s H scope (compEnvC scope cl C X.env) fp) vx tv) (hs : ∀ x, foldedSetIterable iter X.env x = pure x := by intro _; rfl) :
    PE X (.DictComp kx vx [⟨tg, iter, ifs, 0⟩] scope pos) (tXDc X.prog X.w X.K wi g tt tk tv (own.map (·.2))) := by
  refine ⟨fun pins s σ H Q I h => ?_⟩
  rw [arm_eval_DictComp]
  refine xdc_core hu hc hN I hi ok hg ht hk he hs h fun D C s' m H' I' q hn f => ⟨m, hn, fun h'' sb => ?_⟩
  obtain ⟨f0, f1, f2, f3, f4, f5⟩ := f
  exact ⟨.ref D, H', I'.turned (t' := s'.toks) (fun b o hb e => (sb.2 b hb).trans e) f0 f1 f3 f4 f5, rfl, q⟩
theorem dc_it {P : Program} {w : World} {K : PySem.W.Frag} {J : It} {n : Nat} {G : Hp → Prop} {Y : Nat → Hp → V → Hp → Prop} (wk : Walk J n G Y) {g : TG} {tt : TT} {tk tv : TE} {vs : List Nat} {σ : L2.St} {H1 : Hp} {D : Addr} {Qd : Hp → Prop} (Pv : Nat → Hp → Prop) (h0 : Pv 0 (upd H1 D (DO P w D []))) (hG : ∀ i H, i ≤ n → Pv i H → G H)
    (hs : ∀ i x H H', i < n → Pv i H → Y i H x H' → g x (wipe σ vs) H' fun σ2 H2 => wipe σ2 vs = wipe σ vs ∧ tt σ2 H2 fun b H3 =>
      if b = true then tk σ2 H3 fun y H4 => tv σ2 H4 fun z H5 => ∃ es b k, y = .ref b ∧ SqT K H5 b (k.map V.int) ∧ H5 D = some (DO P w D es) ∧ KeyS K H5 es ∧ es.length < sizeLine ∧ Pv (i + 1) (upd H5 D (DO P w D (ptE es k b z))) else Pv (i + 1) H3) (hd : ∀ H, Pv n H → Qd H) :
    ∃ W : Nat → Nat → Hp → Prop, (∃ m, W 0 m (upd H1 D (DO P w D []))) ∧ ∀ i m H, W i m H →
      (J.stop i H ∧ Qd H) ∨ (J.go i H ∧ ∃ Nx : Hp → Prop, (∀ H', Nx H' → ∃ m', m' < m ∧ W (i + 1) m' H') ∧ ∀ x H', J.yld i H x H' → g x (wipe σ vs) H' fun σ2 H2 => wipe σ2 vs = wipe σ vs ∧ tt σ2 H2 fun b H3 =>
        if b = true then tk σ2 H3 fun y H4 => tv σ2 H4 fun z H5 => ∃ es b k, y = .ref b ∧ SqT K H5 b (k.map V.int) ∧ H5 D = some (DO P w D es) ∧ KeyS K H5 es ∧ es.length < sizeLine ∧ Nx (upd H5 D (DO P w D (ptE es k b z))) else Nx H3) := by
  refine ⟨fun i m H => m = n - i ∧ i ≤ n ∧ Pv i H, ⟨n, by simp, Nat.zero_le _, h0⟩, ?_⟩
  rintro i m H ⟨rfl, hi, p⟩
  have q := hG i H hi p
  by_cases hlt : i < n
  · refine .inr ⟨wk.goes i H hlt q, Pv (i + 1), fun H' p' => ⟨n - (i + 1), by omega, rfl, hlt, p'⟩, fun x H' y => hs i x H H' hlt p (wk.yields i H x H' hlt q y)⟩
  · have e : i = n := by omega
    subst e
    exact .inl ⟨wk.stops H q, hd H p⟩
end
/-! ### enumerate(tuple) -/
section
theorem meets_enum_newT (l : Addr) (items : Array Value) :
    Meets (Builtin.«enumerate.__new__» ⟨[.type "enumerate", .ref l], []⟩) (fun _ R s => s.heap.IsTuple l items ∧
      R (.ok (.ret (.ref (s.heap.push { cls := .type "tuple_iterator", data := .fields #[.ref l, .int 0 0] }).objs.size)))
        { s with heap := (s.heap.push { cls := .type "tuple_iterator", data := .fields #[.ref l, .int 0 0] }).push { cls := .type "enumerate", data := .fields #[.none, .bool false, .ref s.heap.objs.size, rawInt 0, .none, .none] } }) :=
  .of_wp fun prog w A R s h => by
    obtain ⟨hp, g, d, tk, os⟩ := s; obtain ⟨hl, h⟩ := h
    have hsub := sub_enumerate
    have q1 : ∀ {A' : Around} {E : Value → Shared → Prop} {Q : Value → Shared → Prop}, Q (.ref hp.objs.size) ⟨hp.push { cls := .type "tuple_iterator", data := .fields #[.ref l, .int 0 0] }, g, d, tk, os⟩ → wpAny (model prog w) A' (pyIter (.ref l)) Q E ⟨hp, g, d, tk, os⟩ :=
      fun q => wpAny_pyIter_tuple hl q
    wp_walk using q1
    refine wpAny_stack_any fun st => wpAny_pure ?_
    split
    · rename_i c _ _ _ _ _
      cases (c == Value.type "enumerate")
      · wp_walk using q1
        exact ⟨_, rfl, h⟩
      · wp_walk using q1
        exact ⟨_, rfl, h⟩
    · wp_walk using q1
      exact ⟨_, rfl, h⟩
end
end Bx

set_option Elab.async false
set_option linter.all false
set_option maxRecDepth 100000
set_option maxHeartbeats 4000000
namespace Bx
open PySem L2
section
variable {prog : Program} {w : World} {A : Around} {E : Value → Shared → Prop} {s : Shared}
theorem call_enum_tuple {l : Addr} {items : Array Value} {Q : Value → Shared → Prop} (hL : s.heap.IsTuple l items)
    (h : ∀ h', IsEnum h' (s.heap.objs.size + 1) s.heap.objs.size 0 .none → h'.IsTupleIter s.heap.objs.size l 0 →
      (∀ b o, s.heap.get? b = some o → h'.get? b = some o) → Q (.ref (s.heap.objs.size + 1)) { s with heap := h' }) :
    wpAny (model prog w) A (call (.type "enumerate") [.ref l]) Q E s := by
  refine callType_new PySem.F.called_enumerate (by decide) (PySem.F.typeCall_enumerate_1 _) (PySem.F.newCall_enumerate_1 _) (fun obj => PySem.F.args_object_init_2 obj _) PySem.F.entry_enumerate_new
    (meets_enum_newT l items) ⟨hL, ?_⟩
  have hz : (s.heap.push { cls := .type "tuple_iterator", data := .fields #[.ref l, .int 0 0] }).objs.size = s.heap.objs.size + 1 := Heap.size_push ..
  show _ ∧ _
  rw [hz]
  have he : IsEnum ((s.heap.push { cls := .type "tuple_iterator", data := .fields #[.ref l, .int 0 0] }).push
      { cls := .type "enumerate", data := .fields #[.none, .bool false, .ref s.heap.objs.size, rawInt 0, .none, .none] }) (s.heap.objs.size + 1) s.heap.objs.size 0 .none := by
    have := Heap.get?_push_size (s.heap.push { cls := .type "tuple_iterator", data := .fields #[.ref l, .int 0 0] })
      (o := { cls := .type "enumerate", data := .fields #[.none, .bool false, .ref s.heap.objs.size, rawInt 0, .none, .none] }) rfl
    rw [hz] at this; exact this
  exact ⟨⟨_, he, rfl⟩, h _ he ⟨_, Heap.get?_push_of_some _ (Heap.get?_push_size _ rfl), rfl, rfl⟩ fun b o x => Heap.get?_push_of_some _ (Heap.get?_push_of_some _ x)⟩
end
/-- the tuple at a, each item in a new pair -/
def IteT (K : PySem.W.Frag) (a : Addr) : It :=
  ⟨fun i H => ∃ (xs : List V) (x : V), SqT K H a xs ∧ xs[i]? = some x, fun i H v H' => ∃ T x, v = .ref T ∧ H T = none ∧ H' = upd H T (.tup [.int (i : Nat), x]) ∧ ∀ xs, SqT K H a xs → xs[i]? = some x, fun i H => ∃ xs : List V, SqT K H a xs ∧ xs.length ≤ i⟩
theorem turn_enumT {P : Program} {w : World} {K : PySem.W.Frag} {elts : List Expr} {kk : Nat} {tpos : Pos} (a e it : Addr) :
    Turn P w K (.Tuple elts kk tpos) (IteT K a) [e, it] e (fun i h => (∃ old, IsEnum h e it ((i : Nat) : Int) old) ∧ h.IsTupleIter it a i ∧ e ≠ it) where
  mem := by simp
  obj := fun i h st b hb => by
    obtain ⟨⟨old, he⟩, ⟨o, ho, hc, hd⟩, _⟩ := st
    have e' : b = e ∨ b = it := by simpa using hb
    rcases e' with z | z
    · rw [z]; exact ⟨_, he, fun v q => nomatch q⟩
    · rw [z]; exact ⟨o, ho, fun v q => by rw [hd] at q; cases q⟩
  keep := fun i h h' st k => let ⟨⟨old, he⟩, hi, hne⟩ := st; ⟨⟨old, k e (by simp) _ he⟩, hi.at fun o q => k it (by simp) o q, hne⟩
  item := by
    intro X hP hw hK hc i pins s σ H E I hf st hg
    subst hP hw hK
    obtain ⟨⟨old, he⟩, hit, hne⟩ := st
    obtain ⟨xs, x, hq, hx⟩ := hg
    obtain ⟨its, rv, p, hz⟩ := I.tuple hq
    obtain ⟨u, hu, ru⟩ := rv.get hx
    have hel : e < s.heap.objs.size := Heap.lt_size he
    have hil : it < s.heap.objs.size := by obtain ⟨_, q, _⟩ := hit; exact Heap.lt_size q
    have hti : a ≠ it := by
      rintro rfl
      obtain ⟨o1, h1, c1, _⟩ := hit
      obtain ⟨o2, h2, c2, _⟩ := id p
      rw [h1] at h2; cases h2; rw [c1] at c2; exact absurd c2 (by decide)
    have hte : a ≠ e := by
      rintro rfl
      obtain ⟨o2, h2, c2, _⟩ := id p
      rw [he] at h2; cases h2; exact absurd (show Value.type "enumerate" = Value.type "tuple" from c2) (by decide)
    have hi : i < its.toArray.size := by
      have := (List.getElem?_eq_some_iff.mp hu).1
      simpa using this
    refine wpAny_pyNext_enum_itemD (i := i) (Draws.tuple (A := X.A.in1) (show X.A.in1.handled = none from I.ok.hd hc) it a hti its.toArray) he ⟨hit, p⟩ hi hne (by simp [hne, Ne.symm hte]) fun y h' tk hy ho hst hT hsz hk => ?_
    have eu : y = u := by
      have e1 : its.toArray[i]? = some u := by simpa using hu
      rw [e1] at hy
      exact (Option.some.inj hy).symm
    subst eu
    refine ⟨_, rfl, wpAny_letOwnedTupleGo_enum (s := { s with heap := h', toks := tk + 1 }) ho fun h'' he' sb => ?_⟩
    have hT2 : h''.get? s.heap.objs.size = some { cls := .type "tuple", data := .seq #[.int i tk, y] } := (sb.2 _ (Nat.ne_of_gt hel)).trans hT
    have new : ObjOk X.prog X.w (upd H s.heap.objs.size (.tup [.int (i : Nat), x])) h'' s.heap.objs.size (.tup [.int (i : Nat), x]) :=
      ⟨by show 2 ≤ sizeLine; decide, [.int i tk, y], .cons ⟨_, rfl⟩ (.cons ru .nil), ⟨_, hT2, rfl, _, rfl⟩⟩
    have I1 : Inv X pins σ (upd H s.heap.objs.size (.tup [.int (i : Nat), x])) { s with heap := h'', toks := tk + 1 } :=
      I.turnedNew (ch := [e, it]) (fun b ob hb q => (sb.2 b (fun z => hb (by simp [z]))).trans (hk b ob (fun z => hb (by simp [z])) (fun z => hb (by simp [z])) q)) hf (Nat.le_refl _) new
    refine ⟨.ref s.heap.objs.size, _, I1, rfl, ⟨_, x, rfl, I.hok.fresh (Nat.le_refl _), rfl, fun ys hy => by rw [I.tuple_inj hy hq]; exact hx⟩, ⟨⟨y, ?_⟩, hst.1.at fun o q => (sb.2 it (Ne.symm hne)).trans q, hne⟩, fun b hb => ?_⟩
    · have e1 : ((i + 1 : Nat) : Int) = (i : Int) + 1 := by omega
      rw [e1]; exact he'
    · have hb' : b < s.heap.objs.size := by
        have e' : b = e ∨ b = it := by simpa using hb
        rcases e' with z | z
        · rw [z]; exact hel
        · rw [z]; exact hil
      rw [upd_ne (Nat.ne_of_lt hb')]
      exact (hf b hb).1
  done := by
    intro X hP hw hK hc i pins s σ H E I hf st hg
    subst hP hw hK
    obtain ⟨⟨old, he⟩, hit, hne⟩ := st
    obtain ⟨xs, hq, hx⟩ := hg
    obtain ⟨its, rv, p, hz⟩ := I.tuple hq
    obtain ⟨f0, f1, f2, f3, f4, f5⟩ := hf it (by simp)
    have hl := rv.length
    have hT : s.TypeIs (.ref e) "enumerate" := ⟨_, he, rfl⟩
    unfold pyNext
    refine wpAny_bind (wpAny_attempt (wpAny_callSpecial?_slot (name := Str.ofString "__next__") hT PySem.F.slot_enumerate_next
      (wpAny_call_entry PySem.F.slot_enumerate_next hT PySem.F.entry_enumerate_next ?_ (PySem.F.args_enumerate_next_1 _))))
    show wpAny _ _ (field (.ref e) 2 >>= _) _ _ _
    refine wpAny_bind (wpAny_field he rfl (x := .ref it) rfl ?_)
    refine wpAny_bind (wpAny_nextOf_tuple_end (A := X.A.in1) (show X.A.in1.handled = none from I.ok.hd hc) hit p (by simp; omega) fun h' x he' hx' => ?_)
    obtain ⟨o, ho, hc'⟩ := hx'
    refine wpAny_bind (wpAny_isInstance (T := "StopIteration") (b := true) ⟨o, ho, hc'⟩ isSubtype_stop ?_)
    exact wpAny_pure ⟨rfl, I.turned (t' := s.toks) (fun b o hb q => he' b o hb q) f0 f1 f3 f4 f5⟩
  self := fun A i s Q E st h => let ⟨⟨_, he⟩, _⟩ := st; wpAny_pyIter_enum he h
def iEnumT (K : PySem.W.Frag) (ta : TA) : TI := fun σ H R => ta σ H fun vs H1 => ∃ a xs, vs = [.ref a] ∧ SqT K H1 a xs ∧ R (IteT K a) H1
theorem pi_enumT {X : Cx} {e : Expr} {ta : TA} {p pos tpos : Pos} {elts : List Expr} {kk : Nat} (hg : Gl X "enumerate") (hm : X.mg "enumerate" = none) (ha : PA X [e] ta) (hs : starEach [e] X.env = [(false, eval e X.env)] := by rfl) :
    PI X (.Tuple elts kk tpos) (.Call (.Name "enumerate" p) [e] [] pos) (iEnumT X.K ta) := by
  refine ⟨fun pins s σ H R I h => ?_⟩
  refine PyProof.Rows.Call_ (ld_blt I hg hm PyProof.Rows.boot_enumerate (PyProof.Rows.callWith_type1 (thn (ha.run pos pins s σ H _ I h) fun us s1 ⟨vs, H1, I1, r1, q1⟩ => ?_) hs rfl))
  obtain ⟨a, xs, ex, hq, q⟩ := q1
  subst ex
  cases r1 with
  | cons r rr =>
    cases rr
    cases r
    obtain ⟨its, rv, p', hz⟩ := I1.tuple hq
    refine call_enum_tuple p' fun h' he hit hk => wpAny_pyIter_enum he ?_
    have I2 : Inv X pins σ H1 { s1 with heap := h' } := I1.kept (t' := s1.toks) hk
    refine ⟨s1.heap.objs.size + 1, [s1.heap.objs.size + 1, s1.heap.objs.size], _, _, H1, rfl, I2, turn_enumT a (s1.heap.objs.size + 1) s1.heap.objs.size, ⟨⟨.none, he⟩, hit, Nat.succ_ne_self _⟩, fun b hb => ?_, q⟩
    have e' : b = s1.heap.objs.size + 1 ∨ b = s1.heap.objs.size := by simpa using hb
    have hle : s1.heap.objs.size ≤ b := by
      rcases e' with z | z
      · rw [z]; exact Nat.le_add_right _ _
      · rw [z]; exact Nat.le_refl _
    exact I1.fpOk hle (I1.hok.fresh hle)
theorem walk_enumT {K : PySem.W.Frag} {a : Addr} {xs : List V} : Walk (IteT K a) xs.length (fun H => SqT K H a xs) (YPair (fun i => some (.int (i : Nat))) (fun i => xs[i]?)) := by
  refine ⟨fun i _ hi q => ⟨xs, xs[i], q, by simp [hi]⟩, fun _ q => ⟨xs, q, Nat.le_refl _⟩, fun i H v H' _ q y => ?_⟩
  obtain ⟨T, x, h1, h2, h3, h4⟩ := y
  exact ⟨T, .int (i : Nat), x, h1, h2, h3, rfl, h4 xs q⟩
theorem walk_zipT {K : PySem.W.Frag} {a b : Addr} {xs ys : List V} {n : Nat} (hn : n = min xs.length ys.length) : Walk (RZ.ItzT K a b) n (fun H => SqT K H a xs ∧ SqT K H b ys) (YPair (fun i => xs[i]?) (fun i => ys[i]?)) := by
  subst hn
  refine ⟨fun i _ hi q => ?_, fun _ q => ⟨xs, ys, q.1, q.2, by omega⟩, fun i H v H' _ q y => ?_⟩
  · have h1 : i < xs.length := by omega
    have h2 : i < ys.length := by omega
    exact ⟨xs, ys, xs[i], ys[i], q.1, q.2, by simp [h1], by simp [h2]⟩
  · obtain ⟨T, x, z, h1, h2, h3, h4, h5⟩ := y
    exact ⟨T, x, z, h1, h2, h3, h4 xs q.1, h5 ys q.2⟩
end Bx

set_option Elab.async false
set_option linter.all false
set_option maxRecDepth 100000
set_option maxHeartbeats 4000000
namespace Bx
open PySem L2
section
variable {X : Cx}
theorem ps_setXDc {i : Nat} {y : Str} {py : Pos} {kx vx tg iter : Expr} {ifs : List Expr} {scope : Scope} {own : List (Str × Nat)} {pos spos : Pos} {wi : TI} {g : TG} {tt : TT} {tk tv : TE} (hu : X.A.units < cLine) (hc : X.calm = true) (hN : X.N.Nodup) (hy : X.N[i]? = some y) (hyl : X.env.scope.names.lookup y = some .local)
    (hsw : swapsWith (.DictComp kx vx [⟨tg, iter, ifs, 0⟩] scope pos) (some (.Name y py)) spos.line X.env = pure true) (hi : PI X tg iter wi) (ok : BlkOk X.N X.env.scope scope own)
    (hg : ∀ (s : Shared) (H : Hp) (C : Addr) (cl : List (Str × Addr)) (fp : List Addr), PG (X.blk s H scope (compEnvC scope cl C X.env) fp) tg g) (ht : ∀ (s : Shared) (H : Hp) (C : Addr) (cl : List (Str × Addr)) (fp : List Addr), PTs (X.blk s H scope (compEnvC scope cl C X.env) fp) ifs tt)
    (hk : ∀ (s : Shared) (H : Hp) (C : Addr) (cl : List (Str × Addr)) (fp : List Addr), PE (X.blk s H scope (compEnvC scope cl C X.env) fp) kx tk)
    (he : ∀ (s : Shared) (H : Hp) (C : Addr) (cl : List (Str × Addr)) (fp : List Addr), PE (X.blk s H scope (compEnvC scope cl C X.env) fp) vx tv) (hs : ∀ x, foldedSetIterable iter X.env x = pure x := by intro _; rfl) :
    PS X (.Assign [.Name y py] (.DictComp kx vx [⟨tg, iter, ifs, 0⟩] scope pos) spos) (tAsg (tXDc X.prog X.w X.K wi g tt tk tv (own.map (·.2))) (gName i)) := by
  refine ⟨fun pins s σ H D I h => ?_⟩
  rw [exec_Assign_Name_used _ _ _ _ hsw]
  refine wpAny_bind (wpAny_standAt (wpAny_bind ?_))
  show wpAny _ X.A (do let _ ← comprehension (.DictComp kx vx [⟨tg, iter, ifs, 0⟩] scope pos) scope X.env (firstIterPos [⟨tg, iter, ifs, 0⟩] pos) newDict false (eval iter X.env) (some (assign (.Name y py) X.env))) _ _ s
  have h : tXDc X.prog X.w X.K wi g tt tk tv (own.map (·.2)) σ H (fun x H1 => gName i x σ H1 D.nx) := h
  refine wpAny_bind (thn (xdc_core (Qf := fun _ s' => SP X pins D .next s') hu hc hN I hi ok hg ht hk he hs h fun L C s' m H' I' q hn f => ?_) fun _ s' hq => wpAny_pure (wpAny_pure hq))
  show wpAny _ _ (assign (.Name y py) X.env (.ref L)) _ _ _
  refine wpAny_assign_Name (store_ok2 (v := V.ref L) I' hN hy (.inl hyl) rfl (fun s2 I2 ⟨a, sb, ha⟩ => ?_) (.inr hyl))
  obtain ⟨f0, f1, f2, f3, f4, f5⟩ := f
  have haC : C ≠ a := by
    rcases ha with z | z
    · rw [z]; exact f1
    · exact fun e => f4 y a z e.symm
  refine ⟨m, hn.sameBut sb haC, fun h3 sb3 => ?_⟩
  exact ⟨_, H', I2.turned (t' := s2.toks) (fun b o hb e => (sb3.2 b hb).trans e) f0 f1 f3 f4 f5, q⟩
theorem sw_trueD {kx vx : Expr} {gs : List Comprehension} {scope : Scope} {pos py : Pos} {y : Str} {l : Nat} {env : Env} (hk : env.scope.kind = .function) (hy : env.scope.names.lookup y = some .local) (hl : (py.line == pos.line) = true)
    (ha : (scope.names.any fun (n, k) => n == y && (k == .local || k == .cell)) = false) : swapsWith (.DictComp kx vx gs scope pos) (some (.Name y py)) l env = pure true := by
  have ky : env.kindOf y = some .local := hy
  have hb : env.blockKind = .function := by unfold Env.blockKind; rw [hk]; rfl
  unfold swapsWith
  simp only [hb, ky, ha, Expr.pos, hl]
  rfl
theorem ip_mulW : PIp X .Mult (rI CMulW fun i j => .int (i * j)) := by
  intro pins s σ H x y v u Q I r1 r2 h
  obtain ⟨i, j, e1, e2, c, q⟩ := h
  subst e1; subst e2
  obtain ⟨t, rfl⟩ := r1
  obtain ⟨t', rfl⟩ := r2
  exact PyProof.Rows.imul_int ⟨.int _, H, I.tok _, ⟨_, rfl⟩, q⟩ c.ok
/-- == and != of two tuples of ints -/
def rEqT (K : PySem.W.Frag) : R2 := fun x y H Q => ∃ ns ms, TupI K H x ns ∧ TupI K H y ms ∧ Q (.bl (decide (ns = ms))) H
def rNeT (K : PySem.W.Frag) : R2 := fun x y H Q => ∃ ns ms, TupI K H x ns ∧ TupI K H y ms ∧ Q (.bl (!decide (ns = ms))) H
theorem dpAll_ints {K : PySem.W.Frag} {H : Hp} : ∀ ns : List Int, DpAll K H (ns.map V.int) (ns.map PyData.int)
  | [] => .nil
  | n :: ns => .cons (.int n) (dpAll_ints ns)
theorem dp_tup {K : PySem.W.Frag} {H : Hp} {x : V} {ns : List Int} (h : TupI K H x ns) : Dp K H x (.tuple (ns.map .int)) := by
  obtain ⟨t, rfl, s⟩ := h
  exact .tup s (dpAll_ints ns)
theorem op_eqT (hu : X.A.units + 64 < cLine) : OpR X (compareOp .Eq) (rEqT X.K) := by
  intro pins s σ H x y v u Q I rx ry h
  obtain ⟨ns, ms, h1, h2, q⟩ := h
  refine op_eqD hu pins s σ H x y v u Q I rx ry ⟨_, _, dp_tup h1, dp_tup h2, shaped_tints ns, shaped_tints ms, ?_⟩
  rw [eqv_tints]
  exact q
theorem op_neT (hu : X.A.units + 64 < cLine) : OpR X (compareOp .NotEq) (rNeT X.K) := by
  intro pins s σ H x y v u Q I rx ry h
  obtain ⟨ns, ms, h1, h2, q⟩ := h
  refine op_neD hu pins s σ H x y v u Q I rx ry ⟨_, _, dp_tup h1, dp_tup h2, shaped_tints ns, shaped_tints ms, ?_⟩
  rw [eqv_tints]
  exact q
end
end Bx

set_option Elab.async false
set_option linter.all false
set_option maxRecDepth 100000
set_option maxHeartbeats 2000000
/-! Values that stand for data; expressions that come to data. -/
namespace Bx
open PySem L2
/-! ### heaps -/
def Ex (H H' : Hp) : Prop := ∀ a o, H a = some o → H' a = some o
theorem Ex.refl (H : Hp) : Ex H H := fun _ _ h => h
theorem Ex.trans {H H1 H2 : Hp} (a : Ex H H1) (b : Ex H1 H2) : Ex H H2 := fun x o h => b x o (a x o h)
theorem Ex.new {H : Hp} {p : Addr} {o : HO} (h : H p = none) : Ex H (upd H p o) := fun a u e => by
  rw [upd_ne (ne_of_none e h)]
  exact e
theorem Ex.mut {H H' : Hp} {p : Addr} {o : HO} (e : Ex H H') (h : H p = none) : Ex H (upd H' p o) := fun a u ha => by
  rw [upd_ne (ne_of_none ha h)]
  exact e a u ha
theorem Ex.back {H H' : Hp} {p : Addr} (e : Ex H H') (h : H' p = none) : H p = none := by
  cases h1 : H p with
  | none => rfl
  | some o => rw [e p o h1] at h; cases h
def isIm : HO → Bool
  | .tup _ => true
  | .ins _ _ _ => true
  | _ => false
/-- tuples and instances stay -/
def Im (H H' : Hp) : Prop := ∀ a o, H a = some o → isIm o = true → H' a = some o
theorem Im.refl (H : Hp) : Im H H := fun _ _ h _ => h
theorem Im.trans {H H1 H2 : Hp} (a : Im H H1) (b : Im H1 H2) : Im H H2 := fun x o h i => b x o (a x o h i) i
theorem Ex.im {H H' : Hp} (e : Ex H H') : Im H H' := fun a o h _ => e a o h
theorem Im.upd {H : Hp} {p : Addr} {o u : HO} (h : H p = some u) (n : isIm u = false) : Im H (upd H p o) := fun a v e i => by
  rw [upd_ne (fun z => by subst z; rw [h] at e; cases e; rw [n] at i; cases i)]
  exact e
theorem Im.new {H : Hp} {p : Addr} {o : HO} (h : H p = none) : Im H (L2.upd H p o) := (Ex.new h).im
/-- all stays but what stands at d -/
def Sb (d : Addr) (H H' : Hp) : Prop := ∀ a o, a ≠ d → H a = some o → H' a = some o
theorem Sb.refl (d : Addr) (H : Hp) : Sb d H H := fun _ _ _ h => h
theorem Sb.trans {d : Addr} {H H1 H2 : Hp} (a : Sb d H H1) (b : Sb d H1 H2) : Sb d H H2 := fun x o n h => b x o n (a x o n h)
theorem Ex.sb {d : Addr} {H H' : Hp} (e : Ex H H') : Sb d H H' := fun a o _ h => e a o h
theorem Sb.upd {d : Addr} {H : Hp} {o : HO} : Sb d H (upd H d o) := fun a v n e => by
  rw [upd_ne n]; exact e
theorem Sb.mut {d : Addr} {H H' : Hp} {p : Addr} {o : HO} (e : Sb d H H') (h : H p = none) : Sb d H (L2.upd H' p o) := fun a u n ha => by
  rw [upd_ne (ne_of_none ha h)]
  exact e a u n ha
theorem Sb.im {d : Addr} {H H' : Hp} (e : Sb d H H') {u : HO} (hd : H d = some u) (n : isIm u = false) : Im H H' := fun a o h i => e a o (fun z => by subst z; rw [hd] at h; cases h; rw [n] at i; cases i) h
/-- back out of a lock -/
theorem Ex.unlock {H H' : Hp} {d : Addr} {u f : HO} (h : H d = some u) (e : Ex (upd H d f) H') : Ex H (upd H' d u) := fun a o ha => by
  by_cases z : a = d
  · subst z; rw [h] at ha; cases ha; exact upd_same
  · rw [upd_ne z]; exact e a o (by rw [upd_ne z]; exact ha)
theorem rd_ex {H H' : Hp} {a : Addr} {u : HO} (e : Ex H H') (h : Rd H a u) : Rd H' a u := by
  rcases h with h | ⟨o, h⟩
  · exact .inl (e a _ h)
  · exact .inr ⟨o, e a _ h⟩
theorem sql_ex {K : PySem.W.Frag} {H H' : Hp} {a : Addr} {xs : List V} (e : Ex H H') (h : SqL K H a xs) : SqL K H' a xs := by
  rcases h with h | h
  · exact .inl (rd_ex e h)
  · exact .inr h

/-! ### what a value stands for -/
abbrev Rp (α : Type) := Hp → V → α → Prop
class MonoE {α : Type} (R : Rp α) : Prop where
  ex : ∀ {H H' : Hp} {v : V} {x : α}, Ex H H' → R H v x → R H' v x
class Mono {α : Type} (R : Rp α) : Prop where
  im : ∀ {H H' : Hp} {v : V} {x : α}, Im H H' → R H v x → R H' v x
instance (priority := 50) {α : Type} {R : Rp α} [Mono R] : MonoE R := ⟨fun e r => Mono.im e.im r⟩
def RI : Rp Int := fun _ v i => v = .int i
def RB : Rp Bool := fun _ v b => v = .bl b
instance : Mono RI := ⟨fun _ r => r⟩
instance : Mono RB := ⟨fun _ r => r⟩
/-- a tuple that stands still: made (not locked), or written -/
def Tu (K : PySem.W.Frag) (H : Hp) (a : Addr) (xs : List V) : Prop := H a = some (.tup xs) ∨ ∀ H', SqT K H' a xs
theorem Tu.sq {K : PySem.W.Frag} {H : Hp} {a : Addr} {xs : List V} (t : Tu K H a xs) : SqT K H a xs := t.elim (fun h => .inl (.inl h)) fun h => h H
theorem Tu.im {K : PySem.W.Frag} {H H' : Hp} {a : Addr} {xs : List V} (e : Im H H') (t : Tu K H a xs) : Tu K H' a xs := t.elim (fun h => .inl (e _ _ h rfl)) .inr
def RT {α : Type} (K : PySem.W.Frag) (R : Rp α) : Rp (List α) := fun H v xs => ∃ a vs, v = .ref a ∧ Tu K H a vs ∧ Paired (R H) vs xs
def RP {α β : Type} (K : PySem.W.Frag) (R : Rp α) (S : Rp β) : Rp (α × β) := fun H v p => ∃ a x y, v = .ref a ∧ Tu K H a [x, y] ∧ R H x p.1 ∧ S H y p.2
theorem Paired.imp {α β : Type} {F G : α → β → Prop} : ∀ {l₁ : List α} {l₂ : List β}, Paired F l₁ l₂ → (∀ a b, F a b → G a b) → Paired G l₁ l₂
  | _, _, .nil, _ => .nil
  | _, _, .cons r t, f => .cons (f _ _ r) (Paired.imp t f)
instance {α : Type} {K : PySem.W.Frag} {R : Rp α} [Mono R] : Mono (RT K R) := ⟨fun e ⟨a, vs, h, t, p⟩ => ⟨a, vs, h, t.im e, Paired.imp p fun _ _ r => Mono.im e r⟩⟩
instance {α β : Type} {K : PySem.W.Frag} {R : Rp α} {S : Rp β} [Mono R] [Mono S] : Mono (RP K R S) := ⟨fun e ⟨a, x, y, h, t, p, q⟩ => ⟨a, x, y, h, t.im e, Mono.im e p, Mono.im e q⟩⟩
/-- a tuple of ints -/
abbrev RN (K : PySem.W.Frag) : Rp (List Int) := RT K RI
theorem paired_ints {H : Hp} : ∀ {vs : List V} {ns : List Int}, Paired (RI H) vs ns → vs = ns.map V.int
  | _, _, .nil => rfl
  | _, _, .cons r t => by rw [List.map_cons, ← paired_ints t]; exact congrArg (· :: _) r
theorem ints_paired {H : Hp} : ∀ ns : List Int, Paired (RI H) (ns.map V.int) ns
  | [] => .nil
  | n :: ns => .cons rfl (ints_paired ns)
theorem rn_iff {K : PySem.W.Frag} {H : Hp} {v : V} {ns : List Int} : RN K H v ns ↔ ∃ a, v = .ref a ∧ Tu K H a (ns.map V.int) := by
  constructor
  · rintro ⟨a, vs, rfl, t, p⟩
    rw [paired_ints p] at t
    exact ⟨a, rfl, t⟩
  · rintro ⟨a, rfl, t⟩
    exact ⟨a, _, rfl, t, ints_paired ns⟩
theorem rn_tupI {K : PySem.W.Frag} {H : Hp} {v : V} {ns : List Int} (h : RN K H v ns) : TupI K H v ns := by
  obtain ⟨a, rfl, t⟩ := rn_iff.mp h
  exact ⟨a, rfl, t.sq⟩
/-- a fraction in lowest terms -/
def frl (q : Rat) : List Int := [q.num, (q.den : Int)]
def RQ (K : PySem.W.Frag) : Rp Rat := fun H v q => RN K H v (frl q)
instance {K : PySem.W.Frag} : Mono (RQ K) := ⟨fun e r => Mono.im (R := RN K) e r⟩
/-- a list -/
def RL {α : Type} (R : Rp α) : Rp (List α) := fun H v xs => ∃ a vs, v = .ref a ∧ H a = some (.lst vs) ∧ Paired (R H) vs xs
instance {α : Type} {R : Rp α} [MonoE R] : MonoE (RL R) := ⟨fun e ⟨a, vs, h, t, p⟩ => ⟨a, vs, h, e _ _ t, Paired.imp p fun _ _ r => MonoE.ex e r⟩⟩
/-- terms: powers and counts -/
abbrev Tms := List (List Int × Int)
abbrev RTm (K : PySem.W.Frag) : Rp Tms := RT K (RP K (RN K) RI)
/-- an instance of C or C' that holds terms -/
def RPo (K : PySem.W.Frag) : Rp Tms := fun H v ts => ∃ a C dx t, v = .ref a ∧ H a = some (.ins C dx [("terms", t)]) ∧ Cls K C ∧ NoAttr K C "terms" ∧ RTm K H t ts
instance {K : PySem.W.Frag} : Mono (RPo K) := ⟨fun e ⟨a, C, dx, t, h, i, c, n, r⟩ => ⟨a, C, dx, t, h, e _ _ i rfl, c, n, Mono.im e r⟩⟩
/-- the entries of a dict whose keys are tuples -/
def EnS {α : Type} (K : PySem.W.Frag) (R : Rp α) (H : Hp) : List En → List (List Int × α) → Prop := Paired fun (e : En) (x : List Int × α) => e.1 = x.1 ∧ Tu K H e.2.1 (x.1.map V.int) ∧ R H e.2.2 x.2
theorem EnS.im {α : Type} {K : PySem.W.Frag} {R : Rp α} [Mono R] {H H' : Hp} {es : List En} {xs : List (List Int × α)} (e : Im H H') (s : EnS K R H es xs) : EnS K R H' es xs := Paired.imp s fun _ _ r => ⟨r.1, r.2.1.im e, Mono.im e r.2.2⟩
theorem EnS.keyS {α : Type} {K : PySem.W.Frag} {R : Rp α} {H : Hp} {es : List En} {xs : List (List Int × α)} (s : EnS K R H es xs) : KeyS K H es := by
  induction s with
  | nil => intro e he; exact nomatch he
  | cons h _ ih =>
    intro e he
    rcases List.mem_cons.mp he with q | q
    · subst q; rw [h.1]; exact h.2.1.sq
    · exact ih e q
/-- look-up and store, by data -/
def lkT {α : Type} (xs : List (List Int × α)) (k : List Int) : Option α := (xs.find? fun e => decide (e.1 = k)).map (·.2)
def ptT {α : Type} (xs : List (List Int × α)) (k : List Int) (v : α) : List (List Int × α) := if (lkT xs k).isSome then xs.map (fun e => if e.1 = k then (e.1, v) else e) else xs ++ [(k, v)]
theorem EnS.lk {α : Type} {K : PySem.W.Frag} {R : Rp α} {H : Hp} {es : List En} {xs : List (List Int × α)} (s : EnS K R H es xs) (k : List Int) :
    (lkE es k = none ∧ lkT xs k = none) ∨ ∃ v x, lkE es k = some v ∧ lkT xs k = some x ∧ R H v x := by
  induction s with
  | nil => exact .inl ⟨rfl, rfl⟩
  | @cons p q ps qs h t ih =>
    by_cases e : q.1 = k
    · have e' : p.1 = k := h.1.trans e
      exact .inr ⟨p.2.2, q.2, by simp [lkE, List.find?_cons, e'], by simp [lkT, List.find?_cons, e], h.2.2⟩
    · have e' : ¬ p.1 = k := fun z => e (h.1.symm.trans z)
      have b : lkE (p :: ps) k = lkE ps k := by simp [lkE, List.find?_cons, e']
      have b2 : lkT (q :: qs) k = lkT qs k := by simp [lkT, List.find?_cons, e]
      rw [b, b2]; exact ih
theorem EnS.put {α : Type} {K : PySem.W.Frag} {R : Rp α} {H : Hp} {es : List En} {xs : List (List Int × α)} (s : EnS K R H es xs) {k : List Int} {b : Addr} {v : V} {x : α} (hb : Tu K H b (k.map V.int)) (hv : R H v x) : EnS K R H (ptE es k b v) (ptT xs k x) := by
  have e : (lkE es k).isSome = (lkT xs k).isSome := by
    rcases s.lk k with ⟨h1, h2⟩ | ⟨_, _, h1, h2, _⟩ <;> rw [h1, h2] <;> rfl
  unfold ptE ptT
  rw [e]
  by_cases c : (lkT xs k).isSome = true
  · rw [if_pos c, if_pos c]
    clear c e
    induction s with
    | nil => exact .nil
    | @cons p q ps qs h t ih =>
      rw [List.map_cons, List.map_cons]
      refine .cons ?_ ih
      by_cases z : q.1 = k
      · rw [if_pos (h.1.trans z), if_pos z]; exact ⟨h.1, h.2.1, hv⟩
      · rw [if_neg (fun y => z (h.1.symm.trans y)), if_neg z]; exact h
  · rw [if_neg c, if_neg c]; exact Paired.snoc s ⟨rfl, hb, hv⟩
theorem EnS.length {α : Type} {K : PySem.W.Frag} {R : Rp α} {H : Hp} {es : List En} {xs : List (List Int × α)} (s : EnS K R H es xs) : es.length = xs.length := Paired.length s
def RD {α : Type} (P : Program) (w : World) (K : PySem.W.Frag) (R : Rp α) : Rp (List (List Int × α)) := fun H v xs => ∃ a es, v = .ref a ∧ Rd H a (DO P w a es) ∧ EnS K R H es xs
instance {α : Type} {P : Program} {w : World} {K : PySem.W.Frag} {R : Rp α} [Mono R] : MonoE (RD P w K R) := ⟨fun e ⟨a, es, h, t, p⟩ => ⟨a, es, h, rd_ex e t, p.im e.im⟩⟩
theorem RD.at {α : Type} {P : Program} {w : World} {K : PySem.W.Frag} {R : Rp α} {H : Hp} {v : V} {xs : List (List Int × α)} (h : RD P w K R H v xs) : ∃ es, DAt P w K H v es ∧ EnS K R H es xs := by
  obtain ⟨a, es, rfl, rd, s⟩ := h
  exact ⟨es, ⟨a, rfl, rd, s.keyS⟩, s⟩
theorem Paired.app {α β : Type} {F : α → β → Prop} : ∀ {l₁ : List α} {l₂ : List β} {m₁ : List α} {m₂ : List β}, Paired F l₁ l₂ → Paired F m₁ m₂ → Paired F (l₁ ++ m₁) (l₂ ++ m₂)
  | _, _, _, _, .nil, q => q
  | _, _, _, _, .cons r t, q => .cons r (Paired.app t q)
theorem Paired.get2 {α β : Type} {F : α → β → Prop} : ∀ {l₁ : List α} {l₂ : List β}, Paired F l₁ l₂ → ∀ {i : Nat} {y : β}, l₂[i]? = some y → ∃ x, l₁[i]? = some x ∧ F x y
  | _, _, .nil, _, _, e => by simp at e
  | _, _, .cons r t, 0, _, e => ⟨_, rfl, by simp at e; subst e; exact r⟩
  | _, _, .cons r t, i + 1, _, e => by
    obtain ⟨x, h1, h2⟩ := Paired.get2 t (i := i) (by simpa using e)
    exact ⟨x, by simpa using h1, h2⟩
theorem Paired.get1 {α β : Type} {F : α → β → Prop} : ∀ {l₁ : List α} {l₂ : List β}, Paired F l₁ l₂ → ∀ {i : Nat} {x : α}, l₁[i]? = some x → ∃ y, l₂[i]? = some y ∧ F x y
  | _, _, .nil, _, _, e => by simp at e
  | _, _, .cons r t, 0, _, e => ⟨_, rfl, by simp at e; subst e; exact r⟩
  | _, _, .cons r t, i + 1, _, e => by
    obtain ⟨x, h1, h2⟩ := Paired.get1 t (i := i) (by simpa using e)
    exact ⟨x, by simpa using h1, h2⟩
end Bx

set_option Elab.async false
set_option linter.all false
set_option maxRecDepth 100000
set_option maxHeartbeats 2000000
namespace Bx
open PySem L2
/-- te comes to something that stands for x, whatever new stands besides; nothing that stood is changed -/
def EvR {α : Type} (R : Rp α) (te : TE) (σ : L2.St) (H : Hp) (x : α) : Prop := ∀ H1, Ex H H1 → ∀ Q : VK, (∀ v H2, Ex H1 H2 → R H2 v x → Q v H2) → te σ H1 Q
def EvT (tt : TT) (σ : L2.St) (H : Hp) (b : Bool) : Prop := ∀ H1, Ex H H1 → ∀ Q : Bool → Hp → Prop, (∀ H2, Ex H1 H2 → Q b H2) → tt σ H1 Q
section
variable {α β γ δ ε : Type} {R : Rp α} {S : Rp β} {R3 : Rp γ} {R4 : Rp δ} {K : PySem.W.Frag} {P : Program} {w : World} {σ : L2.St} {H H' : Hp} {ta tb tc te : TE} {t u : TT} {x : α} {y : β} {i j : Int}
theorem EvR.mono (e : Ex H H') (h : EvR R te σ H x) : EvR R te σ H' x := fun H1 a Q q => h H1 (e.trans a) Q q
theorem EvT.mono {b : Bool} (e : Ex H H') (h : EvT t σ H b) : EvT t σ H' b := fun H1 a Q q => h H1 (e.trans a) Q q
theorem EvR.is {x' : α} (h : EvR R te σ H x) (e : x = x') : EvR R te σ H x' := e ▸ h
theorem EvT.is {b c : Bool} (h : EvT t σ H b) (e : b = c) : EvT t σ H c := e ▸ h
/-! ### names, constants -/
theorem ev_var [MonoE R] {n : Nat} {v : V} (h : σ[n]? = some (some v)) (r : R H v x) : EvR R (tVar n) σ H x := fun H1 e _ q => ⟨v, h, q v H1 (Ex.refl H1) (MonoE.ex e r)⟩
theorem ev_vi {n : Nat} (h : σ[n]? = some (some (.int i))) : EvR RI (tVar n) σ H i := ev_var h rfl
theorem ev_c [MonoE R] {v : V} (r : R H v x) : EvR R (tC v) σ H x := fun H1 e _ q => q v H1 (Ex.refl H1) (MonoE.ex e r)
theorem ev_i : EvR RI (tC (.int i)) σ H i := ev_c rfl
/-! ### ints -/
theorem ev_op0 {g : Int → Int → Int} (ha : EvR RI ta σ H i) (hb : EvR RI tb σ H j) : EvR RI (tOp (rI0 fun i j => .int (g i j)) ta tb) σ H (g i j) := fun H1 e Q q =>
  ha H1 e _ fun v H2 e2 r => hb H2 (e.trans e2) _ fun u H3 e3 r' => ⟨i, j, r, r', q _ H3 (e2.trans e3) rfl⟩
theorem ev_opC {g : Int → Int → Int} {C : Int → Int → Prop} (ha : EvR RI ta σ H i) (hb : EvR RI tb σ H j) (hc : C i j) : EvR RI (tOp (rI C fun i j => .int (g i j)) ta tb) σ H (g i j) := fun H1 e Q q =>
  ha H1 e _ fun v H2 e2 r => hb H2 (e.trans e2) _ fun u H3 e3 r' => ⟨i, j, r, r', hc, q _ H3 (e2.trans e3) rfl⟩
theorem ev_opB {g : Int → Int → Bool} (ha : EvR RI ta σ H i) (hb : EvR RI tb σ H j) : EvR RB (tOp (rI0 fun i j => .bl (g i j)) ta tb) σ H (g i j) := fun H1 e Q q =>
  ha H1 e _ fun v H2 e2 r => hb H2 (e.trans e2) _ fun u H3 e3 r' => ⟨i, j, r, r', q _ H3 (e2.trans e3) rfl⟩
theorem ev_eqI (ha : EvR RI ta σ H i) (hb : EvR RI tb σ H j) : EvR RB (tOp rEq ta tb) σ H (decide (i = j)) := fun H1 e Q q =>
  ha H1 e _ fun v H2 e2 r => hb H2 (e.trans e2) _ fun u H3 e3 r' => by
    cases r; cases r'
    refine ⟨rfl, ?_⟩
    have z := q (.bl (decide (i = j))) H3 (e2.trans e3) rfl
    have e : decide (V.int i = V.int j) = decide (i = j) := by by_cases h : i = j <;> simp [h]
    rw [e]; exact z
theorem ev_neI (ha : EvR RI ta σ H i) (hb : EvR RI tb σ H j) : EvR RB (tOp rNe ta tb) σ H (!decide (i = j)) := fun H1 e Q q =>
  ha H1 e _ fun v H2 e2 r => hb H2 (e.trans e2) _ fun u H3 e3 r' => by
    cases r; cases r'
    refine ⟨rfl, ?_⟩
    have z := q (.bl (!decide (i = j))) H3 (e2.trans e3) rfl
    have e : decide (V.int i = V.int j) = decide (i = j) := by by_cases h : i = j <;> simp [h]
    rw [e]; exact z
theorem ev_neg (ha : EvR RI ta σ H i) : EvR RI (tUn (rU fun i => .int (-i)) ta) σ H (-i) := fun H1 e Q q =>
  ha H1 e _ fun v H2 e2 r => ⟨i, r, q _ H2 e2 rfl⟩
/-! ### truth -/
theorem ev_and {a b : Bool} (h1 : EvR RB ta σ H a) (h2 : a = true → EvR RB tb σ H b) : EvR RB (tAndV ta tb) σ H (a && b) := fun H1 e Q q => h1 H1 e _ fun v H2 e2 r => ⟨a, r, by
  cases a with
  | true =>
    show tb σ H2 Q
    exact h2 rfl H2 (e.trans e2) Q fun v H3 e3 r => q v H3 (e2.trans e3) r
  | false =>
    show Q (.bl false) H2
    exact q _ H2 e2 rfl⟩
theorem ev_not {a : Bool} (h1 : EvR RB ta σ H a) : EvR RB (tNotV ta) σ H (!a) := fun H1 e _ q => h1 H1 e _ fun v H2 e2 r => ⟨a, r, q _ H2 e2 rfl⟩
theorem et_test {b : Bool} (h : EvR RB te σ H b) : EvT (tTest te) σ H b := fun H1 e _ q => h H1 e _ fun v H2 e2 r => ⟨b, r, q H2 e2⟩
theorem et_B {b : Bool} (h : EvR RB te σ H b) : EvT (tB te) σ H b := fun H1 e _ q => h H1 e _ fun v H2 e2 r => ⟨b, r, q H2 e2⟩
theorem et_yes : EvT tYes σ H true := fun H1 _ _ q => q H1 (Ex.refl H1)
theorem et_and {a b : Bool} (h1 : EvT t σ H a) (h2 : a = true → EvT u σ H b) : EvT (tAnd t u) σ H (a && b) := fun H1 e Q q => h1 H1 e _ fun H2 e2 => by
  cases a with
  | true =>
    show u σ H2 Q
    exact h2 rfl H2 (e.trans e2) Q fun H3 e3 => q H3 (e2.trans e3)
  | false =>
    show Q false H2
    exact q H2 e2
theorem et_or {a b : Bool} (h1 : EvT t σ H a) (h2 : a = false → EvT u σ H b) : EvT (tOr t u) σ H (a || b) := fun H1 e Q q => h1 H1 e _ fun H2 e2 => by
  cases a with
  | true =>
    show Q true H2
    exact q H2 e2
  | false =>
    show u σ H2 Q
    exact h2 rfl H2 (e.trans e2) Q fun H3 e3 => q H3 (e2.trans e3)
theorem et_not {a : Bool} (h1 : EvT t σ H a) : EvT (tNot t) σ H (!a) := fun H1 e _ q => h1 H1 e _ fun H2 e2 => q H2 e2
theorem ev_if {b : Bool} (h : EvT t σ H b) (h1 : b = true → EvR R ta σ H x) (h2 : b = false → EvR R tb σ H x) : EvR R (tIf t ta tb) σ H x := fun H1 e Q q => h H1 e _ fun H2 e2 => by
  cases b with
  | true =>
    show ta σ H2 Q
    exact h1 rfl H2 (e.trans e2) Q fun v H3 e3 => q v H3 (e2.trans e3)
  | false =>
    show tb σ H2 Q
    exact h2 rfl H2 (e.trans e2) Q fun v H3 e3 => q v H3 (e2.trans e3)
theorem ev_chain {g g' : Int → Int → Bool} {k : Int} (ha : EvR RI ta σ H i) (hb : EvR RI tb σ H j) (hc : EvR RI tc σ H k) : EvR RB (tChain (rI0 fun i j => .bl (g i j)) (rI0 fun i j => .bl (g' i j)) ta tb tc) σ H (g i j && g' j k) := fun H1 e Q q =>
  ha H1 e _ fun v H2 e2 r => hb H2 (e.trans e2) _ fun u H3 e3 r' => ⟨i, j, r, r', g i j, rfl, by
    cases hg : g i j with
    | true =>
      show tc σ H3 _
      refine hc H3 ((e.trans e2).trans e3) _ fun z H4 e4 r4 => ⟨j, k, r', r4, q _ H4 ((e2.trans e3).trans e4) ?_⟩
      rw [hg]; rfl
    | false =>
      show Q (.bl false) H3
      refine q _ H3 (e2.trans e3) ?_
      rw [hg]; rfl⟩
/-! ### items -/
theorem paired_at {vs : List V} {xs : List α} (p : Paired (R H) vs xs) {n : Nat} (hn : xs[n]? = some x) : ∃ v, atI vs (n : Int) = some v ∧ R H v x := by
  obtain ⟨v, h1, h2⟩ := Paired.get2 p hn
  exact ⟨v, atI_nat h1, h2⟩
theorem ev_ixT [MonoE R] {xs : List α} {n : Nat} (ha : EvR (RT K R) ta σ H xs) (hb : EvR RI tb σ H (n : Int)) (hn : xs[n]? = some x) : EvR R (tOp (rIxT K) ta tb) σ H x := fun H1 e Q q =>
  ha H1 e _ fun v H2 e2 ⟨a, vs, hv, t, p⟩ => hb H2 (e.trans e2) _ fun u H3 e3 r' => by
    have t3 : SqT K H3 a vs := by
      rcases t with t | t
      · exact .inl (.inl (e3 _ _ t))
      · exact t H3
    obtain ⟨z, h1, h2⟩ := paired_at p hn
    exact ⟨a, vs, n, z, hv, r', t3, h1, q z H3 (e2.trans e3) (MonoE.ex e3 h2)⟩
theorem ev_ixL [MonoE R] {xs : List α} {n : Nat} (ha : EvR (RL R) ta σ H xs) (hb : EvR RI tb σ H (n : Int)) (hn : xs[n]? = some x) : EvR R (tOp (rIxL K) ta tb) σ H x := fun H1 e Q q =>
  ha H1 e _ fun v H2 e2 ⟨a, vs, hv, t, p⟩ => hb H2 (e.trans e2) _ fun u H3 e3 r' => by
    obtain ⟨z, h1, h2⟩ := paired_at p hn
    exact ⟨a, vs, n, z, hv, r', .inl (.inl (e3 _ _ t)), h1, q z H3 (e2.trans e3) (MonoE.ex e3 h2)⟩
theorem tu_sq3 {a : Addr} {vs : List V} (e : Ex H H') (t : Tu K H a vs) : SqT K H' a vs := by
  rcases t with t | t
  · exact .inl (.inl (e _ _ t))
  · exact t H'
theorem ev_fst [MonoE R] {p : α × β} (ha : EvR (RP K R S) ta σ H p) : EvR R (tOp (rIxT K) ta (tC (.int 0))) σ H p.1 := fun H1 e Q q =>
  ha H1 e _ fun v H2 e2 ⟨a, z, z', hv, t, p1, p2⟩ => ⟨a, _, 0, z, hv, rfl, t.sq, atI_nat (j := 0) rfl, q z H2 e2 p1⟩
theorem ev_snd [MonoE S] {p : α × β} (ha : EvR (RP K R S) ta σ H p) : EvR S (tOp (rIxT K) ta (tC (.int 1))) σ H p.2 := fun H1 e Q q =>
  ha H1 e _ fun v H2 e2 ⟨a, z, z', hv, t, p1, p2⟩ => ⟨a, _, 1, z', hv, rfl, t.sq, atI_nat (j := 1) rfl, q z' H2 e2 p2⟩
theorem ev_num {r : Rat} (ha : EvR (RQ K) ta σ H r) : EvR RI (tOp (rIxT K) ta (tC (.int 0))) σ H r.num := ev_ixT (K := K) (xs := frl r) (n := 0) ha ev_i rfl
theorem ev_den {r : Rat} (ha : EvR (RQ K) ta σ H r) : EvR RI (tOp (rIxT K) ta (tC (.int 1))) σ H (r.den : Int) := ev_ixT (K := K) (xs := frl r) (n := 1) ha ev_i rfl
theorem ev_xget [Mono R] {xs : List (List Int × α)} {k : List Int} (ha : EvR (RD P w K R) ta σ H xs) (hb : EvR (RN K) tb σ H k) (hk : lkT xs k = some x) : EvR R (tXGet P w K ta tb) σ H x := fun H1 e Q q =>
  ha H1 e _ fun v H2 e2 r => hb H2 (e.trans e2) _ fun u H3 e3 r' => by
    obtain ⟨es, d, s⟩ := RD.at (MonoE.ex e3 r)
    obtain ⟨b, hb, tb⟩ := rn_iff.mp r'
    rcases s.lk k with ⟨_, h2⟩ | ⟨z, z', h1, h2, h3⟩
    · rw [hk] at h2; cases h2
    · rw [hk] at h2; cases h2
      exact ⟨es, b, k, z, d, hb, tb.sq, h1, q z H3 (e2.trans e3) h3⟩
theorem ev_fld {ts : Tms} (ha : EvR (RPo K) ta σ H ts) : EvR (RTm K) (tFld K ta "terms") σ H ts := fun H1 e Q q =>
  ha H1 e _ fun v H2 e2 ⟨a, C, dx, t, hv, hi, c, n, r⟩ => ⟨a, C, dx, _, t, hv, hi, c, n, rfl, q t H2 e2 r⟩
/-! ### displays -/
theorem ev_pair [MonoE R] [MonoE S] (ha : EvR R ta σ H x) (hb : EvR S tb σ H y) : EvR (RP K R S) (tTup (tCons ta (tCons tb tNil))) σ H (x, y) := fun H1 e Q q =>
  ha H1 e _ fun v H2 e2 r => hb H2 (e.trans e2) _ fun u H3 e3 r' => ⟨by show 2 ≤ sizeLine; decide, fun p hp => q _ _ ((e2.trans e3).trans (Ex.new hp)) ⟨p, v, u, rfl, .inl upd_same, MonoE.ex (e3.trans (Ex.new hp)) r, MonoE.ex (Ex.new hp) r'⟩⟩
theorem ev_tup2 (ha : EvR RI ta σ H i) (hb : EvR RI tb σ H j) : EvR (RN K) (tTup (tCons ta (tCons tb tNil))) σ H [i, j] := fun H1 e Q q =>
  ha H1 e _ fun v H2 e2 r => hb H2 (e.trans e2) _ fun u H3 e3 r' => ⟨by show 2 ≤ sizeLine; decide, fun p hp => by
    cases r; cases r'
    exact q _ _ ((e2.trans e3).trans (Ex.new hp)) (rn_iff.mpr ⟨p, rfl, .inl upd_same⟩)⟩
theorem ev_tup1 (ha : EvR RI ta σ H i) : EvR (RN K) (tTup (tCons ta tNil)) σ H [i] := fun H1 e Q q =>
  ha H1 e _ fun v H2 e2 r => ⟨by show 1 ≤ sizeLine; decide, fun p hp => by
    cases r
    exact q _ _ (e2.trans (Ex.new hp)) (rn_iff.mpr ⟨p, rfl, .inl upd_same⟩)⟩
theorem ev_tup0 : EvR (RN K) (tTup tNil) σ H [] := fun H1 e Q q => ⟨by show 0 ≤ sizeLine; decide, fun p hp => q _ _ (Ex.new hp) (rn_iff.mpr ⟨p, rfl, .inl upd_same⟩)⟩
theorem ev_tup4 {k l : Int} (ha : EvR RI ta σ H i) (hb : EvR RI tb σ H j) (hc : EvR RI tc σ H k) (hd : EvR RI te σ H l) : EvR (RN K) (tTup (tCons ta (tCons tb (tCons tc (tCons te tNil))))) σ H [i, j, k, l] := fun H1 e Q q =>
  ha H1 e _ fun v H2 e2 r => hb H2 (e.trans e2) _ fun u H3 e3 r' => hc H3 ((e.trans e2).trans e3) _ fun v3 H4 e4 r3 => hd H4 (((e.trans e2).trans e3).trans e4) _ fun v4 H5 e5 r4 => ⟨by show 4 ≤ sizeLine; decide, fun p hp => by
    cases r; cases r'; cases r3; cases r4
    exact q _ _ ((((e2.trans e3).trans e4).trans e5).trans (Ex.new hp)) (rn_iff.mpr ⟨p, rfl, .inl upd_same⟩)⟩
/-- a written list of ints -/
def EvL (t : TA) (σ : L2.St) (H : Hp) (ns : List Int) : Prop := ∀ H1, Ex H H1 → ∀ Q : List V → Hp → Prop, (∀ H2, Ex H1 H2 → Q (ns.map V.int) H2) → t σ H1 Q
theorem el_nil : EvL tNil σ H [] := fun H1 _ _ q => q H1 (Ex.refl H1)
theorem el_cons {tr : TA} {ns : List Int} (h : EvR RI ta σ H i) (hr : EvL tr σ H ns) : EvL (tCons ta tr) σ H (i :: ns) := fun H1 e _ q =>
  h H1 e _ fun v H2 e2 r => hr H2 (e.trans e2) _ fun H3 e3 => by cases r; exact q H3 (e2.trans e3)
theorem ev_list {ta : TA} {ns : List Int} (h : EvL ta σ H ns) (hl : ns.length ≤ 100) : EvR (RL RI) (tLst ta) σ H ns := fun H1 e _ q =>
  h H1 e _ fun H2 e2 => ⟨by rw [List.length_map]; exact Nat.le_trans hl (by decide), fun p hp => q _ _ (e2.trans (Ex.new hp)) ⟨p, _, rfl, upd_same, ints_paired ns⟩⟩
/-! ### tuples joined, cut -/
theorem ev_cat {xs ys : List Int} (ha : EvR (RN K) ta σ H xs) (hb : EvR (RN K) tb σ H ys) (hl : xs.length + ys.length ≤ 100) : EvR (RN K) (tOp (rCatA K) ta tb) σ H (xs ++ ys) := fun H1 e Q q =>
  ha H1 e _ fun v H2 e2 r => hb H2 (e.trans e2) _ fun u H3 e3 r' => by
    obtain ⟨a, rfl, t⟩ := rn_iff.mp (MonoE.ex e3 r)
    obtain ⟨b, rfl, t'⟩ := rn_iff.mp r'
    refine ⟨a, b, _, _, rfl, rfl, t.sq, t'.sq, ?_, fun h0 => ?_, fun h0 h1 => ?_, fun h0 h1 p hp => ?_⟩
    · rw [List.length_map, List.length_map]; exact Nat.le_trans hl (by decide)
    · have : xs = [] := by simpa using h0
      subst this
      exact q _ H3 (e2.trans e3) (rn_iff.mpr ⟨b, rfl, t'⟩)
    · have : ys = [] := by simpa using h1
      subst this
      exact q _ H3 (e2.trans e3) (rn_iff.mpr ⟨a, rfl, by rw [List.append_nil]; exact t⟩)
    · exact q _ _ ((e2.trans e3).trans (Ex.new hp)) (rn_iff.mpr ⟨p, rfl, .inl (by rw [upd_same, List.map_append])⟩)
theorem cutV_map (xs : List Int) (lo hi : Option Int) : cutV (xs.map V.int) lo hi = ((xs.drop (HT.sIx xs.length 0 lo)).take (HT.sIx xs.length xs.length hi - HT.sIx xs.length 0 lo)).map V.int := by
  unfold cutV
  rw [List.length_map, List.map_take, List.map_drop]
def EvO (to : TO) (σ : L2.St) (H : Hp) (o : Option Int) : Prop := ∀ H1, Ex H H1 → ∀ Q : Option Int → Hp → Prop, (∀ H2, Ex H1 H2 → Q o H2) → to σ H1 Q
theorem eo_none : EvO tNoPart σ H none := fun H1 _ _ q => q H1 (Ex.refl H1)
theorem eo_some (h : EvR RI ta σ H i) : EvO (tPart ta) σ H (some i) := fun H1 e _ q => h H1 e _ fun v H2 e2 r => ⟨i, r, q H2 e2⟩
theorem ev_slT {tl th : TO} {lo hi : Option Int} {xs ys : List Int} (ha : EvR (RN K) ta σ H xs) (h1 : EvO tl σ H lo) (h2 : EvO th σ H hi) (e0 : (xs.drop (HT.sIx xs.length 0 lo)).take (HT.sIx xs.length xs.length hi - HT.sIx xs.length 0 lo) = ys) : EvR (RN K) (tSl (rSlA K) ta tl th) σ H ys := fun H1 e Q q =>
  ha H1 e _ fun v H2 e2 r => h1 H2 (e.trans e2) _ fun H3 e3 => h2 H3 ((e.trans e2).trans e3) _ fun H4 e4 => by
    obtain ⟨a, rfl, t⟩ := rn_iff.mp (MonoE.ex (e3.trans e4) r)
    refine ⟨a, _, rfl, t.sq, fun h0 => ?_, fun h0 p hp => ?_⟩
    · rw [List.length_map] at h0
      have : ys = xs := by rw [← e0, h0.1, h0.2]; simp
      subst this
      exact q _ H4 ((e2.trans e3).trans e4) (rn_iff.mpr ⟨a, rfl, t⟩)
    · exact q _ _ (((e2.trans e3).trans e4).trans (Ex.new hp)) (rn_iff.mpr ⟨p, rfl, .inl (by rw [upd_same, cutV_map, e0])⟩)
theorem sl_from (xs : List Int) (n : Nat) (hn : n ≤ xs.length) : (xs.drop (HT.sIx xs.length 0 (some (n : Int)))).take (HT.sIx xs.length xs.length none - HT.sIx xs.length 0 (some (n : Int))) = xs.drop n := by
  rw [HT.sIx_nat, HT.sIx_none, Nat.min_eq_left hn, List.take_of_length_le (by rw [List.length_drop]; omega)]
theorem sl_to (xs : List Int) (n : Nat) (hn : n ≤ xs.length) : (xs.drop (HT.sIx xs.length 0 none)).take (HT.sIx xs.length xs.length (some (n : Int)) - HT.sIx xs.length 0 none) = xs.take n := by
  rw [HT.sIx_nat, HT.sIx_none, Nat.min_eq_left hn, List.drop_zero, Nat.sub_zero]
/-! ### built-ins -/
theorem ev_len [MonoE R] {xs : List α} (ha : EvR (RT K R) ta σ H xs) : EvR RI (tCB (fun vs H Q => ∃ p ys, vs = [.ref p] ∧ (SqL K H p ys ∨ SqT K H p ys) ∧ Q (.int ys.length) H) (tCons ta tNil)) σ H (xs.length : Int) := fun H1 e Q q =>
  ha H1 e _ fun v H2 e2 ⟨a, vs, hv, t, p⟩ => by
    subst hv
    refine ⟨a, vs, rfl, .inr t.sq, ?_⟩
    rw [Paired.length p]
    exact q _ H2 e2 rfl
theorem ev_lenL [MonoE R] {xs : List α} (ha : EvR (RL R) ta σ H xs) : EvR RI (tCB (fun vs H Q => ∃ p ys, vs = [.ref p] ∧ (SqL K H p ys ∨ SqT K H p ys) ∧ Q (.int ys.length) H) (tCons ta tNil)) σ H (xs.length : Int) := fun H1 e Q q =>
  ha H1 e _ fun v H2 e2 ⟨a, vs, hv, t, p⟩ => by
    subst hv
    refine ⟨a, vs, rfl, .inl (.inl (.inl t)), ?_⟩
    rw [Paired.length p]
    exact q _ H2 e2 rfl
theorem ev_abs (ha : EvR RI ta σ H i) : EvR RI (tCB (fun xs H Q => ∃ i, xs = [.int i] ∧ Q (.int (if i < 0 then -i else i)) H) (tCons ta tNil)) σ H (i.natAbs : Int) := fun H1 e Q q =>
  ha H1 e _ fun v H2 e2 r => by
    cases r
    refine ⟨i, rfl, ?_⟩
    have z : (if i < 0 then -i else i) = (i.natAbs : Int) := by split <;> omega
    rw [z]
    exact q _ H2 e2 rfl
theorem ev_int (ha : EvR RI ta σ H i) : EvR RI (tCB (fun xs H Q => (∃ i, xs = [.int i] ∧ Q (.int i) H) ∨ ∃ k, xs = [.bl k] ∧ Q (.int (if k then 1 else 0)) H) (tCons ta tNil)) σ H i := fun H1 e Q q =>
  ha H1 e _ fun v H2 e2 r => by
    cases r
    exact .inl ⟨i, rfl, q _ H2 e2 rfl⟩
theorem ev_tupleOf [MonoE R] {xs : List α} (ha : EvR (RL R) ta σ H xs) : EvR (RT K R) (tCB (fun xs H Q => ∃ p ys, xs = [.ref p] ∧ ((SqL K H p ys ∧ ∀ l, H l = none → Q (.ref l) (upd H l (.tup ys))) ∨ (SqT K H p ys ∧ Q (.ref p) H))) (tCons ta tNil)) σ H xs := fun H1 e Q q =>
  ha H1 e _ fun v H2 e2 ⟨a, vs, hv, t, p⟩ => by
    subst hv
    exact ⟨a, vs, rfl, .inl ⟨.inl (.inl t), fun l hl => q _ _ (e2.trans (Ex.new hl)) ⟨l, vs, rfl, .inl upd_same, Paired.imp p fun _ _ r => MonoE.ex (Ex.new hl) r⟩⟩⟩
theorem ev_catL [MonoE R] {xs ys : List α} (ha : EvR (RL R) ta σ H xs) (hb : EvR (RL R) tb σ H ys) (hl : xs.length + ys.length ≤ 1000000) : EvR (RL R) (tOp rCat ta tb) σ H (xs ++ ys) := fun H1 e Q q =>
  ha H1 e _ fun v H2 e2 r => hb H2 (e.trans e2) _ fun u H3 e3 r' => by
    obtain ⟨a, vs, rfl, t, p⟩ := MonoE.ex e3 r
    obtain ⟨b, us, rfl, t', p'⟩ := r'
    refine ⟨a, b, _, _, rfl, rfl, t, t', ?_, fun l hl => q _ _ ((e2.trans e3).trans (Ex.new hl)) ⟨l, _, rfl, upd_same, ?_⟩⟩
    · rw [Paired.length p, Paired.length p']; exact Nat.le_trans hl (by decide)
    · exact Paired.app (Paired.imp p fun _ _ r => MonoE.ex (Ex.new hl) r) (Paired.imp p' fun _ _ r => MonoE.ex (Ex.new hl) r)
end
end Bx

set_option Elab.async false
set_option linter.all false
set_option maxRecDepth 100000
set_option maxHeartbeats 2000000
namespace Bx
open PySem L2
/-! ### promises of defs that change nothing that stood, and their calls -/
section
variable {α β γ δ ε : Type}
def sp1 (R : Rp α) (S : Rp ε) (pre : α → Prop) (f : α → ε) : Sp := fun vs H Q _ => ∃ v x, vs = [v] ∧ R H v x ∧ pre x ∧ ∀ v' H', Ex H H' → S H' v' (f x) → Q v' H'
def sp2 (R : Rp α) (R2 : Rp β) (S : Rp ε) (pre : α → β → Prop) (f : α → β → ε) : Sp := fun vs H Q _ => ∃ v u x y, vs = [v, u] ∧ R H v x ∧ R2 H u y ∧ pre x y ∧ ∀ v' H', Ex H H' → S H' v' (f x y) → Q v' H'
def sp3 (R : Rp α) (R2 : Rp β) (R3 : Rp γ) (S : Rp ε) (pre : α → β → γ → Prop) (f : α → β → γ → ε) : Sp := fun vs H Q _ => ∃ v u t x y z, vs = [v, u, t] ∧ R H v x ∧ R2 H u y ∧ R3 H t z ∧ pre x y z ∧ ∀ v' H', Ex H H' → S H' v' (f x y z) → Q v' H'
def sp4 (R : Rp α) (R2 : Rp β) (R3 : Rp γ) (R4 : Rp δ) (S : Rp ε) (pre : α → β → γ → δ → Prop) (f : α → β → γ → δ → ε) : Sp := fun vs H Q _ => ∃ v u t r x y z q, vs = [v, u, t, r] ∧ R H v x ∧ R2 H u y ∧ R3 H t z ∧ R4 H r q ∧ pre x y z q ∧ ∀ v' H', Ex H H' → S H' v' (f x y z q) → Q v' H'
variable {R : Rp α} {R2 : Rp β} {R3 : Rp γ} {R4 : Rp δ} {S : Rp ε} {K : PySem.W.Frag} {P : Program} {w : World} {σ : L2.St} {H H' : Hp} {ta tb tc te : TE} {x : α} {y : β} {z : γ} {q : δ} {E : XK}
theorem ev_call1 {pre : α → Prop} {f : α → ε} (ha : EvR R ta σ H x) (hp : pre x) : EvR S (tCall (sp1 R S pre f) [] E (tCons ta tNil)) σ H (f x) := fun H1 e Q k =>
  ha H1 e _ fun v H2 e2 r => ⟨v, x, rfl, r, hp, fun v' H' e' s => k v' H' (e2.trans e') s⟩
theorem ev_call2 [MonoE R] {pre : α → β → Prop} {f : α → β → ε} (ha : EvR R ta σ H x) (hb : EvR R2 tb σ H y) (hp : pre x y) : EvR S (tCall (sp2 R R2 S pre f) [] E (tCons ta (tCons tb tNil))) σ H (f x y) := fun H1 e Q k =>
  ha H1 e _ fun v H2 e2 r => hb H2 (e.trans e2) _ fun u H3 e3 r2 => ⟨v, u, x, y, rfl, MonoE.ex e3 r, r2, hp, fun v' H' e' s => k v' H' ((e2.trans e3).trans e') s⟩
theorem ev_call3 [MonoE R] [MonoE R2] {pre : α → β → γ → Prop} {f : α → β → γ → ε} (ha : EvR R ta σ H x) (hb : EvR R2 tb σ H y) (hc : EvR R3 tc σ H z) (hp : pre x y z) : EvR S (tCall (sp3 R R2 R3 S pre f) [] E (tCons ta (tCons tb (tCons tc tNil)))) σ H (f x y z) := fun H1 e Q k =>
  ha H1 e _ fun v H2 e2 r => hb H2 (e.trans e2) _ fun u H3 e3 r2 => hc H3 ((e.trans e2).trans e3) _ fun t H4 e4 r3 => ⟨v, u, t, x, y, z, rfl, MonoE.ex (e3.trans e4) r, MonoE.ex e4 r2, r3, hp, fun v' H' e' s => k v' H' (((e2.trans e3).trans e4).trans e') s⟩
theorem ev_call4 [MonoE R] [MonoE R2] [MonoE R3] {pre : α → β → γ → δ → Prop} {f : α → β → γ → δ → ε} (ha : EvR R ta σ H x) (hb : EvR R2 tb σ H y) (hc : EvR R3 tc σ H z) (hd : EvR R4 te σ H q) (hp : pre x y z q) : EvR S (tCall (sp4 R R2 R3 R4 S pre f) [] E (tCons ta (tCons tb (tCons tc (tCons te tNil))))) σ H (f x y z q) := fun H1 e Q k =>
  ha H1 e _ fun v H2 e2 r => hb H2 (e.trans e2) _ fun u H3 e3 r2 => hc H3 ((e.trans e2).trans e3) _ fun t H4 e4 r3 => hd H4 (((e.trans e2).trans e3).trans e4) _ fun s H5 e5 r4 =>
    ⟨v, u, t, s, x, y, z, q, rfl, MonoE.ex ((e3.trans e4).trans e5) r, MonoE.ex (e4.trans e5) r2, MonoE.ex e5 r3, r4, hp, fun v' H' e' s => k v' H' ((((e2.trans e3).trans e4).trans e5).trans e') s⟩
/-! ### statements -/
variable {D : Ends} {t1 t2 tz : TS} {t : TT}
theorem s_ret (h : EvR R te σ H x) (k : ∀ v H1, Ex H H1 → R H1 v x → D.rt v H1) : tRet te D σ H := h H (Ex.refl H) _ k
theorem q_set {i : Nat} (h : EvR R te σ H x) (k : ∀ v H1, Ex H H1 → R H1 v x → tz D (σ.set i (some v)) H1) : tSeq (tAsg te (gName i)) tz D σ H := h H (Ex.refl H) _ k
theorem s_set {i : Nat} (h : EvR R te σ H x) (k : ∀ v H1, Ex H H1 → R H1 v x → D.nx (σ.set i (some v)) H1) : tAsg te (gName i) D σ H := h H (Ex.refl H) _ k
theorem q_seti {i : Nat} {n : Int} (h : EvR RI te σ H n) (k : ∀ H1, Ex H H1 → tz D (σ.set i (some (.int n))) H1) : tSeq (tAsg te (gName i)) tz D σ H := q_set h fun v H1 e r => by cases r; exact k H1 e
theorem s_seti {i : Nat} {n : Int} (h : EvR RI te σ H n) (k : ∀ H1, Ex H H1 → D.nx (σ.set i (some (.int n))) H1) : tAsg te (gName i) D σ H := s_set h fun v H1 e r => by cases r; exact k H1 e
theorem s_par [MonoE R] {i j : Nat} (ha : EvR R ta σ H x) (hb : EvR R2 tb σ H y) (k : ∀ v u H1, Ex H H1 → R H1 v x → R2 H1 u y → D.nx ((σ.set i (some v)).set j (some u)) H1) : tPar i j (tCons ta (tCons tb tNil)) D σ H :=
  ha H (Ex.refl H) _ fun v H2 e2 r => hb H2 e2 _ fun u H3 e3 r2 => ⟨v, u, rfl, k v u H3 (e2.trans e3) (MonoE.ex e3 r) r2⟩
theorem q_par [MonoE R] {i j : Nat} (ha : EvR R ta σ H x) (hb : EvR R2 tb σ H y) (k : ∀ v u H1, Ex H H1 → R H1 v x → R2 H1 u y → tz D ((σ.set i (some v)).set j (some u)) H1) : tSeq (tPar i j (tCons ta (tCons tb tNil))) tz D σ H := s_par (D := { D with nx := tz D }) ha hb k
theorem q_pari {i j : Nat} {n m : Int} (ha : EvR RI ta σ H n) (hb : EvR RI tb σ H m) (k : ∀ H1, Ex H H1 → tz D ((σ.set i (some (.int n))).set j (some (.int m))) H1) : tSeq (tPar i j (tCons ta (tCons tb tNil))) tz D σ H := q_par ha hb fun v u H1 e r r2 => by cases r; cases r2; exact k H1 e
theorem s_pari {i j : Nat} {n m : Int} (ha : EvR RI ta σ H n) (hb : EvR RI tb σ H m) (k : ∀ H1, Ex H H1 → D.nx ((σ.set i (some (.int n))).set j (some (.int m))) H1) : tPar i j (tCons ta (tCons tb tNil)) D σ H := s_par ha hb fun v u H1 e r r2 => by cases r; cases r2; exact k H1 e
theorem q_par3 [MonoE R] [MonoE R2] {i j l : Nat} (ha : EvR R ta σ H x) (hb : EvR R2 tb σ H y) (hc : EvR R3 tc σ H z) (k : ∀ v u t H1, Ex H H1 → R H1 v x → R2 H1 u y → R3 H1 t z → tz D (((σ.set i (some v)).set j (some u)).set l (some t)) H1) : tSeq (tPar3 i j l (tCons ta (tCons tb (tCons tc tNil)))) tz D σ H :=
  ha H (Ex.refl H) _ fun v H2 e2 r => hb H2 e2 _ fun u H3 e3 r2 => hc H3 (e2.trans e3) _ fun t H4 e4 r3 => ⟨v, u, t, rfl, k v u t H4 ((e2.trans e3).trans e4) (MonoE.ex (e3.trans e4) r) (MonoE.ex e4 r2) r3⟩
theorem s_augC {i : Nat} {C : Int → Int → Prop} {g : Int → Int → Int} {n m : Int} (hv : σ[i]? = some (some (.int n))) (h : EvR RI te σ H m) (hc : C n m) (k : ∀ H1, Ex H H1 → D.nx (σ.set i (some (.int (g n m)))) H1) : tAug i te (rI C fun i j => .int (g i j)) D σ H :=
  ⟨_, hv, h H (Ex.refl H) _ fun v H1 e r => ⟨n, m, rfl, r, hc, k H1 e⟩⟩
theorem q_augC {i : Nat} {C : Int → Int → Prop} {g : Int → Int → Int} {n m : Int} (hv : σ[i]? = some (some (.int n))) (h : EvR RI te σ H m) (hc : C n m) (k : ∀ H1, Ex H H1 → tz D (σ.set i (some (.int (g n m)))) H1) : tSeq (tAug i te (rI C fun i j => .int (g i j))) tz D σ H := s_augC (D := { D with nx := tz D }) hv h hc k
theorem s_if {b : Bool} (h : EvT t σ H b) (h1 : b = true → ∀ H1, Ex H H1 → t1 D σ H1) (h2 : b = false → ∀ H1, Ex H H1 → t2 D σ H1) : tIfS t t1 t2 D σ H := h H (Ex.refl H) _ fun H1 e => by
  cases b with
  | true => exact h1 rfl H1 e
  | false => exact h2 rfl H1 e
theorem q_if {b : Bool} (h : EvT t σ H b) (h1 : b = true → ∀ H1, Ex H H1 → t1 { D with nx := tz D } σ H1) (h2 : b = false → ∀ H1, Ex H H1 → t2 { D with nx := tz D } σ H1) : tSeq (tIfS t t1 t2) tz D σ H := s_if (D := { D with nx := tz D }) h h1 h2
/-- an if that is not taken -/
theorem q_skip (h : EvT t σ H false) (k : ∀ H1, Ex H H1 → tz D σ H1) : tSeq (tIfS t t1 tNext) tz D σ H := q_if h (fun e => nomatch e) fun _ H1 e => k H1 e
/-! ### loops -/
theorem q_while {tu : TS} (W : Nat → L2.St → Hp → Prop) (m0 : Nat) (h0 : W m0 σ H)
    (hs : ∀ m σ' H', W m σ' H' → ∃ b, EvT t σ' H' b ∧ (b = true → ∀ H1, Ex H' H1 → ∃ N : L2.St → Hp → Prop, (∀ σ2 H2, N σ2 H2 → ∃ m', m' < m ∧ W m' σ2 H2) ∧ tu { D with nx := N, ct := N, bk := tz D } σ' H1) ∧ (b = false → ∀ H1, Ex H' H1 → tz D σ' H1)) : tSeq (tWhile t tu) tz D σ H :=
  ⟨W, ⟨m0, h0⟩, fun m σ' H' hw => by
    obtain ⟨b, ht, h1, h2⟩ := hs m σ' H' hw
    refine ht H' (Ex.refl H') _ fun H1 e => ?_
    cases b with
    | true =>
      obtain ⟨N, n1, n2⟩ := h1 rfl H1 e
      exact ⟨N, n1, n2⟩
    | false => exact h2 rfl H1 e⟩
theorem q_forR {tu : TS} {j : Nat} {n : Int} (h : EvR RI te σ H n) (hn : -1000000 ≤ n ∧ n ≤ 1000000) (k : ∀ H1, Ex H H1 → ∃ Pv : Nat → L2.St → Hp → Prop, Pv 0 σ H1 ∧
    (∀ (i : Nat) σ' H', (i : Int) < n → Pv i σ' H' → tu { D with nx := Pv (i + 1), ct := Pv (i + 1), bk := tz D } (σ'.set j (some (.int (i : Int)))) H') ∧ (∀ σ' H', Pv n.toNat σ' H' → tz D σ' H')) : tSeq (tFor (iRng1 (tCons te tNil)) (gName j) tu) tz D σ H :=
  h H (Ex.refl H) _ fun v H1 e r => by
    obtain ⟨Pv, h0, hs, hd⟩ := k H1 e
    refine ⟨n, by cases r; rfl, by omega, by omega, for_range (lo := 0) (n := n.toNat) (D := { D with nx := tz D }) Pv h0 (fun i σ' H' hi p => ?_) hd⟩
    have e0 : (0 : Int) + (i : Int) = (i : Int) := Int.zero_add _
    show tu _ (σ'.set j (some (.int ((0 : Int) + (i : Int))))) H'
    rw [e0]
    exact hs i σ' H' (by omega) p
theorem q_forR2 {tu : TS} {j : Nat} {lo n : Int} (ha : EvR RI ta σ H lo) (h : EvR RI te σ H n) (hn : -1000000 ≤ n ∧ n ≤ 1000000 ∧ 0 ≤ lo ∧ lo ≤ 1000000) (k : ∀ H1, Ex H H1 → ∃ Pv : Nat → L2.St → Hp → Prop, Pv 0 σ H1 ∧
    (∀ (i : Nat) σ' H', lo + (i : Int) < n → Pv i σ' H' → tu { D with nx := Pv (i + 1), ct := Pv (i + 1), bk := tz D } (σ'.set j (some (.int (lo + (i : Int))))) H') ∧ (∀ σ' H', Pv (n - lo).toNat σ' H' → tz D σ' H')) : tSeq (tFor (iRng2 (tCons ta (tCons te tNil))) (gName j) tu) tz D σ H :=
  ha H (Ex.refl H) _ fun v H1 e r => h H1 e _ fun v2 H2 e2 r2 => by
    obtain ⟨Pv, h0, hs, hd⟩ := k H2 (e.trans e2)
    exact ⟨lo, n, by cases r; cases r2; rfl, by omega, for_range (lo := lo) (n := (n - lo).toNat) (D := { D with nx := tz D }) Pv h0 (fun i σ' H' hi p => hs i σ' H' (by omega) p) hd⟩
/-- over a tuple, a name the target -/
theorem q_forT [Mono R] {tu : TS} {j : Nat} {xs : List α} (h : EvR (RT K R) te σ H xs) (k : ∀ H1, Ex H H1 → ∃ Pv : Nat → L2.St → Hp → Prop, Pv 0 σ H1 ∧ (∀ i σ' H', Pv i σ' H' → Im H1 H') ∧
    (∀ (i : Nat) v x σ' H', xs[i]? = some x → R H' v x → Pv i σ' H' → tu { D with nx := Pv (i + 1), ct := Pv (i + 1), bk := tz D } (σ'.set j (some v)) H') ∧ (∀ σ' H', Pv xs.length σ' H' → tz D σ' H')) : tSeq (tFor (iTup K te) (gName j) tu) tz D σ H :=
  h H (Ex.refl H) _ fun v H1 e ⟨a, vs, hv, t, p⟩ => ⟨a, hv, ⟨vs, t.sq⟩, by
    obtain ⟨Pv, h0, hm, hs, hd⟩ := k H1 e
    have hl := Paired.length p
    refine for_it (walk_tup (K := K) (a := a) (xs := vs)) (D := { D with nx := tz D }) Pv h0 (fun i σ' H' _ pv => (t.im (hm i σ' H' pv)).sq) (fun i x σ' H' H2 hi pv y => ?_) (fun σ' H' pv => hd σ' H' (hl ▸ pv))
    obtain ⟨rfl, hx⟩ := y
    obtain ⟨d, hd1, hd2⟩ := Paired.get1 p hx
    exact hs i x d σ' _ hd1 (Mono.im (hm i σ' _ pv) hd2) pv⟩
/-- over a tuple of pairs, two names the target -/
abbrev gPair (K : PySem.W.Frag) (j l : Nat) : TG := gTup K 2 (gCons (gName j) (gCons (gName l) gNil))
theorem q_forP [Mono R] [Mono R2] {tu : TS} {j l : Nat} {xs : List (α × β)} (h : EvR (RT K (RP K R R2)) te σ H xs) (k : ∀ H1, Ex H H1 → ∃ Pv : Nat → L2.St → Hp → Prop, Pv 0 σ H1 ∧ (∀ i σ' H', Pv i σ' H' → Im H1 H') ∧
    (∀ (i : Nat) v u x y σ' H', xs[i]? = some (x, y) → R H' v x → R2 H' u y → Pv i σ' H' → tu { D with nx := Pv (i + 1), ct := Pv (i + 1), bk := tz D } ((σ'.set j (some v)).set l (some u)) H') ∧ (∀ σ' H', Pv xs.length σ' H' → tz D σ' H')) : tSeq (tFor (iTup K te) (gPair K j l) tu) tz D σ H :=
  h H (Ex.refl H) _ fun v H1 e ⟨a, vs, hv, t, p⟩ => ⟨a, hv, ⟨vs, t.sq⟩, by
    obtain ⟨Pv, h0, hm, hs, hd⟩ := k H1 e
    have hl := Paired.length p
    refine for_it (walk_tup (K := K) (a := a) (xs := vs)) (D := { D with nx := tz D }) Pv h0 (fun i σ' H' _ pv => (t.im (hm i σ' H' pv)).sq) (fun i x σ' H' H2 hi pv y => ?_) (fun σ' H' pv => hd σ' H' (hl ▸ pv))
    obtain ⟨rfl, hx⟩ := y
    obtain ⟨⟨d1, d2⟩, hd1, b, z1, z2, rfl, tb, r1, r2⟩ := Paired.get1 p hx
    exact ⟨b, [z1, z2], rfl, (tb.im (hm i σ' _ pv)).sq, rfl, z1, [z2], rfl, z2, [], rfl, rfl, hs i z1 z2 d1 d2 σ' _ hd1 (Mono.im (hm i σ' _ pv) r1) (Mono.im (hm i σ' _ pv) r2) pv⟩⟩
/-- over a list, a name the target -/
theorem q_forL [Mono R] {tu : TS} {j : Nat} {xs : List α} (h : EvR (RL R) te σ H xs) (k : ∀ a vs H1, Ex H H1 → H1 a = some (.lst vs) → Paired (R H1) vs xs → ∃ Pv : Nat → L2.St → Hp → Prop, Pv 0 σ H1 ∧ (∀ i σ' H', Pv i σ' H' → Im H1 H' ∧ H' a = some (.lst vs)) ∧
    (∀ (i : Nat) v x σ' H', xs[i]? = some x → R H' v x → Pv i σ' H' → tu { D with nx := Pv (i + 1), ct := Pv (i + 1), bk := tz D } (σ'.set j (some v)) H') ∧ (∀ σ' H', Pv xs.length σ' H' → tz D σ' H')) : tSeq (tFor (iList K te) (gName j) tu) tz D σ H :=
  h H (Ex.refl H) _ fun v H1 e ⟨a, vs, hv, t, p⟩ => ⟨a, hv, ⟨vs, .inl (.inl t)⟩, by
    obtain ⟨Pv, h0, hm, hs, hd⟩ := k a vs H1 e t p
    have hl := Paired.length p
    refine for_it (walk_list (K := K) (a := a) (xs := vs)) (D := { D with nx := tz D }) Pv h0 (fun i σ' H' _ pv => .inl (.inl (hm i σ' H' pv).2)) (fun i x σ' H' H2 hi pv y => ?_) (fun σ' H' pv => hd σ' H' (hl ▸ pv))
    obtain ⟨rfl, hx⟩ := y
    obtain ⟨d, hd1, hd2⟩ := Paired.get1 p hx
    exact hs i x d σ' _ hd1 (Mono.im (hm i σ' _ pv).1 hd2) pv⟩
/-- over enumerate(tuple) -/
theorem q_forE [Mono R] {tu : TS} {j l : Nat} {xs : List α} (h : EvR (RT K R) te σ H xs) (k : ∀ H1, Ex H H1 → ∃ Pv : Nat → L2.St → Hp → Prop, Pv 0 σ H1 ∧ (∀ i σ' H', Pv i σ' H' → Im H1 H') ∧
    (∀ (i : Nat) v x σ' H' H2, xs[i]? = some x → R H2 v x → Pv i σ' H' → Ex H' H2 → tu { D with nx := Pv (i + 1), ct := Pv (i + 1), bk := tz D } ((σ'.set j (some (.int (i : Int)))).set l (some v)) H2) ∧ (∀ σ' H', Pv xs.length σ' H' → tz D σ' H')) : tSeq (tFor (iEnumT K (tCons te tNil)) (gPair K j l) tu) tz D σ H :=
  h H (Ex.refl H) _ fun v H1 e ⟨a, vs, hv, t, p⟩ => ⟨a, vs, by rw [hv], t.sq, by
    obtain ⟨Pv, h0, hm, hs, hd⟩ := k H1 e
    have hl := Paired.length p
    refine for_it (walk_enumT (K := K) (a := a) (xs := vs)) (D := { D with nx := tz D }) Pv h0 (fun i σ' H' _ pv => (t.im (hm i σ' H' pv)).sq) (fun i x σ' H' H2 hi pv y => ?_) (fun σ' H' pv => hd σ' H' (hl ▸ pv))
    obtain ⟨T, z1, z2, rfl, hT, rfl, e1, e2⟩ := y
    cases e1
    obtain ⟨d, hd1, hd2⟩ := Paired.get1 p e2
    exact ⟨T, _, rfl, .inl (.inl upd_same), rfl, _, _, rfl, _, _, rfl, rfl, hs i z2 d σ' H' _ hd1 (Mono.im ((hm i σ' _ pv).trans (Im.new hT)) hd2) pv (Ex.new hT)⟩⟩
/-- over zip of two tuples of one length -/
theorem q_forZ [Mono R] [Mono R2] {tu : TS} {j l : Nat} {xs : List α} {ys : List β} (ha : EvR (RT K R) ta σ H xs) (hb : EvR (RT K R2) tb σ H ys) (hxy : xs.length = ys.length) (k : ∀ H1, Ex H H1 → ∃ Pv : Nat → L2.St → Hp → Prop, Pv 0 σ H1 ∧ (∀ i σ' H', Pv i σ' H' → Im H1 H') ∧
    (∀ (i : Nat) v u x y σ' H' H2, xs[i]? = some x → ys[i]? = some y → R H2 v x → R2 H2 u y → Pv i σ' H' → Ex H' H2 → tu { D with nx := Pv (i + 1), ct := Pv (i + 1), bk := tz D } ((σ'.set j (some v)).set l (some u)) H2) ∧ (∀ σ' H', Pv xs.length σ' H' → tz D σ' H')) : tSeq (tFor (RZ.iZipA K (tCons ta (tCons tb tNil))) (gPair K j l) tu) tz D σ H :=
  ha H (Ex.refl H) _ fun v H1 e r => hb H1 e _ fun u H2 e2 ⟨b, us, hu, tb, pb⟩ => by
    obtain ⟨a, vs, hv, t, p⟩ := MonoE.ex e2 r
    refine ⟨a, b, vs, us, by rw [hv, hu], .inr ⟨t.sq, tb.sq, ?_⟩⟩
    obtain ⟨Pv, h0, hm, hs, hd⟩ := k H2 (e.trans e2)
    have hl := Paired.length p
    have hl2 := Paired.length pb
    refine for_it (walk_zipT (K := K) (a := a) (b := b) (xs := vs) (ys := us) (n := xs.length) (by omega)) (D := { D with nx := tz D }) Pv h0 (fun i σ' H' _ pv => ⟨(t.im (hm i σ' H' pv)).sq, (tb.im (hm i σ' H' pv)).sq⟩) (fun i x σ' H' H3 hi pv y => ?_) (fun σ' H' pv => hd σ' H' pv)
    obtain ⟨T, z1, z2, rfl, hT, rfl, e1, e2⟩ := y
    obtain ⟨d, hd1, hd2⟩ := Paired.get1 p e1
    obtain ⟨d', hd1', hd2'⟩ := Paired.get1 pb e2
    have im := (hm i σ' _ pv).trans (Im.new (o := .tup [z1, z2]) hT)
    exact ⟨T, _, rfl, .inl (.inl upd_same), rfl, _, _, rfl, _, _, rfl, rfl, hs i z1 z2 d d' σ' H' _ hd1 hd1' (Mono.im im hd2) (Mono.im im hd2') pv (Ex.new hT)⟩
/-- over the keys of a dict, locked -/
theorem q_forX [Mono R] {tu : TS} {j n : Nat} {d : Addr} {es : List En} {xs : List (List Int × α)} (hv : σ[n]? = some (some (.ref d))) (hd : H d = some (DO P w d es)) (s : EnS K R H es xs) (k : ∀ od, ∃ Pv : Nat → L2.St → Hp → Prop, Pv 0 σ (upd H d (.frz od (DO P w d es))) ∧ (∀ i σ' H', Pv i σ' H' → Ex (upd H d (.frz od (DO P w d es))) H') ∧
    (∀ (i : Nat) v kk x σ' H' D', xs[i]? = some (kk, x) → RN K H' v kk → Pv i σ' H' → D'.nx = Pv (i + 1) → tu D' (σ'.set j (some v)) H') ∧ (∀ σ' H', Pv xs.length σ' H' → Ex H (upd H' d (DO P w d es)) → tz D σ' (upd H' d (DO P w d es)))) : tSeq (tLock (tFor (iXKeys P w (tVar n)) (gName j) tu)) tz D σ H :=
  ⟨d, DO P w d es, hd, True.intro, fun od => ⟨.ref d, hv, d, od, es, rfl, upd_same, by
    obtain ⟨Pv, h0, hm, hs, hd'⟩ := k od
    have hl := s.length
    have imL : Im H (upd H d (.frz od (DO P w d es))) := Im.upd hd rfl
    refine for_it (walk_x (P := P) (w := w) (d := d) (o := od) (es := es)) Pv h0 (fun i σ' H' _ pv => hm i σ' H' pv d _ upd_same) (fun i x σ' H' H2 hi pv y => ?_) (fun σ' H' pv => ⟨hm _ σ' H' pv d _ upd_same, hd' σ' H' (hl ▸ pv) (Ex.unlock hd (hm _ σ' H' pv))⟩)
    obtain ⟨rfl, e, he, rfl⟩ := y
    obtain ⟨⟨kk, x⟩, hx, e1, e2, e3⟩ := Paired.get1 s he
    exact hs i _ kk x σ' _ _ hx (rn_iff.mpr ⟨_, rfl, e2.im (imL.trans (hm i σ' _ pv).im)⟩) pv rfl⟩⟩
end
end Bx

set_option Elab.async false
set_option linter.all false
set_option maxRecDepth 100000
set_option maxHeartbeats 2000000
namespace Bx
open PySem L2
section
variable {α β γ : Type} {R : Rp α} {R2 : Rp γ} {S : Rp β} {K : PySem.W.Frag} {P : Program} {w : World} {σ : L2.St} {H H1 : Hp} {ta te tb : TE} {tt : TT} {vs : List Nat} {D : Addr}
theorem filt_yes {f : α → Bool} {g : α → β} {xs : List α} {i : Nat} {a : α} (h : xs[i]? = some a) (hf : f a = true) : ((xs.take (i + 1)).filter f).map g = ((xs.take i).filter f).map g ++ [g a] := by
  rw [List.take_add_one, h, List.filter_append, List.map_append]
  simp [hf]
theorem filt_no {f : α → Bool} {g : α → β} {xs : List α} {i : Nat} {a : α} (h : xs[i]? = some a) (hf : f a = false) : ((xs.take (i + 1)).filter f).map g = ((xs.take i).filter f).map g := by
  rw [List.take_add_one, h, List.filter_append, List.map_append]
  simp [hf]
theorem paired_len_le {F : V → β → Prop} {acc : List V} {ys : List β} (p : Paired F acc ys) {n : Nat} (h : ys.length ≤ n) : acc.length ≤ n := by rw [Paired.length p]; exact h
theorem lc_run [Mono S] {J : It} {G : Hp → Prop} {Y : Nat → Hp → V → Hp → Prop} {xs : List α} (wk : Walk J xs.length G Y) {gt : TG} {Qd : Hp → Prop} (hD : H1 D = none) (hl : xs.length ≤ 1000000) (hG : ∀ H, Ex H1 H → G H) (f : α → Bool) (g : α → β)
    (hs : ∀ (i : Nat) x a H H' Q, xs[i]? = some a → Ex H1 H → Y i H x H' → (∀ σ2 H2, wipe σ2 vs = wipe σ vs → Ex H H2 → EvT tt σ2 H2 (f a) → (f a = true → EvR S te σ2 H2 (g a)) → Q σ2 H2) → gt x (wipe σ vs) H' Q)
    (hd : ∀ H', Ex H1 H' → RL S H' (.ref D) ((xs.filter f).map g) → Qd H') :
    ∃ W : Nat → Nat → Hp → Prop, (∃ m, W 0 m (upd H1 D (.lst []))) ∧ ∀ i m H, W i m H →
      (J.stop i H ∧ Qd H) ∨ (J.go i H ∧ ∃ Nx : Hp → Prop, (∀ H', Nx H' → ∃ m', m' < m ∧ W (i + 1) m' H') ∧ ∀ x H', J.yld i H x H' → gt x (wipe σ vs) H' fun σ2 H2 => wipe σ2 vs = wipe σ vs ∧ tt σ2 H2 fun b H3 =>
        if b = true then te σ2 H3 fun y H4 => ∃ acc, H4 D = some (.lst acc) ∧ acc.length < sizeLine ∧ Nx (upd H4 D (.lst (acc ++ [y]))) else Nx H3) := by
  refine lc_it wk (fun i H => Ex H1 H ∧ ∃ acc, H D = some (.lst acc) ∧ Paired (S H) acc (((xs.take i).filter f).map g)) ⟨Ex.new hD, [], upd_same, .nil⟩ (fun i H _ p => hG H p.1) ?_ ?_
  · rintro i x H H' hi ⟨e, acc, ha, p⟩ y
    obtain ⟨a, hx⟩ : ∃ a, xs[i]? = some a := ⟨xs[i], List.getElem?_eq_getElem hi⟩
    refine hs i x a H H' _ hx e y fun σ2 H2 hw e2 ht he => ⟨hw, ht H2 (Ex.refl _) _ fun H3 e3 => ?_⟩
    have ha3 := e3 _ _ (e2 _ _ ha)
    cases hf : f a with
    | false =>
      simp only [Bool.false_eq_true, if_false]
      rw [filt_no hx hf]
      exact ⟨(e.trans e2).trans e3, acc, ha3, Paired.imp p fun _ _ r => MonoE.ex (e2.trans e3) r⟩
    | true =>
      simp only [if_true]
      refine he hf H3 e3 _ fun v H4 e4 r => ⟨acc, e4 _ _ ha3, ?_, ((e.trans e2).trans (e3.trans e4)).mut hD, acc ++ [v], upd_same, ?_⟩
      · refine Nat.lt_of_le_of_lt (paired_len_le p (n := 1000000) ?_) (by decide)
        rw [List.length_map]
        exact Nat.le_trans (List.length_filter_le _ _) (Nat.le_trans (by rw [List.length_take]; omega) hl)
      · rw [filt_yes hx hf]
        have im : Im H4 (upd H4 D (.lst (acc ++ [v]))) := Im.upd (e4 _ _ ha3) rfl
        exact Paired.app (Paired.imp p fun _ _ r => Mono.im ((e2.trans (e3.trans e4)).im.trans im) r) (.cons (Mono.im im r) .nil)
  · rintro H ⟨e, acc, ha, p⟩
    rw [List.take_of_length_le (Nat.le_refl _)] at p
    exact hd H e ⟨D, acc, rfl, ha, p⟩
/-- [e for x in t if c], t a tuple -/
theorem ev_lcT [MonoE R] [Mono S] {j : Nat} {xs : List α} (h : EvR (RT K R) ta σ H xs) (hl : xs.length ≤ 1000000) (hw : ∀ x, wipe ((wipe σ vs).set j (some x)) vs = wipe σ vs) (f : α → Bool) (g : α → β)
    (ht : ∀ v x H1, Ex H H1 → x ∈ xs → R H1 v x → EvT tt ((wipe σ vs).set j (some v)) H1 (f x)) (he : ∀ v x H1, Ex H H1 → x ∈ xs → R H1 v x → f x = true → EvR S te ((wipe σ vs).set j (some v)) H1 (g x)) :
    EvR (RL S) (tLc (iTup K ta) (gName j) tt te vs) σ H ((xs.filter f).map g) := fun H0 e0 Q q => h H0 e0 _ fun v H1 e1 ⟨a, us, hv, t, p⟩ => ⟨a, hv, ⟨us, t.sq⟩, fun D hD => by
  have hlen := Paired.length p
  have wk := walk_tup (K := K) (a := a) (xs := us)
  rw [hlen] at wk
  refine lc_run wk hD hl (fun H' e => (t.im e.im).sq) f g (fun i x a' H' H'' Q hx e y k => ?_) fun H' e r => q _ H' (e1.trans e) r
  obtain ⟨rfl, hy⟩ := y
  obtain ⟨a2, h2, r2⟩ := Paired.get1 p hy
  rw [hx] at h2
  cases h2
  have m := List.mem_of_getElem? hx
  have r3 := MonoE.ex e r2
  exact k _ _ (hw x) (Ex.refl _) (ht x a' _ ((e0.trans e1).trans e) m r3) (fun hf => he x a' _ ((e0.trans e1).trans e) m r3 hf)⟩
/-- [e for x, y in t if c], t a tuple of pairs -/
theorem ev_lcP [MonoE R] [MonoE R2] [Mono S] {j l : Nat} {xs : List (α × γ)} (h : EvR (RT K (RP K R R2)) ta σ H xs) (hl : xs.length ≤ 1000000) (hw : ∀ x y, wipe (((wipe σ vs).set j (some x)).set l (some y)) vs = wipe σ vs) (f : α × γ → Bool) (g : α × γ → β)
    (ht : ∀ v u x y H1, Ex H H1 → (x, y) ∈ xs → R H1 v x → R2 H1 u y → EvT tt (((wipe σ vs).set j (some v)).set l (some u)) H1 (f (x, y))) (he : ∀ v u x y H1, Ex H H1 → (x, y) ∈ xs → R H1 v x → R2 H1 u y → f (x, y) = true → EvR S te (((wipe σ vs).set j (some v)).set l (some u)) H1 (g (x, y))) :
    EvR (RL S) (tLc (iTup K ta) (gPair K j l) tt te vs) σ H ((xs.filter f).map g) := fun H0 e0 Q q => h H0 e0 _ fun v H1 e1 ⟨a, us, hv, t, p⟩ => ⟨a, hv, ⟨us, t.sq⟩, fun D hD => by
  have hlen := Paired.length p
  have wk := walk_tup (K := K) (a := a) (xs := us)
  rw [hlen] at wk
  refine lc_run wk hD hl (fun H' e => (t.im e.im).sq) f g (fun i x a' H' H'' Q hx e y k => ?_) fun H' e r => q _ H' (e1.trans e) r
  obtain ⟨rfl, hy⟩ := y
  obtain ⟨a2, h2, r2⟩ := Paired.get1 p hy
  rw [hx] at h2
  cases h2
  have m := List.mem_of_getElem? hx
  obtain ⟨b, z1, z2, rfl, tb, r3, r4⟩ := r2
  have r3 := MonoE.ex e r3
  have r4 := MonoE.ex e r4
  exact ⟨b, [z1, z2], rfl, (tb.im e.im).sq, rfl, z1, [z2], rfl, z2, [], rfl, rfl, k _ _ (hw z1 z2) (Ex.refl _) (ht z1 z2 a'.1 a'.2 _ ((e0.trans e1).trans e) m r3 r4) (fun hf => he z1 z2 a'.1 a'.2 _ ((e0.trans e1).trans e) m r3 r4 hf)⟩⟩
/-- [e for x in l if c], l a list -/
theorem ev_lcL [MonoE R] [Mono S] {j : Nat} {xs : List α} (h : EvR (RL R) ta σ H xs) (hl : xs.length ≤ 1000000) (hw : ∀ x, wipe ((wipe σ vs).set j (some x)) vs = wipe σ vs) (f : α → Bool) (g : α → β)
    (ht : ∀ v x H1, Ex H H1 → x ∈ xs → R H1 v x → EvT tt ((wipe σ vs).set j (some v)) H1 (f x)) (he : ∀ v x H1, Ex H H1 → x ∈ xs → R H1 v x → f x = true → EvR S te ((wipe σ vs).set j (some v)) H1 (g x)) :
    EvR (RL S) (tLc (iList K ta) (gName j) tt te vs) σ H ((xs.filter f).map g) := fun H0 e0 Q q => h H0 e0 _ fun v H1 e1 ⟨a, us, hv, t, p⟩ => ⟨a, hv, ⟨us, .inl (.inl t)⟩, fun D hD => by
  have hlen := Paired.length p
  have wk := walk_list (K := K) (a := a) (xs := us)
  rw [hlen] at wk
  refine lc_run wk hD hl (fun H' e => .inl (.inl (e _ _ t))) f g (fun i x a' H' H'' Q hx e y k => ?_) fun H' e r => q _ H' (e1.trans e) r
  obtain ⟨rfl, hy⟩ := y
  obtain ⟨a2, h2, r2⟩ := Paired.get1 p hy
  rw [hx] at h2
  cases h2
  have m := List.mem_of_getElem? hx
  have r3 := MonoE.ex e r2
  exact k _ _ (hw x) (Ex.refl _) (ht x a' _ ((e0.trans e1).trans e) m r3) (fun hf => he x a' _ ((e0.trans e1).trans e) m r3 hf)⟩
/-- [e for i in range(n)] -/
theorem ev_lcR [Mono S] {j : Nat} {n : Int} (h : EvR RI ta σ H n) (hn : 0 ≤ n ∧ n ≤ 1000000) (hw : ∀ x, wipe ((wipe σ vs).set j (some x)) vs = wipe σ vs) (g : Nat → β)
    (ht : ∀ (i : Nat) H1, Ex H H1 → (i : Int) < n → EvT tt ((wipe σ vs).set j (some (.int (i : Int)))) H1 true) (he : ∀ (i : Nat) H1, Ex H H1 → (i : Int) < n → EvR S te ((wipe σ vs).set j (some (.int (i : Int)))) H1 (g i)) :
    EvR (RL S) (tLc (iRng1 (tCons ta tNil)) (gName j) tt te vs) σ H ((List.range n.toNat).map g) := fun H0 e0 Q q => h H0 e0 _ fun v H1 e1 r => ⟨n, by cases r; rfl, by omega, by omega, fun D hD => by
  have wk := walk_range (lo := 0) (n := n.toNat)
  rw [show n.toNat = (List.range n.toNat).length by simp] at wk
  have ef : (List.range n.toNat).filter (fun _ => true) = List.range n.toNat := List.filter_eq_self.mpr (by simp)
  have z := lc_run (S := S) (te := te) (tt := tt) (σ := σ) (vs := vs) (gt := gName j) (Qd := fun H' => Q (.ref D) H') wk hD (by simp; omega) (fun H' e => True.intro) (fun _ => true) g (fun i x a' H' H'' Q hx e y k => ?_) (fun H' e r => q _ H' (e1.trans e) (by rw [ef] at r; exact r))
  · simpa using z
  · obtain ⟨rfl, rfl⟩ := y
    obtain ⟨hi, rfl⟩ := List.getElem?_eq_some_iff.mp hx
    rw [List.getElem_range] at k
    have hi' : i < n.toNat := by simpa using hi
    have e0' : (0 : Int) + (i : Int) = (i : Int) := Int.zero_add _
    show Q ((wipe σ vs).set j (some (.int ((0 : Int) + (i : Int))))) _
    rw [e0']
    exact k _ _ (hw _) (Ex.refl _) (ht i _ ((e0.trans e1).trans e) (by omega)) (fun _ => he i _ ((e0.trans e1).trans e) (by omega))⟩
/-- [e for k in d if c], d a dict that is locked meanwhile -/
theorem ev_lcX [Mono R] [Mono S] {j n : Nat} {d : Addr} {es : List En} {xs : List (List Int × α)} (hv : σ[n]? = some (some (.ref d))) (hd : H d = some (DO P w d es)) (s : EnS K R H es xs) (hl : xs.length ≤ 1000000) (hw : ∀ x, wipe ((wipe σ vs).set j (some x)) vs = wipe σ vs) (f : List Int × α → Bool) (g : List Int × α → β)
    (ht : ∀ v x H1, x ∈ xs → RN K H1 v x.1 → RD P w K R H1 (.ref d) xs → Im H H1 → EvT tt ((wipe σ vs).set j (some v)) H1 (f x)) (he : ∀ v x H1, x ∈ xs → RN K H1 v x.1 → RD P w K R H1 (.ref d) xs → Im H H1 → f x = true → EvR S te ((wipe σ vs).set j (some v)) H1 (g x)) :
    EvR (RL S) (tLockE (tLc (iXKeys P w (tVar n)) (gName j) tt te vs)) σ H ((xs.filter f).map g) := fun H0 e0 Q q => ⟨d, DO P w d es, e0 _ _ hd, True.intro, fun od => ⟨.ref d, hv, d, od, es, rfl, upd_same, fun D hD => by
  have hl2 := s.length
  have wk := walk_x (P := P) (w := w) (d := d) (o := od) (es := es)
  rw [hl2] at wk
  have hdD : d ≠ D := fun z => by subst z; rw [upd_same] at hD; cases hD
  have imL : Im H0 (upd H0 d (.frz od (DO P w d es))) := Im.upd (e0 _ _ hd) rfl
  refine lc_run (S := S) wk hD hl (fun H' e => e d _ upd_same) f g (fun i x a' H' H'' Q hx e y k => ?_) fun H' e r => ⟨e d _ upd_same, ?_⟩
  · obtain ⟨rfl, ex, he', rfl⟩ := y
    obtain ⟨a2, h2, r1, r2, r3⟩ := Paired.get1 s he'
    rw [hx] at h2
    cases h2
    have im := e0.im.trans (imL.trans e.im)
    have rk : RN K H'' (.ref ex.2.1) a'.1 := rn_iff.mpr ⟨_, rfl, r2.im im⟩
    have rd : RD P w K R H'' (.ref d) xs := ⟨d, es, rfl, .inr ⟨od, e d _ upd_same⟩, s.im im⟩
    have m := List.mem_of_getElem? hx
    exact k _ _ (hw _) (Ex.refl _) (ht _ a' _ m rk rd im) (fun hf => he _ a' _ m rk rd im hf)
  · obtain ⟨a, acc, ea, ha, p⟩ := r
    cases ea
    have im2 : Im H' (upd H' d (DO P w d es)) := Im.upd (e d _ upd_same) rfl
    exact q _ _ (Ex.unlock (e0 _ _ hd) e) ⟨D, acc, rfl, by rw [upd_ne (Ne.symm hdD)]; exact ha, Paired.imp p fun _ _ r => Mono.im im2 r⟩⟩⟩
end
end Bx

set_option Elab.async false
set_option linter.all false
set_option maxRecDepth 100000
set_option maxHeartbeats 2000000
namespace Bx
open PySem L2
section
variable {α β γ : Type} {R : Rp α} {R2 : Rp γ} {S : Rp β} {K : PySem.W.Frag} {P : Program} {w : World} {σ : L2.St} {H H1 : Hp} {ta te tb tk tv : TE} {D : Ends} {tz : TS} {vs : List Nat}
theorem yes_if {A B : Hp → Prop} (h : A H) : tYes σ H (fun b H3 => if b = true then A H3 else B H3) := by
  show (if true = true then A H else B H)
  rw [if_pos rfl]; exact h
theorem Ex.sbm {H0 H H' : Hp} {d : Addr} (e : Ex H0 H) (h : H0 d = none) (s : Sb d H H') : Ex H0 H' := fun a o ha => s a o (fun z => by subst z; rw [h] at ha; cases ha) (e a o ha)
/-- d[k] = v -/
theorem q_xput [Mono R] {n : Nat} {d : Addr} {es : List En} {xs : List (List Int × α)} {k : List Int} {x : α} (hv : σ[n]? = some (some (.ref d))) (hd : H d = some (DO P w d es)) (s : EnS K R H es xs) (hl : xs.length < 10000000) (h1 : EvR R tv σ H x) (h2 : EvR (RN K) tk σ H k)
    (kk : ∀ es' H', Sb d H H' → Im H H' → H' d = some (DO P w d es') → EnS K R H' es' (ptT xs k x) → tz D σ H') : tSeq (sXPut P w K (tVar n) tk tv) tz D σ H :=
  h1 H (Ex.refl H) _ fun v H1 e1 r1 => ⟨.ref d, hv, h2 H1 e1 _ fun u H2 e2 r2 => by
    obtain ⟨b, rfl, tb⟩ := rn_iff.mp r2
    have e := e1.trans e2
    have im2 : Im H2 (upd H2 d (DO P w d (ptE es k b v))) := Im.upd (e _ _ hd) rfl
    have s2 := s.im e.im
    refine ⟨d, es, b, k, rfl, e _ _ hd, ?_, s2.keyS, rfl, tb.sq, kk _ _ ?_ ?_ upd_same ?_⟩
    · rw [s.length]; exact Nat.lt_of_lt_of_le hl (by decide)
    · exact e.sb.trans Sb.upd
    · exact e.im.trans im2
    · exact EnS.im im2 (s2.put tb (MonoE.ex e2 r1))⟩
/-- {k: v for k, v in t}, given to a name -/
def dictOf (xs : List (List Int × α)) : List (List Int × α) := xs.foldl (fun acc p => ptT acc p.1 p.2) []
theorem foldl_take {γ δ : Type} {f : δ → γ → δ} {a : δ} {xs : List γ} {i : Nat} {x : γ} (h : xs[i]? = some x) : (xs.take (i + 1)).foldl f a = f ((xs.take i).foldl f a) x := by
  rw [List.take_add_one, h, List.foldl_append]
  rfl
theorem ptT_length (xs : List (List Int × α)) (k : List Int) (v : α) : (ptT xs k v).length ≤ xs.length + 1 := by
  unfold ptT; split <;> simp
theorem dictOf_length : ∀ (xs acc : List (List Int × α)), (xs.foldl (fun acc p => ptT acc p.1 p.2) acc).length ≤ acc.length + xs.length
  | [], acc => by simp
  | x :: xs, acc => by
    have h1 := dictOf_length xs (ptT acc x.1 x.2)
    have h2 := ptT_length acc x.1 x.2
    rw [List.foldl_cons, List.length_cons]
    omega
theorem q_dcP [Mono R] {i j l : Nat} {xs : List (List Int × α)} (h : EvR (RT K (RP K (RN K) R)) te σ H xs) (hl : xs.length ≤ 1000000) (hw : ∀ x y, wipe (((wipe σ vs).set j (some x)).set l (some y)) vs = wipe σ vs)
    (hj : ∀ x y, ((((wipe σ vs).set j (some x)).set l (some y)))[j]? = some (some x)) (hk : ∀ x y, ((((wipe σ vs).set j (some x)).set l (some y)))[l]? = some (some y))
    (k : ∀ d es H1, Ex H H1 → H d = none → H1 d = some (DO P w d es) → EnS K R H1 es (dictOf xs) → tz D (σ.set i (some (.ref d))) H1) : tSeq (tAsg (tXDc P w K (iTup K te) (gPair K j l) tYes (tVar j) (tVar l) vs) (gName i)) tz D σ H :=
  h H (Ex.refl H) _ fun v H1 e1 ⟨a, us, hv, t, p⟩ => ⟨a, hv, ⟨us, t.sq⟩, fun d hd => by
    have hlen := Paired.length p
    have wk := walk_tup (K := K) (a := a) (xs := us)
    rw [hlen] at wk
    refine dc_it wk (fun i H' => Ex H1 H' ∧ ∃ es, H' d = some (DO P w d es) ∧ EnS K R H' es (dictOf (xs.take i))) ⟨Ex.new hd, [], upd_same, .nil⟩ (fun i H' _ q => (t.im q.1.im).sq) ?_ ?_
    · rintro i x H' H'' hi ⟨e, es, he, s⟩ y
      obtain ⟨rfl, hy⟩ := y
      obtain ⟨⟨kk, c⟩, hx, b, z1, z2, rfl, tb, r3, r4⟩ := Paired.get1 p hy
      obtain ⟨b3, rfl, tb3⟩ := rn_iff.mp (Mono.im e.im r3)
      have im : Im H'' (upd H'' d (DO P w d (ptE es kk b3 z2))) := Im.upd he rfl
      refine ⟨b, [.ref b3, z2], rfl, (tb.im e.im).sq, rfl, _, _, rfl, z2, [], rfl, rfl, hw _ _, ?_⟩
      refine yes_if ?_
      refine ⟨_, hj _ _, z2, hk _ _, es, b3, kk, rfl, tb3.sq, he, s.keyS, ?_, e.mut hd, _, upd_same, ?_⟩
      · rw [s.length]
        have h1 := dictOf_length (xs.take i) ([] : List (List Int × α))
        have h2 : (xs.take i).length ≤ 1000000 := by rw [List.length_take]; omega
        show (dictOf (xs.take i)).length < sizeLine
        refine Nat.lt_of_le_of_lt (Nat.le_trans h1 (by simpa using h2)) (by decide)
      · have e3 : dictOf (xs.take (i + 1)) = ptT (dictOf (xs.take i)) kk c := foldl_take hx
        rw [e3]
        exact EnS.im im (s.put tb3 (Mono.im e.im r4))
    · rintro H' ⟨e, es, he, s⟩
      rw [List.take_of_length_le (Nat.le_refl _)] at s
      exact k d es H' (e1.trans e) (e1.back hd) he s⟩
/-- l.append(e) -/
theorem q_append {n l : Nat} {us : List V} (hv : σ[n]? = some (some (.ref l))) (hl : H l = some (.lst us)) (hz : us.length ≤ 1000000) {x : α} (h : EvR R te σ H x) (k : ∀ v H1, Ex H H1 → R H1 v x → tz D σ (upd H1 l (.lst (us ++ [v])))) :
    tSeq (tDrop (tBM K "list" rAppend (tVar n) (tCons te tNil))) tz D σ H := ⟨.ref l, hv, .inl ⟨rfl, us, .inl (.inl hl)⟩, h H (Ex.refl H) _ fun v H1 e r => ⟨l, us, v, rfl, rfl, e _ _ hl, Nat.lt_of_le_of_lt hz (by decide), k v H1 e r⟩⟩
theorem s_append {n l : Nat} {us : List V} (hv : σ[n]? = some (some (.ref l))) (hl : H l = some (.lst us)) (hz : us.length ≤ 1000000) {x : α} (h : EvR R te σ H x) (k : ∀ v H1, Ex H H1 → R H1 v x → D.nx σ (upd H1 l (.lst (us ++ [v])))) :
    tDrop (tBM K "list" rAppend (tVar n) (tCons te tNil)) D σ H := ⟨.ref l, hv, .inl ⟨rfl, us, .inl (.inl hl)⟩, h H (Ex.refl H) _ fun v H1 e r => ⟨l, us, v, rfl, rfl, e _ _ hl, Nat.lt_of_le_of_lt hz (by decide), k v H1 e r⟩⟩
theorem s_extend {n l : Nat} {us : List V} (hv : σ[n]? = some (some (.ref l))) (hl : H l = some (.lst us)) {ys : List α} (h : EvR (RL R) te σ H ys) (hz : us.length + ys.length ≤ 1000000) (k : ∀ zs H1, Ex H H1 → Paired (R H1) zs ys → D.nx σ (upd H1 l (.lst (us ++ zs)))) :
    tDrop (tBM K "list" rExtend (tVar n) (tCons te tNil)) D σ H := ⟨.ref l, hv, .inl ⟨rfl, us, .inl (.inl hl)⟩, h H (Ex.refl H) _ fun v H1 e ⟨b, zs, hb, tb, p⟩ => ⟨l, b, us, zs, rfl, by rw [hb], e _ _ hl, tb, by rw [Paired.length p]; exact Nat.le_trans hz (by decide), k zs H1 e p⟩⟩
end
end Bx

set_option Elab.async false
set_option linter.all false
set_option maxRecDepth 100000
set_option maxHeartbeats 0
namespace Bx
open PySem PySem.Spec PyProof.Rows L2
def top (i : Nat) : Stmt := PySem.Challenge.pw_boxedroots_k23_whole_counts_over_boxes.main.body.getD i (.Pass ⟨0, 0, 0, 0⟩)
abbrev s_is_integer : Stmt := top 7
def d_is_integer : He.DefD := ⟨("is_integer", none), "is_integer", "is_integer", defArgs s_is_integer, defBody s_is_integer, defScope s_is_integer, [], []⟩
abbrev s_is_within : Stmt := top 8
def d_is_within : He.DefD := ⟨("is_within", none), "is_within", "is_within", defArgs s_is_within, defBody s_is_within, defScope s_is_within, [], []⟩
abbrev s_divisor_of : Stmt := top 12
def d_divisor_of : He.DefD := ⟨("divisor_of", none), "divisor_of", "divisor_of", defArgs s_divisor_of, defBody s_divisor_of, defScope s_divisor_of, [], []⟩
abbrev s_fraction : Stmt := top 13
def d_fraction : He.DefD := ⟨("fraction", none), "fraction", "fraction", defArgs s_fraction, defBody s_fraction, defScope s_fraction, [], []⟩
abbrev s_is_fraction : Stmt := top 14
def d_is_fraction : He.DefD := ⟨("is_fraction", none), "is_fraction", "is_fraction", defArgs s_is_fraction, defBody s_is_fraction, defScope s_is_fraction, [], []⟩
abbrev s_added : Stmt := top 15
def d_added : He.DefD := ⟨("added", none), "added", "added", defArgs s_added, defBody s_added, defScope s_added, [], []⟩
abbrev s_multiplied : Stmt := top 16
def d_multiplied : He.DefD := ⟨("multiplied", none), "multiplied", "multiplied", defArgs s_multiplied, defBody s_multiplied, defScope s_multiplied, [], []⟩
abbrev s_is_below : Stmt := top 17
def d_is_below : He.DefD := ⟨("is_below", none), "is_below", "is_below", defArgs s_is_below, defBody s_is_below, defScope s_is_below, [], []⟩
abbrev s_raised : Stmt := top 18
def d_raised : He.DefD := ⟨("raised", none), "raised", "raised", defArgs s_raised, defBody s_raised, defScope s_raised, [], []⟩
abbrev s_is_term : Stmt := top 23
def d_is_term : He.DefD := ⟨("is_term", none), "is_term", "is_term", defArgs s_is_term, defBody s_is_term, defScope s_is_term, [], []⟩
abbrev s_poly_from : Stmt := top 26
def d_poly_from : He.DefD := ⟨("poly_from", none), "poly_from", "poly_from", defArgs s_poly_from, defBody s_poly_from, defScope s_poly_from, [], []⟩
abbrev s_constant : Stmt := top 27
def d_constant : He.DefD := ⟨("constant", none), "constant", "constant", defArgs s_constant, defBody s_constant, defScope s_constant, [], []⟩
abbrev s_powers_of : Stmt := top 28
def d_powers_of : He.DefD := ⟨("powers_of", none), "powers_of", "powers_of", defArgs s_powers_of, defBody s_powers_of, defScope s_powers_of, [], []⟩
abbrev s_unknown_power : Stmt := top 29
def d_unknown_power : He.DefD := ⟨("unknown_power", none), "unknown_power", "unknown_power", defArgs s_unknown_power, defBody s_unknown_power, defScope s_unknown_power, [], []⟩
abbrev s_sum_with : Stmt := top 30
def d_sum_with : He.DefD := ⟨("sum_with", none), "sum_with", "sum_with", defArgs s_sum_with, defBody s_sum_with, defScope s_sum_with, [], []⟩
abbrev s_plus : Stmt := top 31
def d_plus : He.DefD := ⟨("plus", none), "plus", "plus", defArgs s_plus, defBody s_plus, defScope s_plus, [], []⟩
abbrev s_times : Stmt := top 32
def d_times : He.DefD := ⟨("times", none), "times", "times", defArgs s_times, defBody s_times, defScope s_times, [], []⟩
abbrev s_degree_by : Stmt := top 33
def d_degree_by : He.DefD := ⟨("degree_by", none), "degree_by", "degree_by", defArgs s_degree_by, defBody s_degree_by, defScope s_degree_by, [], []⟩
abbrev s_without : Stmt := top 34
def d_without : He.DefD := ⟨("without", none), "without", "without", defArgs s_without, defBody s_without, defScope s_without, [], []⟩
abbrev s_counts_by : Stmt := top 35
def d_counts_by : He.DefD := ⟨("counts_by", none), "counts_by", "counts_by", defArgs s_counts_by, defBody s_counts_by, defScope s_counts_by, [], []⟩
abbrev s_worth_at : Stmt := top 36
def d_worth_at : He.DefD := ⟨("worth_at", none), "worth_at", "worth_at", defArgs s_worth_at, defBody s_worth_at, defScope s_worth_at, [], []⟩
abbrev s_worth : Stmt := top 37
def d_worth : He.DefD := ⟨("worth", none), "worth", "worth", defArgs s_worth, defBody s_worth, defScope s_worth, [], []⟩
abbrev s_is_in : Stmt := top 38
def d_is_in : He.DefD := ⟨("is_in", none), "is_in", "is_in", defArgs s_is_in, defBody s_is_in, defScope s_is_in, [], []⟩
abbrev s_is_stretch : Stmt := top 41
def d_is_stretch : He.DefD := ⟨("is_stretch", none), "is_stretch", "is_stretch", defArgs s_is_stretch, defBody s_is_stretch, defScope s_is_stretch, [], []⟩
abbrev s_is_box : Stmt := top 42
def d_is_box : He.DefD := ⟨("is_box", none), "is_box", "is_box", defArgs s_is_box, defBody s_is_box, defScope s_is_box, [], []⟩
abbrev s_check_box : Stmt := top 43
def d_check_box : He.DefD := ⟨("check_box", none), "check_box", "check_box", defArgs s_check_box, defBody s_check_box, defScope s_check_box, [], []⟩
abbrev s_product_to : Stmt := top 44
def d_product_to : He.DefD := ⟨("product_to", none), "product_to", "product_to", defArgs s_product_to, defBody s_product_to, defScope s_product_to, [], []⟩
abbrev s_moved : Stmt := top 45
def d_moved : He.DefD := ⟨("moved", none), "moved", "moved", defArgs s_moved, defBody s_moved, defScope s_moved, [], []⟩
abbrev s_told_by_counts : Stmt := top 46
def d_told_by_counts : He.DefD := ⟨("told_by_counts", none), "told_by_counts", "told_by_counts", defArgs s_told_by_counts, defBody s_told_by_counts, defScope s_told_by_counts, [], []⟩
abbrev s_whole_counts : Stmt := top 47
def d_whole_counts : He.DefD := ⟨("whole_counts", none), "whole_counts", "whole_counts", defArgs s_whole_counts, defBody s_whole_counts, defScope s_whole_counts, [], []⟩
abbrev s_indexes : Stmt := top 48
def d_indexes : He.DefD := ⟨("indexes", none), "indexes", "indexes", defArgs s_indexes, defBody s_indexes, defScope s_indexes, [], []⟩
abbrev s_counts_over : Stmt := top 49
def d_counts_over : He.DefD := ⟨("counts_over", none), "counts_over", "counts_over", defArgs s_counts_over, defBody s_counts_over, defScope s_counts_over, [], []⟩
abbrev s__law_hand : Stmt := top 51
def d__law_hand : He.DefD := ⟨("_law_hand", none), "_law_hand", "_law_hand", defArgs s__law_hand, defBody s__law_hand, defScope s__law_hand, [], []⟩
abbrev s__law_draw : Stmt := top 52
def d__law_draw : He.DefD := ⟨("_law_draw", none), "_law_draw", "_law_draw", defArgs s__law_draw, defBody s__law_draw, defScope s__law_draw, [], []⟩
abbrev s__law_any : Stmt := top 53
def d__law_any : He.DefD := ⟨("_law_any", none), "_law_any", "_law_any", defArgs s__law_any, defBody s__law_any, defScope s__law_any, [], []⟩
abbrev s__law_low : Stmt := top 54
def d__law_low : He.DefD := ⟨("_law_low", none), "_law_low", "_law_low", defArgs s__law_low, defBody s__law_low, defScope s__law_low, [], []⟩
abbrev s__law_power : Stmt := top 55
def d__law_power : He.DefD := ⟨("_law_power", none), "_law_power", "_law_power", defArgs s__law_power, defBody s__law_power, defScope s__law_power, [], []⟩
abbrev s__law_binomial : Stmt := top 56
def d__law_binomial : He.DefD := ⟨("_law_binomial", none), "_law_binomial", "_law_binomial", defArgs s__law_binomial, defBody s__law_binomial, defScope s__law_binomial, [], []⟩
abbrev s__law_poly : Stmt := top 57
def d__law_poly : He.DefD := ⟨("_law_poly", none), "_law_poly", "_law_poly", defArgs s__law_poly, defBody s__law_poly, defScope s__law_poly, [], []⟩
abbrev s__law_parts : Stmt := top 58
def d__law_parts : He.DefD := ⟨("_law_parts", none), "_law_parts", "_law_parts", defArgs s__law_parts, defBody s__law_parts, defScope s__law_parts, [], []⟩
abbrev s__law_degrees : Stmt := top 59
def d__law_degrees : He.DefD := ⟨("_law_degrees", none), "_law_degrees", "_law_degrees", defArgs s__law_degrees, defBody s__law_degrees, defScope s__law_degrees, [], []⟩
abbrev s__law_stretch : Stmt := top 60
def d__law_stretch : He.DefD := ⟨("_law_stretch", none), "_law_stretch", "_law_stretch", defArgs s__law_stretch, defBody s__law_stretch, defScope s__law_stretch, [], []⟩
abbrev s__law_box : Stmt := top 61
def d__law_box : He.DefD := ⟨("_law_box", none), "_law_box", "_law_box", defArgs s__law_box, defBody s__law_box, defScope s__law_box, [], []⟩
abbrev s__law_polar : Stmt := top 62
def d__law_polar : He.DefD := ⟨("_law_polar", none), "_law_polar", "_law_polar", defArgs s__law_polar, defBody s__law_polar, defScope s__law_polar, [], []⟩
abbrev s__law_indexes : Stmt := top 63
def d__law_indexes : He.DefD := ⟨("_law_indexes", none), "_law_indexes", "_law_indexes", defArgs s__law_indexes, defBody s__law_indexes, defScope s__law_indexes, [], []⟩
abbrev s__law_counts : Stmt := top 64
def d__law_counts : He.DefD := ⟨("_law_counts", none), "_law_counts", "_law_counts", defArgs s__law_counts, defBody s__law_counts, defScope s__law_counts, [], []⟩
abbrev s__law_worth : Stmt := top 65
def d__law_worth : He.DefD := ⟨("_law_worth", none), "_law_worth", "_law_worth", defArgs s__law_worth, defBody s__law_worth, defScope s__law_worth, [], []⟩
abbrev s__law_mixed : Stmt := top 66
def d__law_mixed : He.DefD := ⟨("_law_mixed", none), "_law_mixed", "_law_mixed", defArgs s__law_mixed, defBody s__law_mixed, defScope s__law_mixed, [], []⟩
abbrev s_law : Stmt := top 67
def d_law : He.DefD := ⟨("law", none), "law", "law", defArgs s_law, defBody s_law, defScope s_law, [], []⟩
abbrev s_Poly_init : Stmt := inClass (top 24) 0
def d_Poly_init : He.DefD := ⟨("Poly", some "__init__"), "__init__", "Poly.__init__", defArgs s_Poly_init, defBody s_Poly_init, defScope s_Poly_init, [], []⟩
abbrev s_RawPoly_init : Stmt := inClass (top 25) 0
def d_RawPoly_init : He.DefD := ⟨("RawPoly", some "__init__"), "__init__", "RawPoly.__init__", defArgs s_RawPoly_init, defBody s_RawPoly_init, defScope s_RawPoly_init, [], []⟩
def fn : List He.DefD := [d_is_integer, d_is_within, d_divisor_of, d_fraction, d_is_fraction, d_added, d_multiplied, d_is_below, d_raised, d_is_term, d_poly_from, d_constant, d_powers_of, d_unknown_power, d_sum_with, d_plus, d_times, d_degree_by, d_without, d_counts_by, d_worth_at, d_worth, d_is_in, d_is_stretch, d_is_box, d_check_box, d_product_to, d_moved, d_told_by_counts, d_whole_counts, d_indexes, d_counts_over, d__law_hand, d__law_draw, d__law_any, d__law_low, d__law_power, d__law_binomial, d__law_poly, d__law_parts, d__law_degrees, d__law_stretch, d__law_box, d__law_polar, d__law_indexes, d__law_counts, d__law_worth, d__law_mixed, d_law, d_Poly_init, d_RawPoly_init]
def fa1 : List He.Fa := [.glo "is_integer", .glo "is_within", .glo "divisor_of", .glo "fraction", .glo "is_fraction", .glo "added", .glo "multiplied", .glo "is_below", .glo "raised", .glo "is_term", .glo "poly_from", .glo "constant", .glo "powers_of", .glo "unknown_power", .glo "sum_with", .glo "plus", .glo "times", .glo "degree_by", .glo "without", .glo "counts_by", .glo "worth_at", .glo "worth", .glo "is_in", .glo "is_stretch", .glo "is_box", .glo "check_box", .glo "product_to", .glo "moved", .glo "told_by_counts", .glo "whole_counts", .glo "indexes", .glo "counts_over", .glo "_law_hand", .glo "_law_draw", .glo "_law_any", .glo "_law_low", .glo "_law_power", .glo "_law_binomial", .glo "_law_poly"]
def fa2 : List He.Fa := [.glo "_law_parts", .glo "_law_degrees", .glo "_law_stretch", .glo "_law_box", .glo "_law_polar", .glo "_law_indexes", .glo "_law_counts", .glo "_law_worth", .glo "_law_mixed", .glo "law", .glo "Poly", .cls "Poly", .mkr "Poly", .noat "Poly" "terms", .glo "RawPoly", .cls "RawPoly", .mkr "RawPoly", .noat "RawPoly" "terms", .free "len", .free "range", .free "isinstance", .free "abs", .free "int", .free "tuple", .free "sorted", .free "max", .free "all", .free "enumerate", .free "zip", .free "bool", .free "dict", .free "list", .int "UNKNOWNS" 4, .glo "ZERO", .glo "ONE", .int "MOST_TERMS" 300, .int "MOST_POWER" 60, .glo "NO_POWERS", .int "MOST_STRETCHES" 3]
def fa : List He.Fa := fa1 ++ fa2
/-- the module's tuples of ints -/
def tupsB (K : PySem.W.Frag) : Bool := (He.tupB K "ZERO" [.int 0, .int 1]) && (He.tupB K "ONE" [.int 1, .int 1]) && (He.tupB K "NO_POWERS" [.int 0, .int 0, .int 0, .int 0])
abbrev R : PySem.W.OpenRow := PySem.W.OpenLaw.row PySem.Challenge.rw_boxedroots_k23_whole_counts_over_boxes
abbrev Al : Type := He.AlD × Bool
def obsB (g : Addr → Option Obj) : Al := (He.obsD fa fn (He.frG g (He.asD g 4)), tupsB (He.frG g (He.asD g 4)))
def valB : Al := (He.valD fn, true)
def SaysB (K : PySem.W.Frag) : Prop := He.SaysD fa fn K ∧ tupsB K = true
def hk : PySem.W.Hook where
  α := Al
  obs := fun s => obsB s.heap.get?
  val := fun _ => valB
  says := fun _ h => ∃ K : PySem.W.Frag, K.In h ∧ SaysB K
  of := fun _ s e => ⟨He.frG s.heap.get? (He.asD s.heap.get? 4), He.frG_in, congrArg (fun z : Al => z.1) e, congrArg (fun z : Al => z.2) e⟩
  keeps := fun _ _ _ ⟨K, hK, c⟩ k => ⟨K, PySem.W.Frag.In.keeps hK k, c⟩
def ob (s : PySem.W.SharedT) : Al := obsB (HandSHeadRun.getT s)
theorem ob_eq (s : PySem.W.SharedT) : ob s = hk.obs s.abs := by
  have e : HandSHeadRun.getT s = s.abs.heap.get? := funext (HandSHeadRun.getT_eq s)
  show obsB (HandSHeadRun.getT s) = obsB s.abs.heap.get?
  rw [e]
def nm0 : List Str := ["RootError", "BadPoly", "NoPoint", "NoBox", "UNKNOWNS", "is_integer", "is_within", "ZERO", "ONE", "divisor_of", "fraction", "is_fraction", "added", "multiplied", "is_below", "raised", "MOST_TERMS", "MOST_POWER", "NO_POWERS", "is_term", "Poly", "RawPoly", "poly_from", "constant", "powers_of", "unknown_power", "sum_with", "plus", "times", "degree_by"]
def nm1 : List Str := ["without", "counts_by", "worth_at", "worth", "is_in", "MOST_STRETCHES", "is_stretch", "is_box", "check_box", "product_to", "moved", "told_by_counts", "whole_counts", "indexes", "counts_over", "_law_hand", "_law_draw", "_law_any", "_law_low", "_law_power", "_law_binomial", "_law_poly", "_law_parts", "_law_degrees", "_law_stretch", "_law_box", "_law_polar", "_law_indexes", "_law_counts", "_law_worth"]
def nm2 : List Str := ["_law_mixed"]
def nms : List Str := nm0 ++ nm1 ++ nm2
theorem run (w : World) : HandSHeadRun.RunEq R (PySem.W.view R.prog [67]) hk ob 8000 nms w := by
  intro os
  kernel_rfl
end Bx

set_option Elab.async false
set_option linter.all false
set_option maxRecDepth 100000
set_option maxHeartbeats 2000000
namespace Bx
open PySem PySem.Spec PyProof.Rows L2
/-- what the top holds, for a walk -/
structure Tp (K : PySem.W.Frag) (mg : Str → Option Value) : Prop where
  ex : ∃ h : Heap, K.In h ∧ h.Ns mainGlobals mg ∧ SaysB K
section
variable {K : PySem.W.Frag} {mg : Str → Option Value}
theorem Tp.fact (T : Tp K mg) (i : Nat) {f : He.Fa} (h : fa[i]? = some f) : f.ok K = true := by
  obtain ⟨_, _, _, c⟩ := T.ex
  exact c.1.fact i h
theorem Tp.free (T : Tp K mg) (i : Nat) {x : Str} (h : fa[i]? = some (.free x)) : mg x = none := by
  obtain ⟨_, X, G, c⟩ := T.ex
  exact He.free_ok X G (c.1.fact i h)
theorem Tp.glo (T : Tp K mg) (i : Nat) {x : Str} (h : fa[i]? = some (.glo x)) : mg x = some (.ref (He.ga K x)) := by
  obtain ⟨_, X, G, c⟩ := T.ex
  exact He.glo_ok X G (c.1.fact i h)
theorem Tp.int (T : Tp K mg) (i : Nat) {x : Str} {n : Int} (h : fa[i]? = some (.int x n)) : ∃ u, mg x = some u ∧ RelV (.int n) u := by
  obtain ⟨_, X, G, c⟩ := T.ex
  obtain ⟨t, e⟩ := He.int_ok X G (c.1.fact i h)
  exact ⟨_, e, t, rfl⟩
theorem Tp.tups (T : Tp K mg) : tupsB K = true := by
  obtain ⟨_, _, _, c⟩ := T.ex
  exact c.2
theorem Tp.tu_ZERO (T : Tp K mg) : ∀ H, SqT K H (He.ga K "ZERO") [.int 0, .int 1] := fun H => by
  have h := T.tups
  unfold tupsB at h
  simp only [Bool.and_eq_true] at h
  exact He.tupB_ok h.1.1 H
theorem Tp.tu_ONE (T : Tp K mg) : ∀ H, SqT K H (He.ga K "ONE") [.int 1, .int 1] := fun H => by
  have h := T.tups
  unfold tupsB at h
  simp only [Bool.and_eq_true] at h
  exact He.tupB_ok h.1.2 H
theorem Tp.tu_NO_POWERS (T : Tp K mg) : ∀ H, SqT K H (He.ga K "NO_POWERS") [.int 0, .int 0, .int 0, .int 0] := fun H => by
  have h := T.tups
  unfold tupsB at h
  simp only [Bool.and_eq_true] at h
  exact He.tupB_ok h.2 H
theorem Tp.glo_is_integer (T : Tp K mg) : mg "is_integer" = some (.ref (He.ga K "is_integer")) := T.glo 0 rfl
theorem Tp.glo_is_within (T : Tp K mg) : mg "is_within" = some (.ref (He.ga K "is_within")) := T.glo 1 rfl
theorem Tp.glo_divisor_of (T : Tp K mg) : mg "divisor_of" = some (.ref (He.ga K "divisor_of")) := T.glo 2 rfl
theorem Tp.glo_fraction (T : Tp K mg) : mg "fraction" = some (.ref (He.ga K "fraction")) := T.glo 3 rfl
theorem Tp.glo_is_fraction (T : Tp K mg) : mg "is_fraction" = some (.ref (He.ga K "is_fraction")) := T.glo 4 rfl
theorem Tp.glo_added (T : Tp K mg) : mg "added" = some (.ref (He.ga K "added")) := T.glo 5 rfl
theorem Tp.glo_multiplied (T : Tp K mg) : mg "multiplied" = some (.ref (He.ga K "multiplied")) := T.glo 6 rfl
theorem Tp.glo_is_below (T : Tp K mg) : mg "is_below" = some (.ref (He.ga K "is_below")) := T.glo 7 rfl
theorem Tp.glo_raised (T : Tp K mg) : mg "raised" = some (.ref (He.ga K "raised")) := T.glo 8 rfl
theorem Tp.glo_is_term (T : Tp K mg) : mg "is_term" = some (.ref (He.ga K "is_term")) := T.glo 9 rfl
theorem Tp.glo_poly_from (T : Tp K mg) : mg "poly_from" = some (.ref (He.ga K "poly_from")) := T.glo 10 rfl
theorem Tp.glo_constant (T : Tp K mg) : mg "constant" = some (.ref (He.ga K "constant")) := T.glo 11 rfl
theorem Tp.glo_powers_of (T : Tp K mg) : mg "powers_of" = some (.ref (He.ga K "powers_of")) := T.glo 12 rfl
theorem Tp.glo_unknown_power (T : Tp K mg) : mg "unknown_power" = some (.ref (He.ga K "unknown_power")) := T.glo 13 rfl
theorem Tp.glo_sum_with (T : Tp K mg) : mg "sum_with" = some (.ref (He.ga K "sum_with")) := T.glo 14 rfl
theorem Tp.glo_plus (T : Tp K mg) : mg "plus" = some (.ref (He.ga K "plus")) := T.glo 15 rfl
theorem Tp.glo_times (T : Tp K mg) : mg "times" = some (.ref (He.ga K "times")) := T.glo 16 rfl
theorem Tp.glo_degree_by (T : Tp K mg) : mg "degree_by" = some (.ref (He.ga K "degree_by")) := T.glo 17 rfl
theorem Tp.glo_without (T : Tp K mg) : mg "without" = some (.ref (He.ga K "without")) := T.glo 18 rfl
theorem Tp.glo_counts_by (T : Tp K mg) : mg "counts_by" = some (.ref (He.ga K "counts_by")) := T.glo 19 rfl
theorem Tp.glo_worth_at (T : Tp K mg) : mg "worth_at" = some (.ref (He.ga K "worth_at")) := T.glo 20 rfl
theorem Tp.glo_worth (T : Tp K mg) : mg "worth" = some (.ref (He.ga K "worth")) := T.glo 21 rfl
theorem Tp.glo_is_in (T : Tp K mg) : mg "is_in" = some (.ref (He.ga K "is_in")) := T.glo 22 rfl
theorem Tp.glo_is_stretch (T : Tp K mg) : mg "is_stretch" = some (.ref (He.ga K "is_stretch")) := T.glo 23 rfl
theorem Tp.glo_is_box (T : Tp K mg) : mg "is_box" = some (.ref (He.ga K "is_box")) := T.glo 24 rfl
theorem Tp.glo_check_box (T : Tp K mg) : mg "check_box" = some (.ref (He.ga K "check_box")) := T.glo 25 rfl
theorem Tp.glo_product_to (T : Tp K mg) : mg "product_to" = some (.ref (He.ga K "product_to")) := T.glo 26 rfl
theorem Tp.glo_moved (T : Tp K mg) : mg "moved" = some (.ref (He.ga K "moved")) := T.glo 27 rfl
theorem Tp.glo_told_by_counts (T : Tp K mg) : mg "told_by_counts" = some (.ref (He.ga K "told_by_counts")) := T.glo 28 rfl
theorem Tp.glo_whole_counts (T : Tp K mg) : mg "whole_counts" = some (.ref (He.ga K "whole_counts")) := T.glo 29 rfl
theorem Tp.glo_indexes (T : Tp K mg) : mg "indexes" = some (.ref (He.ga K "indexes")) := T.glo 30 rfl
theorem Tp.glo_counts_over (T : Tp K mg) : mg "counts_over" = some (.ref (He.ga K "counts_over")) := T.glo 31 rfl
theorem Tp.glo__law_hand (T : Tp K mg) : mg "_law_hand" = some (.ref (He.ga K "_law_hand")) := T.glo 32 rfl
theorem Tp.glo__law_draw (T : Tp K mg) : mg "_law_draw" = some (.ref (He.ga K "_law_draw")) := T.glo 33 rfl
theorem Tp.glo__law_any (T : Tp K mg) : mg "_law_any" = some (.ref (He.ga K "_law_any")) := T.glo 34 rfl
theorem Tp.glo__law_low (T : Tp K mg) : mg "_law_low" = some (.ref (He.ga K "_law_low")) := T.glo 35 rfl
theorem Tp.glo__law_power (T : Tp K mg) : mg "_law_power" = some (.ref (He.ga K "_law_power")) := T.glo 36 rfl
theorem Tp.glo__law_binomial (T : Tp K mg) : mg "_law_binomial" = some (.ref (He.ga K "_law_binomial")) := T.glo 37 rfl
theorem Tp.glo__law_poly (T : Tp K mg) : mg "_law_poly" = some (.ref (He.ga K "_law_poly")) := T.glo 38 rfl
theorem Tp.glo__law_parts (T : Tp K mg) : mg "_law_parts" = some (.ref (He.ga K "_law_parts")) := T.glo 39 rfl
theorem Tp.glo__law_degrees (T : Tp K mg) : mg "_law_degrees" = some (.ref (He.ga K "_law_degrees")) := T.glo 40 rfl
theorem Tp.glo__law_stretch (T : Tp K mg) : mg "_law_stretch" = some (.ref (He.ga K "_law_stretch")) := T.glo 41 rfl
theorem Tp.glo__law_box (T : Tp K mg) : mg "_law_box" = some (.ref (He.ga K "_law_box")) := T.glo 42 rfl
theorem Tp.glo__law_polar (T : Tp K mg) : mg "_law_polar" = some (.ref (He.ga K "_law_polar")) := T.glo 43 rfl
theorem Tp.glo__law_indexes (T : Tp K mg) : mg "_law_indexes" = some (.ref (He.ga K "_law_indexes")) := T.glo 44 rfl
theorem Tp.glo__law_counts (T : Tp K mg) : mg "_law_counts" = some (.ref (He.ga K "_law_counts")) := T.glo 45 rfl
theorem Tp.glo__law_worth (T : Tp K mg) : mg "_law_worth" = some (.ref (He.ga K "_law_worth")) := T.glo 46 rfl
theorem Tp.glo__law_mixed (T : Tp K mg) : mg "_law_mixed" = some (.ref (He.ga K "_law_mixed")) := T.glo 47 rfl
theorem Tp.glo_law (T : Tp K mg) : mg "law" = some (.ref (He.ga K "law")) := T.glo 48 rfl
theorem Tp.glo_Poly (T : Tp K mg) : mg "Poly" = some (.ref (He.ga K "Poly")) := T.glo 49 rfl
theorem Tp.cls_Poly (T : Tp K mg) : Cls K (He.ga K "Poly") := He.cls_ok (T.fact 50 (f := .cls "Poly") rfl)
theorem Tp.mkr_Poly (T : Tp K mg) : Mk K (He.ga K "Poly") (He.ma K (He.ga K "Poly") "__init__") := He.mkr_ok (T.fact 51 (f := .mkr "Poly") rfl)
theorem Tp.noat_Poly (T : Tp K mg) : NoAttr K (He.ga K "Poly") "terms" := He.noat_ok (T.fact 52 (f := .noat "Poly" "terms") rfl)
theorem Tp.glo_RawPoly (T : Tp K mg) : mg "RawPoly" = some (.ref (He.ga K "RawPoly")) := T.glo 53 rfl
theorem Tp.cls_RawPoly (T : Tp K mg) : Cls K (He.ga K "RawPoly") := He.cls_ok (T.fact 54 (f := .cls "RawPoly") rfl)
theorem Tp.mkr_RawPoly (T : Tp K mg) : Mk K (He.ga K "RawPoly") (He.ma K (He.ga K "RawPoly") "__init__") := He.mkr_ok (T.fact 55 (f := .mkr "RawPoly") rfl)
theorem Tp.noat_RawPoly (T : Tp K mg) : NoAttr K (He.ga K "RawPoly") "terms" := He.noat_ok (T.fact 56 (f := .noat "RawPoly" "terms") rfl)
theorem Tp.n_len (T : Tp K mg) : mg "len" = none := T.free 57 rfl
theorem Tp.n_range (T : Tp K mg) : mg "range" = none := T.free 58 rfl
theorem Tp.n_isinstance (T : Tp K mg) : mg "isinstance" = none := T.free 59 rfl
theorem Tp.n_abs (T : Tp K mg) : mg "abs" = none := T.free 60 rfl
theorem Tp.n_int (T : Tp K mg) : mg "int" = none := T.free 61 rfl
theorem Tp.n_tuple (T : Tp K mg) : mg "tuple" = none := T.free 62 rfl
theorem Tp.n_sorted (T : Tp K mg) : mg "sorted" = none := T.free 63 rfl
theorem Tp.n_max (T : Tp K mg) : mg "max" = none := T.free 64 rfl
theorem Tp.n_all (T : Tp K mg) : mg "all" = none := T.free 65 rfl
theorem Tp.n_enumerate (T : Tp K mg) : mg "enumerate" = none := T.free 66 rfl
theorem Tp.n_zip (T : Tp K mg) : mg "zip" = none := T.free 67 rfl
theorem Tp.n_bool (T : Tp K mg) : mg "bool" = none := T.free 68 rfl
theorem Tp.n_dict (T : Tp K mg) : mg "dict" = none := T.free 69 rfl
theorem Tp.n_list (T : Tp K mg) : mg "list" = none := T.free 70 rfl
theorem Tp.int_UNKNOWNS (T : Tp K mg) : ∃ u, mg "UNKNOWNS" = some u ∧ RelV (.int 4) u := T.int 71 rfl
theorem Tp.glo_ZERO (T : Tp K mg) : mg "ZERO" = some (.ref (He.ga K "ZERO")) := T.glo 72 rfl
theorem Tp.glo_ONE (T : Tp K mg) : mg "ONE" = some (.ref (He.ga K "ONE")) := T.glo 73 rfl
theorem Tp.int_MOST_TERMS (T : Tp K mg) : ∃ u, mg "MOST_TERMS" = some u ∧ RelV (.int 300) u := T.int 74 rfl
theorem Tp.int_MOST_POWER (T : Tp K mg) : ∃ u, mg "MOST_POWER" = some u ∧ RelV (.int 60) u := T.int 75 rfl
theorem Tp.glo_NO_POWERS (T : Tp K mg) : mg "NO_POWERS" = some (.ref (He.ga K "NO_POWERS")) := T.glo 76 rfl
theorem Tp.int_MOST_STRETCHES (T : Tp K mg) : ∃ u, mg "MOST_STRETCHES" = some u ∧ RelV (.int 3) u := T.int 77 rfl
end
theorem pe_gc {X : Cx} {x : Str} {pos : Pos} {v : V} (hg : Gl X x) (h : ∃ u, X.mg x = some u ∧ RelV v u) (hd : (x == ("__debug__" : Str)) = false := by decide) : PE X (.Name x pos) (tC v) := by
  obtain ⟨u, hm, r⟩ := h
  exact pe_glob hg hm r hd
theorem _root_.L2.Room.u0 {k : Nat} {A : Around} (r : Room k A) : A.units < cLine := by have := r.un; omega
theorem _root_.L2.Room.u1 {k : Nat} {A : Around} (r : Room k A) : A.units + 1 < cLine := by have := r.un; omega
theorem _root_.L2.Room.u66 {k : Nat} {A : Around} (r : Room k A) : A.units + 66 < cLine := by have := r.un; omega
/-- an own def, to be called by its name -/
structure Cal (P : Program) (w : World) (K : PySem.W.Frag) (mg : Str → Option Value) (base : Heap) (k : Nat) (x : Str) (sp : Sp) : Prop where
  ex : ∃ (f : Addr) (fd : FuncData) (ps : List Str), FnOk P w K mg base CX0 k f fd ps sp ∧ mg x = some (.ref f) ∧ PySem.W.keepIn K (.ref f) = true ∧ Binds K fd ps []
/-- an own class's __init__ -/
structure CalI (P : Program) (w : World) (K : PySem.W.Frag) (mg : Str → Option Value) (base : Heap) (k : Nat) (x : Str) (sp : Sp) : Prop where
  ex : ∃ (f : Addr) (fd : FuncData) (ps : List Str), FnOk P w K mg base CX0 k f fd ps sp ∧ mg x = some (.ref (He.ga K x)) ∧ Mk K (He.ga K x) f ∧ Binds K fd ps []
section
variable {X : Cx} {k : Nat} {x : Str} {sp : Sp} {p pos : Pos} {e : Expr} {es : List Expr} {t : TA}
theorem pe_k (c : Cal X.prog X.w X.K X.mg X.base k x sp) (hr : Room k X.A) (hg : Gl X x) (ha : PA X (e :: es) t)
    (hdb : (x == ("__debug__" : Str)) = false := by decide) (he : starEach (e :: es) X.env = (false, eval e X.env) :: starEach es X.env := by rfl) (hpl : (backTo pos (starEach es X.env)).any (·.1) = false := by rfl) :
    PE X (.Call (.Name x p) (e :: es) [] pos) (tCall sp [] E0 t) := by
  obtain ⟨f, fd, ps, F, hm, kp, b⟩ := c.ex
  exact pe_call F hr hg hm kp b .nil pass0 ha hdb he hpl
theorem pe_makeK (c : CalI X.prog X.w X.K X.mg X.base k x sp) (hr : Room (k + 1) X.A) (hg : Gl X x) (ha : PA X (e :: es) t)
    (hdb : (x == ("__debug__" : Str)) = false := by decide) (he : starEach (e :: es) X.env = (false, eval e X.env) :: starEach es X.env := by rfl) (hpl : (backTo pos (starEach es X.env)).any (·.1) = false := by rfl) :
    PE X (.Call (.Name x p) (e :: es) [] pos) (tMake (He.ga X.K x) sp [] E0 t) := by
  obtain ⟨f, fd, ps, F, hm, M, b⟩ := c.ex
  exact pe_make M F hr hg hm b .nil pass0 ha hdb he hpl
end
section
variable {P : Program} {w : World} {K : PySem.W.Frag} {mg : Str → Option Value} {base : Heap}
theorem cal_of {x : Str} {st : Stmt} {N ps : List Str} {k i j : Nat} {sp : Sp} (T : Tp K mg) (hd : fn[i]? = some ⟨(x, none), x, x, defArgs st, defBody st, defScope st, [], []⟩) (hg : fa[j]? = some (.glo x)) (S : FnScope N ps (defScope st))
    (b : ∀ (kV doc pm : Value) (an : Option Addr) (cdv ct : Value) (us : List Value), us.length = ps.length → bindArgs (PySem.W.fnOf x x (defArgs st) (defBody st) (defScope st) .none kV doc pm an cdv ct) ⟨us, []⟩ = pure (ps.zip us))
    (len : ∀ vs H Q E, sp vs H Q E → vs.length = ps.length) {t : TS}
    (hw : ∀ (f : Addr) (cdv : Value) (A : Around) (outer : List Env) (s : Shared) (H : Hp) (E : XK), Room k (A.deeper (envOfC x (defScope st) s.heap.objs.size f cdv)) → PSs (cxOf CX0 P w K mg base N x (defScope st) f cdv A outer s H E).nox (defBody st) t)
    (hp : ∀ vs H Q E, sp vs H Q E → t { nx := fun _ H' => Q .non H', rt := Q } (start N vs) H) : Cal P w K mg base (k + 1) x sp := by
  obtain ⟨h, KX, G, c⟩ := T.ex
  obtain ⟨fd, F⟩ := c.1.def_ i hd
  have m := He.glo_ok KX G (c.1.fact j hg)
  exact ⟨_, fd, ps, F.ok S len fun cdv A outer s H vs Q E hr hsp => ⟨t, (hw _ cdv A outer s H E hr).nox, hp vs H Q E hsp⟩, m, F.kp, FunD.bindsN F b⟩
theorem calI_of {x qual : Str} {st : Stmt} {N ps : List Str} {k i : Nat} {sp : Sp} (T : Tp K mg) (hd : fn[i]? = some ⟨(x, some "__init__"), "__init__", qual, defArgs st, defBody st, defScope st, [], []⟩) (hm : mg x = some (.ref (He.ga K x))) (M : Mk K (He.ga K x) (He.ma K (He.ga K x) "__init__")) (S : FnScope N ps (defScope st))
    (b : ∀ (kV doc pm : Value) (an : Option Addr) (cdv ct : Value) (us : List Value), us.length = ps.length → bindArgs (PySem.W.fnOf "__init__" qual (defArgs st) (defBody st) (defScope st) .none kV doc pm an cdv ct) ⟨us, []⟩ = pure (ps.zip us))
    (len : ∀ vs H Q E, sp vs H Q E → vs.length = ps.length) {t : TS}
    (hw : ∀ (f : Addr) (cdv : Value) (A : Around) (outer : List Env) (s : Shared) (H : Hp) (E : XK), Room k (A.deeper (envOfC qual (defScope st) s.heap.objs.size f cdv)) → PSs (cxOf CX0 P w K mg base N qual (defScope st) f cdv A outer s H E).nox (defBody st) t)
    (hp : ∀ vs H Q E, sp vs H Q E → t { nx := fun _ H' => Q .non H', rt := Q } (start N vs) H) : CalI P w K mg base (k + 1) x sp := by
  obtain ⟨h, KX, G, c⟩ := T.ex
  obtain ⟨fd, F⟩ := c.1.def_ i hd
  exact ⟨_, fd, ps, F.ok S len fun cdv A outer s H vs Q E hr hsp => ⟨t, (hw _ cdv A outer s H E hr).nox, hp vs H Q E hsp⟩, hm, M, FunD.bindsN F b⟩
end
end Bx

set_option Elab.async false
set_option linter.all false
set_option maxRecDepth 100000
set_option maxHeartbeats 2000000
namespace Bx
open PySem PySem.Spec PyProof.Rows L2
/-! is_integer -/
theorem sc_is_integer : FnScope ["thing"] ["thing"] (defScope s_is_integer) := ⟨rfl, rfl, rfl, by decide +kernel, rfl, by decide +kernel, by decide +kernel⟩
def t_is_integer (P : Program) (w : World) (K : PySem.W.Frag) : TS := (tRet (tAndV (tCB (rIsi K) (tCons (tVar 0) (tCons (tC (.ty "int")) tNil))) (tNotV (tCB (rIsi K) (tCons (tVar 0) (tCons (tC (.ty "bool")) tNil))))))
theorem w_is_integer {P : Program} {w : World} {K : PySem.W.Frag} {mg : Str → Option Value} {base : Heap} (T : Tp K mg) {f : Addr} {cdv : Value} {A : Around} {outer : List Env} {s : Shared} {H : Hp} {E : XK} (hr : Room 0 (A.deeper (envOfC "is_integer" (defScope s_is_integer) s.heap.objs.size f cdv))) :
  PSs (cxOf CX0 P w K mg base ["thing"] "is_integer" (defScope s_is_integer) f cdv A outer s H E).nox (defBody s_is_integer) (t_is_integer P w K) := by
  have nd := sc_is_integer.nd
  have hu0 := hr.u0
  have hu1 := hr.u1
  have hu64 := hr.units
  have hu66 := hr.u66
  exact (pss_one (ps_ret (pe_and (pe_callB call_isi rfl T.n_isinstance PyProof.Rows.boot_isinstance (pa_cons (pv 0) (pa_cons (pe_bltn rfl T.n_int PyProof.Rows.boot_int rfl) pa_nil))) (pe_one (pe_not (pe_callB call_isi rfl T.n_isinstance PyProof.Rows.boot_isinstance (pa_cons (pv 0) (pa_cons (pe_bltn rfl T.n_bool PyProof.Rows.boot_bool rfl) pa_nil))))))))
/-! is_within -/
theorem sc_is_within : FnScope ["thing", "least", "most"] ["thing", "least", "most"] (defScope s_is_within) := ⟨rfl, rfl, rfl, by decide +kernel, rfl, by decide +kernel, by decide +kernel⟩
def t_is_within (P : Program) (w : World) (K : PySem.W.Frag) (p_is_integer : Sp) : TS := (tRet (tAndV (tCall p_is_integer [] E0 (tCons (tVar 0) tNil)) (tChain (rI0 fun i j => .bl (decide (i ≤ j))) (rI0 fun i j => .bl (decide (i ≤ j))) (tVar 1) (tVar 0) (tVar 2))))
theorem w_is_within {P : Program} {w : World} {K : PySem.W.Frag} {mg : Str → Option Value} {base : Heap} {p_is_integer : Sp} (T : Tp K mg) (C_is_integer : Cal P w K mg base 1 "is_integer" p_is_integer) {f : Addr} {cdv : Value} {A : Around} {outer : List Env} {s : Shared} {H : Hp} {E : XK} (hr : Room 1 (A.deeper (envOfC "is_within" (defScope s_is_within) s.heap.objs.size f cdv))) :
  PSs (cxOf CX0 P w K mg base ["thing", "least", "most"] "is_within" (defScope s_is_within) f cdv A outer s H E).nox (defBody s_is_within) (t_is_within P w K p_is_integer) := by
  have nd := sc_is_within.nd
  have hu0 := hr.u0
  have hu1 := hr.u1
  have hu64 := hr.units
  have hu66 := hr.u66
  exact (pss_one (ps_ret (pe_and (pe_k C_is_integer (hr.mono (by decide)) rfl (pa_cons (pv 0) pa_nil)) (pe_one (pe_chain op_le op_le (pv 1) (pv 0) (pv 2))))))
/-! divisor_of -/
theorem sc_divisor_of : FnScope ["one", "other"] ["one", "other"] (defScope s_divisor_of) := ⟨rfl, rfl, rfl, by decide +kernel, rfl, by decide +kernel, by decide +kernel⟩
def t_divisor_of (P : Program) (w : World) (K : PySem.W.Frag) : TS := (tSeq (tPar 0 1 (tCons (tCB (fun xs H Q => ∃ i, xs = [.int i] ∧ Q (.int (if i < 0 then -i else i)) H) (tCons (tVar 0) tNil)) (tCons (tCB (fun xs H Q => ∃ i, xs = [.int i] ∧ Q (.int (if i < 0 then -i else i)) H) (tCons (tVar 1) tNil)) tNil)))
    (tSeq (tWhile (tTest (tOp (rI0 fun i j => .bl (decide (j < i))) (tVar 1) (tC (.int 0)))) (tPar 0 1 (tCons (tVar 1) (tCons (tOp (rI (fun _ j => 0 < j) fun i j => .int (i % j)) (tVar 0) (tVar 1)) tNil))))
    (tRet (tVar 0))))
theorem w_divisor_of {P : Program} {w : World} {K : PySem.W.Frag} {mg : Str → Option Value} {base : Heap} (T : Tp K mg) {f : Addr} {cdv : Value} {A : Around} {outer : List Env} {s : Shared} {H : Hp} {E : XK} (hr : Room 0 (A.deeper (envOfC "divisor_of" (defScope s_divisor_of) s.heap.objs.size f cdv))) :
  PSs (cxOf CX0 P w K mg base ["one", "other"] "divisor_of" (defScope s_divisor_of) f cdv A outer s H E).nox (defBody s_divisor_of) (t_divisor_of P w K) := by
  have nd := sc_divisor_of.nd
  have hu0 := hr.u0
  have hu1 := hr.u1
  have hu64 := hr.units
  have hu66 := hr.u66
  exact (pss_cons (ps_par (i := 0) (j := 1) rfl nd rfl rfl (by decide) rfl rfl (pa_cons (pe_callB call_abs rfl T.n_abs PyProof.Rows.boot_abs (pa_cons (pv 0) pa_nil)) (pa_cons (pe_callB call_abs rfl T.n_abs PyProof.Rows.boot_abs (pa_cons (pv 1) pa_nil)) pa_nil)) rfl)
    (pss_cons (ps_while PassesOwn.never (pt_cmpR op_gt (pv 1) pe_int (nomark _)) (pss_one (ps_par (i := 0) (j := 1) rfl nd rfl rfl (by decide) rfl rfl (pa_cons (pv 1) (pa_cons (pe_op op_mod (pv 0) (pv 1)) pa_nil)) rfl)))
    (pss_one (ps_ret (pv 0)))))
/-! fraction -/
theorem sc_fraction : FnScope ["top", "bottom", "by"] ["top", "bottom"] (defScope s_fraction) := ⟨rfl, rfl, rfl, by decide +kernel, rfl, by decide +kernel, by decide +kernel⟩
def t_fraction (P : Program) (w : World) (K : PySem.W.Frag) (p_divisor_of : Sp) : TS := (tSeq (tIfS (tTest (tOp (rI0 fun i j => .bl (decide (i < j))) (tVar 1) (tC (.int 0)))) (tPar 0 1 (tCons (tUn (rU fun i => .int (-i)) (tVar 0)) (tCons (tUn (rU fun i => .int (-i)) (tVar 1)) tNil))) tNext)
    (tSeq (tAsg (tCall p_divisor_of [] E0 (tCons (tVar 0) (tCons (tVar 1) tNil))) (gName 2))
    (tRet (tTup (tCons (tOp (rI CDivW fun i j => .int (i / j)) (tVar 0) (tVar 2)) (tCons (tOp (rI CDivW fun i j => .int (i / j)) (tVar 1) (tVar 2)) tNil))))))
theorem w_fraction {P : Program} {w : World} {K : PySem.W.Frag} {mg : Str → Option Value} {base : Heap} {p_divisor_of : Sp} (T : Tp K mg) (C_divisor_of : Cal P w K mg base 1 "divisor_of" p_divisor_of) {f : Addr} {cdv : Value} {A : Around} {outer : List Env} {s : Shared} {H : Hp} {E : XK} (hr : Room 1 (A.deeper (envOfC "fraction" (defScope s_fraction) s.heap.objs.size f cdv))) :
  PSs (cxOf CX0 P w K mg base ["top", "bottom", "by"] "fraction" (defScope s_fraction) f cdv A outer s H E).nox (defBody s_fraction) (t_fraction P w K p_divisor_of) := by
  have nd := sc_fraction.nd
  have hu0 := hr.u0
  have hu1 := hr.u1
  have hu64 := hr.units
  have hu66 := hr.u66
  exact (pss_cons (ps_if (pt_cmpR op_lt (pv 1) pe_int (nomark _)) (pss_one (ps_par (i := 0) (j := 1) rfl nd rfl rfl (by decide) rfl rfl (pa_cons (pe_un un_neg (pv 0)) (pa_cons (pe_un un_neg (pv 1)) pa_nil)) rfl)) pss_nil)
    (pss_cons (ps_set (i := 2) nd rfl (by first | exact .inl rfl | exact .inr rfl) (pe_k C_divisor_of (hr.mono (by decide)) rfl (pa_cons (pv 0) (pa_cons (pv 1) pa_nil))))
    (pss_one (ps_ret (pe_tup (pa_cons (pe_op op_fdivW (pv 0) (pv 2)) (pa_cons (pe_op op_fdivW (pv 1) (pv 2)) pa_nil)))))))
/-! is_fraction -/
theorem sc_is_fraction : FnScope ["thing"] ["thing"] (defScope s_is_fraction) := ⟨rfl, rfl, rfl, by decide +kernel, rfl, by decide +kernel, by decide +kernel⟩
def t_is_fraction (P : Program) (w : World) (K : PySem.W.Frag) (p_divisor_of : Sp) (p_is_integer : Sp) : TS := (tSeq (tIfS (tOr (tNot (tB (tCB (rIsi K) (tCons (tVar 0) (tCons (tC (.ty "tuple")) tNil))))) (tOr (tTest (tOp rNe (tCB (fun xs H Q => ∃ p ys, xs = [.ref p] ∧ (SqL K H p ys ∨ SqT K H p ys) ∧ Q (.int ys.length) H) (tCons (tVar 0) tNil)) (tC (.int 2)))) (tOr (tNot (tB (tCall p_is_integer [] E0 (tCons (tOp (rIxT K) (tVar 0) (tC (.int 0))) tNil)))) (tNot (tB (tCall p_is_integer [] E0 (tCons (tOp (rIxT K) (tVar 0) (tC (.int 1))) tNil))))))) (tRet (tC (.bl false))) tNext)
    (tRet (tAndV (tOp (rI0 fun i j => .bl (decide (j < i))) (tOp (rIxT K) (tVar 0) (tC (.int 1))) (tC (.int 0))) (tOp rEq (tCall p_divisor_of [] E0 (tCons (tOp (rIxT K) (tVar 0) (tC (.int 0))) (tCons (tOp (rIxT K) (tVar 0) (tC (.int 1))) tNil))) (tC (.int 1))))))
theorem w_is_fraction {P : Program} {w : World} {K : PySem.W.Frag} {mg : Str → Option Value} {base : Heap} {p_divisor_of : Sp} {p_is_integer : Sp} (T : Tp K mg) (C_divisor_of : Cal P w K mg base 1 "divisor_of" p_divisor_of) (C_is_integer : Cal P w K mg base 1 "is_integer" p_is_integer) {f : Addr} {cdv : Value} {A : Around} {outer : List Env} {s : Shared} {H : Hp} {E : XK} (hr : Room 1 (A.deeper (envOfC "is_fraction" (defScope s_is_fraction) s.heap.objs.size f cdv))) :
  PSs (cxOf CX0 P w K mg base ["thing"] "is_fraction" (defScope s_is_fraction) f cdv A outer s H E).nox (defBody s_is_fraction) (t_is_fraction P w K p_divisor_of p_is_integer) := by
  have nd := sc_is_fraction.nd
  have hu0 := hr.u0
  have hu1 := hr.u1
  have hu64 := hr.units
  have hu66 := hr.u66
  exact (pss_cons (ps_if (PW.pt (pw_or (pt_not (pt_val (pe_callB call_isi rfl T.n_isinstance PyProof.Rows.boot_isinstance (pa_cons (pv 0) (pa_cons (pe_bltn rfl T.n_tuple PyProof.Rows.boot_tuple rfl) pa_nil))))) (pw_or (pt_cmpR op_ne (pe_callB call_len_seq rfl T.n_len PySem.boot_len (pa_cons (pv 0) pa_nil)) pe_int (nomark _)) (pw_or (pt_not (pt_val (pe_k C_is_integer (hr.mono (by decide)) rfl (pa_cons (pe_ix ix_tup (pv 0) pe_int (fun _ _ => rfl)) pa_nil)))) (pw_or1 (pt_not (pt_val (pe_k C_is_integer (hr.mono (by decide)) rfl (pa_cons (pe_ix ix_tup (pv 0) pe_int (fun _ _ => rfl)) pa_nil))))))))) (pss_one (ps_ret pe_bl)) pss_nil)
    (pss_one (ps_ret (pe_and (pe_cmpR op_gt (pe_ix ix_tup (pv 0) pe_int (fun _ _ => rfl)) pe_int (nomark _)) (pe_one (pe_cmpR op_eq (pe_k C_divisor_of (hr.mono (by decide)) rfl (pa_cons (pe_ix ix_tup (pv 0) pe_int (fun _ _ => rfl)) (pa_cons (pe_ix ix_tup (pv 0) pe_int (fun _ _ => rfl)) pa_nil))) pe_int (nomark _)))))))
/-! added -/
theorem sc_added : FnScope ["one", "other"] ["one", "other"] (defScope s_added) := ⟨rfl, rfl, rfl, by decide +kernel, rfl, by decide +kernel, by decide +kernel⟩
def t_added (P : Program) (w : World) (K : PySem.W.Frag) (p_fraction : Sp) : TS := (tRet (tCall p_fraction [] E0 (tCons (tOp (rI0 fun i j => .int (i + j)) (tOp (rI CMulW fun i j => .int (i * j)) (tOp (rIxT K) (tVar 0) (tC (.int 0))) (tOp (rIxT K) (tVar 1) (tC (.int 1)))) (tOp (rI CMulW fun i j => .int (i * j)) (tOp (rIxT K) (tVar 1) (tC (.int 0))) (tOp (rIxT K) (tVar 0) (tC (.int 1))))) (tCons (tOp (rI CMulW fun i j => .int (i * j)) (tOp (rIxT K) (tVar 0) (tC (.int 1))) (tOp (rIxT K) (tVar 1) (tC (.int 1)))) tNil))))
theorem w_added {P : Program} {w : World} {K : PySem.W.Frag} {mg : Str → Option Value} {base : Heap} {p_fraction : Sp} (T : Tp K mg) (C_fraction : Cal P w K mg base 2 "fraction" p_fraction) {f : Addr} {cdv : Value} {A : Around} {outer : List Env} {s : Shared} {H : Hp} {E : XK} (hr : Room 2 (A.deeper (envOfC "added" (defScope s_added) s.heap.objs.size f cdv))) :
  PSs (cxOf CX0 P w K mg base ["one", "other"] "added" (defScope s_added) f cdv A outer s H E).nox (defBody s_added) (t_added P w K p_fraction) := by
  have nd := sc_added.nd
  have hu0 := hr.u0
  have hu1 := hr.u1
  have hu64 := hr.units
  have hu66 := hr.u66
  exact (pss_one (ps_ret (pe_k C_fraction (hr.mono (by decide)) rfl (pa_cons (pe_op op_add (pe_op op_mulW (pe_ix ix_tup (pv 0) pe_int (fun _ _ => rfl)) (pe_ix ix_tup (pv 1) pe_int (fun _ _ => rfl))) (pe_op op_mulW (pe_ix ix_tup (pv 1) pe_int (fun _ _ => rfl)) (pe_ix ix_tup (pv 0) pe_int (fun _ _ => rfl)))) (pa_cons (pe_op op_mulW (pe_ix ix_tup (pv 0) pe_int (fun _ _ => rfl)) (pe_ix ix_tup (pv 1) pe_int (fun _ _ => rfl))) pa_nil)))))
/-! multiplied -/
theorem sc_multiplied : FnScope ["one", "other"] ["one", "other"] (defScope s_multiplied) := ⟨rfl, rfl, rfl, by decide +kernel, rfl, by decide +kernel, by decide +kernel⟩
def t_multiplied (P : Program) (w : World) (K : PySem.W.Frag) (p_fraction : Sp) : TS := (tRet (tCall p_fraction [] E0 (tCons (tOp (rI CMulW fun i j => .int (i * j)) (tOp (rIxT K) (tVar 0) (tC (.int 0))) (tOp (rIxT K) (tVar 1) (tC (.int 0)))) (tCons (tOp (rI CMulW fun i j => .int (i * j)) (tOp (rIxT K) (tVar 0) (tC (.int 1))) (tOp (rIxT K) (tVar 1) (tC (.int 1)))) tNil))))
theorem w_multiplied {P : Program} {w : World} {K : PySem.W.Frag} {mg : Str → Option Value} {base : Heap} {p_fraction : Sp} (T : Tp K mg) (C_fraction : Cal P w K mg base 2 "fraction" p_fraction) {f : Addr} {cdv : Value} {A : Around} {outer : List Env} {s : Shared} {H : Hp} {E : XK} (hr : Room 2 (A.deeper (envOfC "multiplied" (defScope s_multiplied) s.heap.objs.size f cdv))) :
  PSs (cxOf CX0 P w K mg base ["one", "other"] "multiplied" (defScope s_multiplied) f cdv A outer s H E).nox (defBody s_multiplied) (t_multiplied P w K p_fraction) := by
  have nd := sc_multiplied.nd
  have hu0 := hr.u0
  have hu1 := hr.u1
  have hu64 := hr.units
  have hu66 := hr.u66
  exact (pss_one (ps_ret (pe_k C_fraction (hr.mono (by decide)) rfl (pa_cons (pe_op op_mulW (pe_ix ix_tup (pv 0) pe_int (fun _ _ => rfl)) (pe_ix ix_tup (pv 1) pe_int (fun _ _ => rfl))) (pa_cons (pe_op op_mulW (pe_ix ix_tup (pv 0) pe_int (fun _ _ => rfl)) (pe_ix ix_tup (pv 1) pe_int (fun _ _ => rfl))) pa_nil)))))
/-! is_below -/
theorem sc_is_below : FnScope ["one", "other"] ["one", "other"] (defScope s_is_below) := ⟨rfl, rfl, rfl, by decide +kernel, rfl, by decide +kernel, by decide +kernel⟩
def t_is_below (P : Program) (w : World) (K : PySem.W.Frag) : TS := (tRet (tOp (rI0 fun i j => .bl (decide (i < j))) (tOp (rI CMulW fun i j => .int (i * j)) (tOp (rIxT K) (tVar 0) (tC (.int 0))) (tOp (rIxT K) (tVar 1) (tC (.int 1)))) (tOp (rI CMulW fun i j => .int (i * j)) (tOp (rIxT K) (tVar 1) (tC (.int 0))) (tOp (rIxT K) (tVar 0) (tC (.int 1))))))
theorem w_is_below {P : Program} {w : World} {K : PySem.W.Frag} {mg : Str → Option Value} {base : Heap} (T : Tp K mg) {f : Addr} {cdv : Value} {A : Around} {outer : List Env} {s : Shared} {H : Hp} {E : XK} (hr : Room 0 (A.deeper (envOfC "is_below" (defScope s_is_below) s.heap.objs.size f cdv))) :
  PSs (cxOf CX0 P w K mg base ["one", "other"] "is_below" (defScope s_is_below) f cdv A outer s H E).nox (defBody s_is_below) (t_is_below P w K) := by
  have nd := sc_is_below.nd
  have hu0 := hr.u0
  have hu1 := hr.u1
  have hu64 := hr.units
  have hu66 := hr.u66
  exact (pss_one (ps_ret (pe_cmpR op_lt (pe_op op_mulW (pe_ix ix_tup (pv 0) pe_int (fun _ _ => rfl)) (pe_ix ix_tup (pv 1) pe_int (fun _ _ => rfl))) (pe_op op_mulW (pe_ix ix_tup (pv 1) pe_int (fun _ _ => rfl)) (pe_ix ix_tup (pv 0) pe_int (fun _ _ => rfl))) (nomark _))))
/-! raised -/
theorem sc_raised : FnScope ["number", "many", "found", "turn"] ["number", "many"] (defScope s_raised) := ⟨rfl, rfl, rfl, by decide +kernel, rfl, by decide +kernel, by decide +kernel⟩
def t_raised (P : Program) (w : World) (K : PySem.W.Frag) (p_multiplied : Sp) : TS := (tSeq (tAsg (tC (.ref (He.ga K "ONE"))) (gName 2))
    (tSeq (tFor (iRng1 (tCons (tVar 1) tNil)) (gName 3) (tAsg (tCall p_multiplied [] E0 (tCons (tVar 2) (tCons (tVar 0) tNil))) (gName 2)))
    (tRet (tVar 2))))
theorem w_raised {P : Program} {w : World} {K : PySem.W.Frag} {mg : Str → Option Value} {base : Heap} {p_multiplied : Sp} (T : Tp K mg) (C_multiplied : Cal P w K mg base 3 "multiplied" p_multiplied) {f : Addr} {cdv : Value} {A : Around} {outer : List Env} {s : Shared} {H : Hp} {E : XK} (hr : Room 3 (A.deeper (envOfC "raised" (defScope s_raised) s.heap.objs.size f cdv))) :
  PSs (cxOf CX0 P w K mg base ["number", "many", "found", "turn"] "raised" (defScope s_raised) f cdv A outer s H E).nox (defBody s_raised) (t_raised P w K p_multiplied) := by
  have nd := sc_raised.nd
  have hu0 := hr.u0
  have hu1 := hr.u1
  have hu64 := hr.units
  have hu66 := hr.u66
  exact (pss_cons (ps_set (i := 2) nd rfl (by first | exact .inl rfl | exact .inr rfl) (pe_glob rfl (T.glo_ONE) rfl))
    (pss_cons (ps_for PassesOwn.never rfl (pi_range1 rfl T.n_range (pa_cons (pv 1) pa_nil)) (pg_name (i := 3) nd rfl (by first | exact .inl rfl | exact .inr rfl)) (pss_one (ps_set (i := 2) nd rfl (by first | exact .inl rfl | exact .inr rfl) (pe_k C_multiplied (hr.mono (by decide)) rfl (pa_cons (pv 2) (pa_cons (pv 0) pa_nil))))))
    (pss_one (ps_ret (pv 2)))))
/-! is_term -/
theorem sc_is_term : FnScope ["thing", "power"] ["thing"] (defScope s_is_term) := ⟨rfl, rfl, rfl, by decide +kernel, rfl, by decide +kernel, by decide +kernel⟩
def t_is_term (P : Program) (w : World) (K : PySem.W.Frag) (p_is_within : Sp) (p_is_integer : Sp) : TS := (tSeq (tIfS (tOr (tNot (tB (tCB (rIsi K) (tCons (tVar 0) (tCons (tC (.ty "tuple")) tNil))))) (tOr (tTest (tOp rNe (tCB (fun xs H Q => ∃ p ys, xs = [.ref p] ∧ (SqL K H p ys ∨ SqT K H p ys) ∧ Q (.int ys.length) H) (tCons (tVar 0) tNil)) (tC (.int 2)))) (tOr (tNot (tB (tCall p_is_integer [] E0 (tCons (tOp (rIxT K) (tVar 0) (tC (.int 1))) tNil)))) (tTest (tOp rEq (tOp (rIxT K) (tVar 0) (tC (.int 1))) (tC (.int 0))))))) (tRet (tC (.bl false))) tNext)
    (tSeq (tIfS (tOr (tNot (tB (tCB (rIsi K) (tCons (tOp (rIxT K) (tVar 0) (tC (.int 0))) (tCons (tC (.ty "tuple")) tNil))))) (tTest (tOp rNe (tCB (fun xs H Q => ∃ p ys, xs = [.ref p] ∧ (SqL K H p ys ∨ SqT K H p ys) ∧ Q (.int ys.length) H) (tCons (tOp (rIxT K) (tVar 0) (tC (.int 0))) tNil)) (tC (.int 4))))) (tRet (tC (.bl false))) tNext)
    (tRet (tCB (rAll K) (tCons (tLc (iTup K (tOp (rIxT K) (tVar 0) (tC (.int 0)))) (gName 1) tYes (tCall p_is_within [] E0 (tCons (tVar 1) (tCons (tC (.int 0)) (tCons (tC (.int 60)) tNil)))) [1]) tNil)))))
theorem w_is_term {P : Program} {w : World} {K : PySem.W.Frag} {mg : Str → Option Value} {base : Heap} {p_is_within : Sp} {p_is_integer : Sp} (T : Tp K mg) (C_is_within : Cal P w K mg base 2 "is_within" p_is_within) (C_is_integer : Cal P w K mg base 1 "is_integer" p_is_integer) {f : Addr} {cdv : Value} {A : Around} {outer : List Env} {s : Shared} {H : Hp} {E : XK} (hr : Room 2 (A.deeper (envOfC "is_term" (defScope s_is_term) s.heap.objs.size f cdv))) :
  PSs (cxOf CX0 P w K mg base ["thing", "power"] "is_term" (defScope s_is_term) f cdv A outer s H E).nox (defBody s_is_term) (t_is_term P w K p_is_within p_is_integer) := by
  have nd := sc_is_term.nd
  have hu0 := hr.u0
  have hu1 := hr.u1
  have hu64 := hr.units
  have hu66 := hr.u66
  exact (pss_cons (ps_if (PW.pt (pw_or (pt_not (pt_val (pe_callB call_isi rfl T.n_isinstance PyProof.Rows.boot_isinstance (pa_cons (pv 0) (pa_cons (pe_bltn rfl T.n_tuple PyProof.Rows.boot_tuple rfl) pa_nil))))) (pw_or (pt_cmpR op_ne (pe_callB call_len_seq rfl T.n_len PySem.boot_len (pa_cons (pv 0) pa_nil)) pe_int (nomark _)) (pw_or (pt_not (pt_val (pe_k C_is_integer (hr.mono (by decide)) rfl (pa_cons (pe_ix ix_tup (pv 0) pe_int (fun _ _ => rfl)) pa_nil)))) (pw_or1 (pt_cmpR op_eq (pe_ix ix_tup (pv 0) pe_int (fun _ _ => rfl)) pe_int (nomark _))))))) (pss_one (ps_ret pe_bl)) pss_nil)
    (pss_cons (ps_if (PW.pt (pw_or (pt_not (pt_val (pe_callB call_isi rfl T.n_isinstance PyProof.Rows.boot_isinstance (pa_cons (pe_ix ix_tup (pv 0) pe_int (fun _ _ => rfl)) (pa_cons (pe_bltn rfl T.n_tuple PyProof.Rows.boot_tuple rfl) pa_nil))))) (pw_or1 (pt_cmpR op_ne (pe_callB call_len_seq rfl T.n_len PySem.boot_len (pa_cons (pe_ix ix_tup (pv 0) pe_int (fun _ _ => rfl)) pa_nil)) (pe_gc rfl T.int_UNKNOWNS) (nomark _))))) (pss_one (ps_ret pe_bl)) pss_nil)
    (pss_one (ps_ret (pe_callB (cr_all rfl) rfl T.n_all PyProof.Rows.boot_all (pa_cons (pe_lc (own := [("power", 1)]) rfl nd (pi_tup (pe_ix ix_tup (pv 0) pe_int (fun _ _ => rfl))) (blkOk_by (by kernel_rfl)) (fun _ _ _ _ _ => (pg_name (i := 1) nd rfl (by first | exact .inl rfl | exact .inr rfl))) (fun _ _ _ _ _ => pts_nil) (fun _ _ _ _ _ => (pe_k C_is_within (hr.mono (by decide)) rfl (pa_cons (pv 1) (pa_cons pe_int (pa_cons (pe_gc rfl T.int_MOST_POWER) pa_nil)))))) pa_nil))))))
/-! Poly_init -/
theorem sc_Poly_init : FnScope ["self", "terms", "index", "term"] ["self", "terms"] (defScope s_Poly_init) := ⟨rfl, rfl, rfl, by decide +kernel, rfl, by decide +kernel, by decide +kernel⟩
def t_Poly_init (P : Program) (w : World) (K : PySem.W.Frag) (p_is_term : Sp) : TS := (tSeq (tIfS (tOr (tNot (tB (tCB (rIsi K) (tCons (tVar 1) (tCons (tC (.ty "tuple")) tNil))))) (tTest (tOp (rI0 fun i j => .bl (decide (j < i))) (tCB (fun xs H Q => ∃ p ys, xs = [.ref p] ∧ (SqL K H p ys ∨ SqT K H p ys) ∧ Q (.int ys.length) H) (tCons (tVar 1) tNil)) (tC (.int 300))))) tNever tNext)
    (tSeq (tFor (iEnumT K (tCons (tVar 1) tNil)) (gTup K 2 (gCons (gName 2) (gCons (gName 3) gNil))) (tIfS (tOr (tNot (tB (tCall p_is_term [] E0 (tCons (tVar 3) tNil)))) (tAnd (tTest (tOp (rI0 fun i j => .bl (decide (j < i))) (tVar 2) (tC (.int 0)))) (tNot (tTest (tOp (rLtT K) (tOp (rIxT K) (tOp (rIxT K) (tVar 1) (tOp (rI0 fun i j => .int (i - j)) (tVar 2) (tC (.int 1)))) (tC (.int 0))) (tOp (rIxT K) (tVar 3) (tC (.int 0)))))))) tNever tNext))
    (sFld K (tVar 0) (tVar 1) "terms")))
theorem w_Poly_init {P : Program} {w : World} {K : PySem.W.Frag} {mg : Str → Option Value} {base : Heap} {p_is_term : Sp} (T : Tp K mg) (C_is_term : Cal P w K mg base 3 "is_term" p_is_term) {f : Addr} {cdv : Value} {A : Around} {outer : List Env} {s : Shared} {H : Hp} {E : XK} (hr : Room 3 (A.deeper (envOfC "Poly.__init__" (defScope s_Poly_init) s.heap.objs.size f cdv))) :
  PSs (cxOf CX0 P w K mg base ["self", "terms", "index", "term"] "Poly.__init__" (defScope s_Poly_init) f cdv A outer s H E).nox (defBody s_Poly_init) (t_Poly_init P w K p_is_term) := by
  have nd := sc_Poly_init.nd
  have hu0 := hr.u0
  have hu1 := hr.u1
  have hu64 := hr.units
  have hu66 := hr.u66
  exact (pss_cons (ps_if (PW.pt (pw_or (pt_not (pt_val (pe_callB call_isi rfl T.n_isinstance PyProof.Rows.boot_isinstance (pa_cons (pv 1) (pa_cons (pe_bltn rfl T.n_tuple PyProof.Rows.boot_tuple rfl) pa_nil))))) (pw_or1 (pt_cmpR op_gt (pe_callB call_len_seq rfl T.n_len PySem.boot_len (pa_cons (pv 1) pa_nil)) (pe_gc rfl T.int_MOST_TERMS) (nomark _))))) (pss_one ps_never) pss_nil)
    (pss_cons (ps_for PassesOwn.never rfl (pi_enumT rfl T.n_enumerate (pa_cons (pv 1) pa_nil)) (pg_tup rfl (pgs_cons (pg_name (i := 2) nd rfl (by first | exact .inl rfl | exact .inr rfl)) (pgs_cons (pg_name (i := 3) nd rfl (by first | exact .inl rfl | exact .inr rfl)) pgs_nil))) (pss_one (ps_if (PW.pt (pw_or (pt_not (pt_val (pe_k C_is_term (hr.mono (by decide)) rfl (pa_cons (pv 3) pa_nil)))) (pw_or1 (PW.pt (pw_and (pt_cmpR op_gt (pv 2) pe_int (nomark _)) (pw_and1 (pt_not (pt_cmpR (op_ltT hu0) (pe_ix ix_tup (pe_ix ix_tup (pv 1) (pe_op op_sub (pv 2) pe_int) (fun _ _ => rfl)) pe_int (fun _ _ => rfl)) (pe_ix ix_tup (pv 3) pe_int (fun _ _ => rfl)) (nomark _))))))))) (pss_one ps_never) pss_nil)))
    (pss_one (ps_fld (pv 0) (pv 1) rfl))))
/-! RawPoly_init -/
theorem sc_RawPoly_init : FnScope ["self", "terms"] ["self", "terms"] (defScope s_RawPoly_init) := ⟨rfl, rfl, rfl, by decide +kernel, rfl, by decide +kernel, by decide +kernel⟩
def t_RawPoly_init (P : Program) (w : World) (K : PySem.W.Frag) : TS := (sFld K (tVar 0) (tVar 1) "terms")
theorem w_RawPoly_init {P : Program} {w : World} {K : PySem.W.Frag} {mg : Str → Option Value} {base : Heap} (T : Tp K mg) {f : Addr} {cdv : Value} {A : Around} {outer : List Env} {s : Shared} {H : Hp} {E : XK} (hr : Room 0 (A.deeper (envOfC "RawPoly.__init__" (defScope s_RawPoly_init) s.heap.objs.size f cdv))) :
  PSs (cxOf CX0 P w K mg base ["self", "terms"] "RawPoly.__init__" (defScope s_RawPoly_init) f cdv A outer s H E).nox (defBody s_RawPoly_init) (t_RawPoly_init P w K) := by
  have nd := sc_RawPoly_init.nd
  have hu0 := hr.u0
  have hu1 := hr.u1
  have hu64 := hr.units
  have hu66 := hr.u66
  exact (pss_one (ps_fld (pv 0) (pv 1) rfl))
/-! poly_from -/
theorem sc_poly_from : FnScope ["parts", "powers"] ["parts"] (defScope s_poly_from) := ⟨rfl, rfl, rfl, by decide +kernel, rfl, by decide +kernel, by decide +kernel⟩
def t_poly_from (P : Program) (w : World) (K : PySem.W.Frag) (p_RawPoly_init : Sp) : TS := (tRet (tMake (He.ga K "RawPoly") p_RawPoly_init [] E0 (tCons (tCB (fun xs H Q => ∃ p ys, xs = [.ref p] ∧ ((SqL K H p ys ∧ ∀ l, H l = none → Q (.ref l) (upd H l (.tup ys))) ∨ (SqT K H p ys ∧ Q (.ref p) H))) (tCons (tLc (iList K (tCB (rXSorted P w K) (tCons (tVar 0) tNil))) (gName 1) (tTest (tOp rNe (tXGet P w K (tVar 0) (tVar 1)) (tC (.int 0)))) (tTup (tCons (tVar 1) (tCons (tXGet P w K (tVar 0) (tVar 1)) tNil))) [1]) tNil)) tNil)))
theorem w_poly_from {P : Program} {w : World} {K : PySem.W.Frag} {mg : Str → Option Value} {base : Heap} {p_RawPoly_init : Sp} (T : Tp K mg) (C_RawPoly_init : CalI P w K mg base 1 "RawPoly" p_RawPoly_init) {f : Addr} {cdv : Value} {A : Around} {outer : List Env} {s : Shared} {H : Hp} {E : XK} (hr : Room 2 (A.deeper (envOfC "poly_from" (defScope s_poly_from) s.heap.objs.size f cdv))) :
  PSs (cxOf CX0 P w K mg base ["parts", "powers"] "poly_from" (defScope s_poly_from) f cdv A outer s H E).nox (defBody s_poly_from) (t_poly_from P w K p_RawPoly_init) := by
  have nd := sc_poly_from.nd
  have hu0 := hr.u0
  have hu1 := hr.u1
  have hu64 := hr.units
  have hu66 := hr.u66
  exact (pss_one (ps_ret (pe_makeK C_RawPoly_init (hr.mono (by decide)) rfl (pa_cons (pe_callTy call_tuple_of rfl T.n_tuple PyProof.Rows.boot_tuple (pa_cons (pe_lc (own := [("powers", 1)]) rfl nd (pi_list (pe_callB (call_xsorted rfl hu64) rfl T.n_sorted PyProof.Rows.boot_sorted (pa_cons (pv 0) pa_nil))) (blkOk_by (by kernel_rfl)) (fun _ _ _ _ _ => (pg_name (i := 1) nd rfl (by first | exact .inl rfl | exact .inr rfl))) (fun _ _ _ _ _ => (pts_one (pt_cmpR op_ne (pe_xget hu1 (pv 0) (pv 1) (fun _ _ => rfl)) pe_int (nomark _)))) (fun _ _ _ _ _ => (pe_tup (pa_cons (pv 1) (pa_cons (pe_xget hu1 (pv 0) (pv 1) (fun _ _ => rfl)) pa_nil))))) pa_nil)) pa_nil))))
/-! constant -/
theorem sc_constant : FnScope ["number"] ["number"] (defScope s_constant) := ⟨rfl, rfl, rfl, by decide +kernel, rfl, by decide +kernel, by decide +kernel⟩
def t_constant (P : Program) (w : World) (K : PySem.W.Frag) (p_poly_from : Sp) : TS := (tRet (tCall p_poly_from [] E0 (tCons (tXDisp1 P w K (tC (.ref (He.ga K "NO_POWERS"))) (tVar 0)) tNil)))
theorem w_constant {P : Program} {w : World} {K : PySem.W.Frag} {mg : Str → Option Value} {base : Heap} {p_poly_from : Sp} (T : Tp K mg) (C_poly_from : Cal P w K mg base 3 "poly_from" p_poly_from) {f : Addr} {cdv : Value} {A : Around} {outer : List Env} {s : Shared} {H : Hp} {E : XK} (hr : Room 3 (A.deeper (envOfC "constant" (defScope s_constant) s.heap.objs.size f cdv))) :
  PSs (cxOf CX0 P w K mg base ["number"] "constant" (defScope s_constant) f cdv A outer s H E).nox (defBody s_constant) (t_constant P w K p_poly_from) := by
  have nd := sc_constant.nd
  have hu0 := hr.u0
  have hu1 := hr.u1
  have hu64 := hr.units
  have hu66 := hr.u66
  exact (pss_one (ps_ret (pe_k C_poly_from (hr.mono (by decide)) rfl (pa_cons (pe_xdisp1 hu0 (pe_glob rfl (T.glo_NO_POWERS) rfl) (pv 0)) pa_nil))))
/-! powers_of -/
theorem sc_powers_of : FnScope ["k", "many", "other"] ["k", "many"] (defScope s_powers_of) := ⟨rfl, rfl, rfl, by decide +kernel, rfl, by decide +kernel, by decide +kernel⟩
def t_powers_of (P : Program) (w : World) (K : PySem.W.Frag) : TS := (tRet (tCB (fun xs H Q => ∃ p ys, xs = [.ref p] ∧ ((SqL K H p ys ∧ ∀ l, H l = none → Q (.ref l) (upd H l (.tup ys))) ∨ (SqT K H p ys ∧ Q (.ref p) H))) (tCons (tLc (iRng1 (tCons (tC (.int 4)) tNil)) (gName 2) tYes (tIf (tTest (tOp rEq (tVar 2) (tVar 0))) (tVar 1) (tC (.int 0))) [2]) tNil)))
theorem w_powers_of {P : Program} {w : World} {K : PySem.W.Frag} {mg : Str → Option Value} {base : Heap} (T : Tp K mg) {f : Addr} {cdv : Value} {A : Around} {outer : List Env} {s : Shared} {H : Hp} {E : XK} (hr : Room 0 (A.deeper (envOfC "powers_of" (defScope s_powers_of) s.heap.objs.size f cdv))) :
  PSs (cxOf CX0 P w K mg base ["k", "many", "other"] "powers_of" (defScope s_powers_of) f cdv A outer s H E).nox (defBody s_powers_of) (t_powers_of P w K) := by
  have nd := sc_powers_of.nd
  have hu0 := hr.u0
  have hu1 := hr.u1
  have hu64 := hr.units
  have hu66 := hr.u66
  exact (pss_one (ps_ret (pe_callTy call_tuple_of rfl T.n_tuple PyProof.Rows.boot_tuple (pa_cons (pe_lc (own := [("other", 2)]) rfl nd (pi_range1 rfl T.n_range (pa_cons (pe_gc rfl T.int_UNKNOWNS) pa_nil)) (blkOk_by (by kernel_rfl)) (fun _ _ _ _ _ => (pg_name (i := 2) nd rfl (by first | exact .inl rfl | exact .inr rfl))) (fun _ _ _ _ _ => pts_nil) (fun _ _ _ _ _ => (pe_ifExp (pt_cmpR op_eq (pv 2) (pv 0) (nomark _)) (pv 1) pe_int))) pa_nil))))
/-! unknown_power -/
theorem sc_unknown_power : FnScope ["k", "many"] ["k", "many"] (defScope s_unknown_power) := ⟨rfl, rfl, rfl, by decide +kernel, rfl, by decide +kernel, by decide +kernel⟩
def t_unknown_power (P : Program) (w : World) (K : PySem.W.Frag) (p_powers_of : Sp) (p_poly_from : Sp) : TS := (tRet (tCall p_poly_from [] E0 (tCons (tXDisp1 P w K (tCall p_powers_of [] E0 (tCons (tVar 0) (tCons (tVar 1) tNil))) (tC (.int 1))) tNil)))
theorem w_unknown_power {P : Program} {w : World} {K : PySem.W.Frag} {mg : Str → Option Value} {base : Heap} {p_powers_of : Sp} {p_poly_from : Sp} (T : Tp K mg) (C_powers_of : Cal P w K mg base 1 "powers_of" p_powers_of) (C_poly_from : Cal P w K mg base 3 "poly_from" p_poly_from) {f : Addr} {cdv : Value} {A : Around} {outer : List Env} {s : Shared} {H : Hp} {E : XK} (hr : Room 3 (A.deeper (envOfC "unknown_power" (defScope s_unknown_power) s.heap.objs.size f cdv))) :
  PSs (cxOf CX0 P w K mg base ["k", "many"] "unknown_power" (defScope s_unknown_power) f cdv A outer s H E).nox (defBody s_unknown_power) (t_unknown_power P w K p_powers_of p_poly_from) := by
  have nd := sc_unknown_power.nd
  have hu0 := hr.u0
  have hu1 := hr.u1
  have hu64 := hr.units
  have hu66 := hr.u66
  exact (pss_one (ps_ret (pe_k C_poly_from (hr.mono (by decide)) rfl (pa_cons (pe_xdisp1 hu0 (pe_k C_powers_of (hr.mono (by decide)) rfl (pa_cons (pv 0) (pa_cons (pv 1) pa_nil))) pe_int) pa_nil))))
/-! sum_with -/
theorem sc_sum_with : FnScope ["one", "other", "by", "parts", "powers", "count"] ["one", "other", "by"] (defScope s_sum_with) := ⟨rfl, rfl, rfl, by decide +kernel, rfl, by decide +kernel, by decide +kernel⟩
def t_sum_with (P : Program) (w : World) (K : PySem.W.Frag) (p_poly_from : Sp) : TS := (tSeq (tAsg (tXDc P w K (iTup K (tFld K (tVar 0) "terms")) (gTup K 2 (gCons (gName 4) (gCons (gName 5) gNil))) tYes (tVar 4) (tVar 5) [4, 5]) (gName 3))
    (tSeq (tFor (iTup K (tFld K (tVar 1) "terms")) (gTup K 2 (gCons (gName 4) (gCons (gName 5) gNil))) (sXPut P w K (tVar 3) (tVar 4) (tOp (rI0 fun i j => .int (i + j)) (tMG (tyX P w) (rXGet2 P w K) (tVar 3) (tCons (tVar 4) (tCons (tC (.int 0)) tNil))) (tOp (rI CMulW fun i j => .int (i * j)) (tVar 2) (tVar 5)))))
    (tRet (tCall p_poly_from [] E0 (tCons (tVar 3) tNil)))))
theorem w_sum_with {P : Program} {w : World} {K : PySem.W.Frag} {mg : Str → Option Value} {base : Heap} {p_poly_from : Sp} (T : Tp K mg) (C_poly_from : Cal P w K mg base 3 "poly_from" p_poly_from) {f : Addr} {cdv : Value} {A : Around} {outer : List Env} {s : Shared} {H : Hp} {E : XK} (hr : Room 3 (A.deeper (envOfC "sum_with" (defScope s_sum_with) s.heap.objs.size f cdv))) :
  PSs (cxOf CX0 P w K mg base ["one", "other", "by", "parts", "powers", "count"] "sum_with" (defScope s_sum_with) f cdv A outer s H E).nox (defBody s_sum_with) (t_sum_with P w K p_poly_from) := by
  have nd := sc_sum_with.nd
  have hu0 := hr.u0
  have hu1 := hr.u1
  have hu64 := hr.units
  have hu66 := hr.u66
  exact (pss_cons (ps_setXDc (i := 3) (own := [("powers", 4), ("count", 5)]) hu0 rfl nd rfl rfl (sw_trueD rfl rfl rfl (by decide +kernel)) (pi_tup (pe_fld (pv 0) rfl)) (blkOk_by (by kernel_rfl)) (fun _ _ _ _ _ => (pg_tup rfl (pgs_cons (pg_name (i := 4) nd rfl (by first | exact .inl rfl | exact .inr rfl)) (pgs_cons (pg_name (i := 5) nd rfl (by first | exact .inl rfl | exact .inr rfl)) pgs_nil)))) (fun _ _ _ _ _ => pts_nil) (fun _ _ _ _ _ => (pv 4)) (fun _ _ _ _ _ => (pv 5)))
    (pss_cons (ps_for PassesOwn.never rfl (pi_tup (pe_fld (pv 1) rfl)) (pg_tup rfl (pgs_cons (pg_name (i := 4) nd rfl (by first | exact .inl rfl | exact .inr rfl)) (pgs_cons (pg_name (i := 5) nd rfl (by first | exact .inl rfl | exact .inr rfl)) pgs_nil))) (pss_one (ps_xput hu1 (pv 3) (pv 4) (pe_op op_add (pe_mG ty_X PySem.F.plainAttrs_dict PySem.F.slot_dict_get PySem.F.type_dict_get (mt_xget2 hu1) (pv 3) (pa_cons (pv 4) (pa_cons pe_int pa_nil))) (pe_op op_mulW (pv 2) (pv 5))) rfl)))
    (pss_one (ps_ret (pe_k C_poly_from (hr.mono (by decide)) rfl (pa_cons (pv 3) pa_nil))))))
/-! plus -/
theorem sc_plus : FnScope ["one", "other"] ["one", "other"] (defScope s_plus) := ⟨rfl, rfl, rfl, by decide +kernel, rfl, by decide +kernel, by decide +kernel⟩
def t_plus (P : Program) (w : World) (K : PySem.W.Frag) (p_sum_with : Sp) : TS := (tRet (tCall p_sum_with [] E0 (tCons (tVar 0) (tCons (tVar 1) (tCons (tC (.int 1)) tNil)))))
theorem w_plus {P : Program} {w : World} {K : PySem.W.Frag} {mg : Str → Option Value} {base : Heap} {p_sum_with : Sp} (T : Tp K mg) (C_sum_with : Cal P w K mg base 4 "sum_with" p_sum_with) {f : Addr} {cdv : Value} {A : Around} {outer : List Env} {s : Shared} {H : Hp} {E : XK} (hr : Room 4 (A.deeper (envOfC "plus" (defScope s_plus) s.heap.objs.size f cdv))) :
  PSs (cxOf CX0 P w K mg base ["one", "other"] "plus" (defScope s_plus) f cdv A outer s H E).nox (defBody s_plus) (t_plus P w K p_sum_with) := by
  have nd := sc_plus.nd
  have hu0 := hr.u0
  have hu1 := hr.u1
  have hu64 := hr.units
  have hu66 := hr.u66
  exact (pss_one (ps_ret (pe_k C_sum_with (hr.mono (by decide)) rfl (pa_cons (pv 0) (pa_cons (pv 1) (pa_cons pe_int pa_nil))))))
/-! times -/
theorem sc_times : FnScope ["one", "other", "parts", "here", "count", "there", "many", "powers"] ["one", "other"] (defScope s_times) := ⟨rfl, rfl, rfl, by decide +kernel, rfl, by decide +kernel, by decide +kernel⟩
def t_times (P : Program) (w : World) (K : PySem.W.Frag) (p_poly_from : Sp) : TS := (tSeq (tAsg (tXNew P w) (gName 2))
    (tSeq (tFor (iTup K (tFld K (tVar 0) "terms")) (gTup K 2 (gCons (gName 3) (gCons (gName 4) gNil))) (tFor (iTup K (tFld K (tVar 1) "terms")) (gTup K 2 (gCons (gName 5) (gCons (gName 6) gNil))) (tSeq (tAsg (tTup (tCons (tOp (rI0 fun i j => .int (i + j)) (tOp (rIxT K) (tVar 3) (tC (.int 0))) (tOp (rIxT K) (tVar 5) (tC (.int 0)))) (tCons (tOp (rI0 fun i j => .int (i + j)) (tOp (rIxT K) (tVar 3) (tC (.int 1))) (tOp (rIxT K) (tVar 5) (tC (.int 1)))) (tCons (tOp (rI0 fun i j => .int (i + j)) (tOp (rIxT K) (tVar 3) (tC (.int 2))) (tOp (rIxT K) (tVar 5) (tC (.int 2)))) (tCons (tOp (rI0 fun i j => .int (i + j)) (tOp (rIxT K) (tVar 3) (tC (.int 3))) (tOp (rIxT K) (tVar 5) (tC (.int 3)))) tNil))))) (gName 7))
    (sXPut P w K (tVar 2) (tVar 7) (tOp (rI0 fun i j => .int (i + j)) (tMG (tyX P w) (rXGet2 P w K) (tVar 2) (tCons (tVar 7) (tCons (tC (.int 0)) tNil))) (tOp (rI CMulW fun i j => .int (i * j)) (tVar 4) (tVar 6)))))))
    (tRet (tCall p_poly_from [] E0 (tCons (tVar 2) tNil)))))
theorem w_times {P : Program} {w : World} {K : PySem.W.Frag} {mg : Str → Option Value} {base : Heap} {p_poly_from : Sp} (T : Tp K mg) (C_poly_from : Cal P w K mg base 3 "poly_from" p_poly_from) {f : Addr} {cdv : Value} {A : Around} {outer : List Env} {s : Shared} {H : Hp} {E : XK} (hr : Room 3 (A.deeper (envOfC "times" (defScope s_times) s.heap.objs.size f cdv))) :
  PSs (cxOf CX0 P w K mg base ["one", "other", "parts", "here", "count", "there", "many", "powers"] "times" (defScope s_times) f cdv A outer s H E).nox (defBody s_times) (t_times P w K p_poly_from) := by
  have nd := sc_times.nd
  have hu0 := hr.u0
  have hu1 := hr.u1
  have hu64 := hr.units
  have hu66 := hr.u66
  exact (pss_cons (ps_set (i := 2) nd rfl (by first | exact .inl rfl | exact .inr rfl) pe_xnew)
    (pss_cons (ps_for PassesOwn.never rfl (pi_tup (pe_fld (pv 0) rfl)) (pg_tup rfl (pgs_cons (pg_name (i := 3) nd rfl (by first | exact .inl rfl | exact .inr rfl)) (pgs_cons (pg_name (i := 4) nd rfl (by first | exact .inl rfl | exact .inr rfl)) pgs_nil))) (pss_one (ps_for PassesOwn.never rfl (pi_tup (pe_fld (pv 1) rfl)) (pg_tup rfl (pgs_cons (pg_name (i := 5) nd rfl (by first | exact .inl rfl | exact .inr rfl)) (pgs_cons (pg_name (i := 6) nd rfl (by first | exact .inl rfl | exact .inr rfl)) pgs_nil))) (pss_cons (ps_set (i := 7) nd rfl (by first | exact .inl rfl | exact .inr rfl) (pe_tup (pa_cons (pe_op op_add (pe_ix ix_tup (pv 3) pe_int (fun _ _ => rfl)) (pe_ix ix_tup (pv 5) pe_int (fun _ _ => rfl))) (pa_cons (pe_op op_add (pe_ix ix_tup (pv 3) pe_int (fun _ _ => rfl)) (pe_ix ix_tup (pv 5) pe_int (fun _ _ => rfl))) (pa_cons (pe_op op_add (pe_ix ix_tup (pv 3) pe_int (fun _ _ => rfl)) (pe_ix ix_tup (pv 5) pe_int (fun _ _ => rfl))) (pa_cons (pe_op op_add (pe_ix ix_tup (pv 3) pe_int (fun _ _ => rfl)) (pe_ix ix_tup (pv 5) pe_int (fun _ _ => rfl))) pa_nil))))))
    (pss_one (ps_xput hu1 (pv 2) (pv 7) (pe_op op_add (pe_mG ty_X PySem.F.plainAttrs_dict PySem.F.slot_dict_get PySem.F.type_dict_get (mt_xget2 hu1) (pv 2) (pa_cons (pv 7) (pa_cons pe_int pa_nil))) (pe_op op_mulW (pv 4) (pv 6))) rfl))))))
    (pss_one (ps_ret (pe_k C_poly_from (hr.mono (by decide)) rfl (pa_cons (pv 2) pa_nil))))))
/-! degree_by -/
theorem sc_degree_by : FnScope ["poly", "k", "powers", "count"] ["poly", "k"] (defScope s_degree_by) := ⟨rfl, rfl, rfl, by decide +kernel, rfl, by decide +kernel, by decide +kernel⟩
def t_degree_by (P : Program) (w : World) (K : PySem.W.Frag) : TS := (tRet (tCB (rMax K) (tCons (tOp rCat (tLst (tCons (tC (.int 0)) tNil)) (tLc (iTup K (tFld K (tVar 0) "terms")) (gTup K 2 (gCons (gName 2) (gCons (gName 3) gNil))) tYes (tOp (rIxT K) (tVar 2) (tVar 1)) [2, 3])) tNil)))
theorem w_degree_by {P : Program} {w : World} {K : PySem.W.Frag} {mg : Str → Option Value} {base : Heap} (T : Tp K mg) {f : Addr} {cdv : Value} {A : Around} {outer : List Env} {s : Shared} {H : Hp} {E : XK} (hr : Room 0 (A.deeper (envOfC "degree_by" (defScope s_degree_by) s.heap.objs.size f cdv))) :
  PSs (cxOf CX0 P w K mg base ["poly", "k", "powers", "count"] "degree_by" (defScope s_degree_by) f cdv A outer s H E).nox (defBody s_degree_by) (t_degree_by P w K) := by
  have nd := sc_degree_by.nd
  have hu0 := hr.u0
  have hu1 := hr.u1
  have hu64 := hr.units
  have hu66 := hr.u66
  exact (pss_one (ps_ret (pe_callB (cr_max rfl) rfl T.n_max PyProof.Rows.boot_max (pa_cons (pe_op op_cat (pe_lst (pa_cons pe_int pa_nil)) (pe_lc (own := [("powers", 2), ("count", 3)]) rfl nd (pi_tup (pe_fld (pv 0) rfl)) (blkOk_by (by kernel_rfl)) (fun _ _ _ _ _ => (pg_tup rfl (pgs_cons (pg_name (i := 2) nd rfl (by first | exact .inl rfl | exact .inr rfl)) (pgs_cons (pg_name (i := 3) nd rfl (by first | exact .inl rfl | exact .inr rfl)) pgs_nil)))) (fun _ _ _ _ _ => pts_nil) (fun _ _ _ _ _ => (pe_ix ix_tup (pv 2) (pv 1) (fun _ _ => rfl))))) pa_nil))))
/-! without -/
theorem sc_without : FnScope ["powers", "k"] ["powers", "k"] (defScope s_without) := ⟨rfl, rfl, rfl, by decide +kernel, rfl, by decide +kernel, by decide +kernel⟩
def t_without (P : Program) (w : World) (K : PySem.W.Frag) : TS := (tRet (tOp (rCatA K) (tOp (rCatA K) (L2.tSl (rSlA K) (tVar 0) tNoPart (tPart (tVar 1))) (tTup (tCons (tC (.int 0)) tNil))) (L2.tSl (rSlA K) (tVar 0) (tPart (tOp (rI0 fun i j => .int (i + j)) (tVar 1) (tC (.int 1)))) tNoPart)))
theorem w_without {P : Program} {w : World} {K : PySem.W.Frag} {mg : Str → Option Value} {base : Heap} (T : Tp K mg) {f : Addr} {cdv : Value} {A : Around} {outer : List Env} {s : Shared} {H : Hp} {E : XK} (hr : Room 0 (A.deeper (envOfC "without" (defScope s_without) s.heap.objs.size f cdv))) :
  PSs (cxOf CX0 P w K mg base ["powers", "k"] "without" (defScope s_without) f cdv A outer s H E).nox (defBody s_without) (t_without P w K) := by
  have nd := sc_without.nd
  have hu0 := hr.u0
  have hu1 := hr.u1
  have hu64 := hr.units
  have hu66 := hr.u66
  exact (pss_one (ps_ret (pe_op op_catA (pe_op op_catA (pe_slice sl_tupA (pv 0) po_none (po_some (pv 1))) (pe_tup (pa_cons pe_int pa_nil))) (pe_slice sl_tupA (pv 0) (po_some (pe_op op_add (pv 1) pe_int)) po_none))))
/-! counts_by -/
theorem sc_counts_by : FnScope ["poly", "k", "found", "powers", "count", "power_here", "parts"] ["poly", "k"] (defScope s_counts_by) := ⟨rfl, rfl, rfl, by decide +kernel, rfl, by decide +kernel, by decide +kernel⟩
def t_counts_by (P : Program) (w : World) (K : PySem.W.Frag) (p_poly_from : Sp) (p_without : Sp) (p_degree_by : Sp) : TS := (tSeq (tAsg (tLc (iRng1 (tCons (tOp (rI0 fun i j => .int (i + j)) (tCall p_degree_by [] E0 (tCons (tVar 0) (tCons (tVar 1) tNil))) (tC (.int 1))) tNil)) (gName 5) tYes (tXNew P w) [5]) (gName 2))
    (tSeq (tFor (iTup K (tFld K (tVar 0) "terms")) (gTup K 2 (gCons (gName 3) (gCons (gName 4) gNil))) (sXPut P w K (tOp (rIxL K) (tVar 2) (tOp (rIxT K) (tVar 3) (tVar 1))) (tCall p_without [] E0 (tCons (tVar 3) (tCons (tVar 1) tNil))) (tVar 4)))
    (tRet (tLc (iList K (tVar 2)) (gName 6) tYes (tCall p_poly_from [] E0 (tCons (tVar 6) tNil)) [6]))))
theorem w_counts_by {P : Program} {w : World} {K : PySem.W.Frag} {mg : Str → Option Value} {base : Heap} {p_poly_from : Sp} {p_without : Sp} {p_degree_by : Sp} (T : Tp K mg) (C_poly_from : Cal P w K mg base 3 "poly_from" p_poly_from) (C_without : Cal P w K mg base 1 "without" p_without) (C_degree_by : Cal P w K mg base 1 "degree_by" p_degree_by) {f : Addr} {cdv : Value} {A : Around} {outer : List Env} {s : Shared} {H : Hp} {E : XK} (hr : Room 3 (A.deeper (envOfC "counts_by" (defScope s_counts_by) s.heap.objs.size f cdv))) :
  PSs (cxOf CX0 P w K mg base ["poly", "k", "found", "powers", "count", "power_here", "parts"] "counts_by" (defScope s_counts_by) f cdv A outer s H E).nox (defBody s_counts_by) (t_counts_by P w K p_poly_from p_without p_degree_by) := by
  have nd := sc_counts_by.nd
  have hu0 := hr.u0
  have hu1 := hr.u1
  have hu64 := hr.units
  have hu66 := hr.u66
  exact (pss_cons (ps_setLc (i := 2) (own := [("power_here", 5)]) rfl nd rfl rfl (sw_true rfl rfl rfl (by decide +kernel)) (pi_range1 rfl T.n_range (pa_cons (pe_op op_add (pe_k C_degree_by (hr.mono (by decide)) rfl (pa_cons (pv 0) (pa_cons (pv 1) pa_nil))) pe_int) pa_nil)) (blkOk_by (by kernel_rfl)) (fun _ _ _ _ _ => (pg_name (i := 5) nd rfl (by first | exact .inl rfl | exact .inr rfl))) (fun _ _ _ _ _ => pts_nil) (fun _ _ _ _ _ => pe_xnew))
    (pss_cons (ps_for PassesOwn.never rfl (pi_tup (pe_fld (pv 0) rfl)) (pg_tup rfl (pgs_cons (pg_name (i := 3) nd rfl (by first | exact .inl rfl | exact .inr rfl)) (pgs_cons (pg_name (i := 4) nd rfl (by first | exact .inl rfl | exact .inr rfl)) pgs_nil))) (pss_one (ps_xput hu1 (pe_ix ix_list (pv 2) (pe_ix ix_tup (pv 3) (pv 1) (fun _ _ => rfl)) (fun _ _ => rfl)) (pe_k C_without (hr.mono (by decide)) rfl (pa_cons (pv 3) (pa_cons (pv 1) pa_nil))) (pv 4) rfl)))
    (pss_one (ps_ret (pe_lc (own := [("parts", 6)]) rfl nd (pi_list (pv 2)) (blkOk_by (by kernel_rfl)) (fun _ _ _ _ _ => (pg_name (i := 6) nd rfl (by first | exact .inl rfl | exact .inr rfl))) (fun _ _ _ _ _ => pts_nil) (fun _ _ _ _ _ => (pe_k C_poly_from (hr.mono (by decide)) rfl (pa_cons (pv 6) pa_nil))))))))
/-! worth_at -/
theorem sc_worth_at : FnScope ["poly", "point", "found", "powers", "count", "term", "place", "many"] ["poly", "point"] (defScope s_worth_at) := ⟨rfl, rfl, rfl, by decide +kernel, rfl, by decide +kernel, by decide +kernel⟩
def t_worth_at (P : Program) (w : World) (K : PySem.W.Frag) (p_added : Sp) (p_raised : Sp) (p_multiplied : Sp) : TS := (tSeq (tAsg (tC (.ref (He.ga K "ZERO"))) (gName 2))
    (tSeq (tFor (iTup K (tFld K (tVar 0) "terms")) (gTup K 2 (gCons (gName 3) (gCons (gName 4) gNil))) (tSeq (tAsg (tTup (tCons (tVar 4) (tCons (tC (.int 1)) tNil))) (gName 5))
    (tSeq (tFor (RZ.iZipA K (tCons (tVar 1) (tCons (tVar 3) tNil))) (gTup K 2 (gCons (gName 6) (gCons (gName 7) gNil))) (tAsg (tCall p_multiplied [] E0 (tCons (tVar 5) (tCons (tCall p_raised [] E0 (tCons (tVar 6) (tCons (tVar 7) tNil))) tNil))) (gName 5)))
    (tAsg (tCall p_added [] E0 (tCons (tVar 2) (tCons (tVar 5) tNil))) (gName 2)))))
    (tRet (tVar 2))))
theorem w_worth_at {P : Program} {w : World} {K : PySem.W.Frag} {mg : Str → Option Value} {base : Heap} {p_added : Sp} {p_raised : Sp} {p_multiplied : Sp} (T : Tp K mg) (C_added : Cal P w K mg base 3 "added" p_added) (C_raised : Cal P w K mg base 4 "raised" p_raised) (C_multiplied : Cal P w K mg base 3 "multiplied" p_multiplied) {f : Addr} {cdv : Value} {A : Around} {outer : List Env} {s : Shared} {H : Hp} {E : XK} (hr : Room 4 (A.deeper (envOfC "worth_at" (defScope s_worth_at) s.heap.objs.size f cdv))) :
  PSs (cxOf CX0 P w K mg base ["poly", "point", "found", "powers", "count", "term", "place", "many"] "worth_at" (defScope s_worth_at) f cdv A outer s H E).nox (defBody s_worth_at) (t_worth_at P w K p_added p_raised p_multiplied) := by
  have nd := sc_worth_at.nd
  have hu0 := hr.u0
  have hu1 := hr.u1
  have hu64 := hr.units
  have hu66 := hr.u66
  exact (pss_cons (ps_set (i := 2) nd rfl (by first | exact .inl rfl | exact .inr rfl) (pe_glob rfl (T.glo_ZERO) rfl))
    (pss_cons (ps_for PassesOwn.never rfl (pi_tup (pe_fld (pv 0) rfl)) (pg_tup rfl (pgs_cons (pg_name (i := 3) nd rfl (by first | exact .inl rfl | exact .inr rfl)) (pgs_cons (pg_name (i := 4) nd rfl (by first | exact .inl rfl | exact .inr rfl)) pgs_nil))) (pss_cons (ps_set (i := 5) nd rfl (by first | exact .inl rfl | exact .inr rfl) (pe_tup (pa_cons (pv 4) (pa_cons pe_int pa_nil))))
    (pss_cons (ps_for PassesOwn.never rfl (RZ.pi_zipA rfl T.n_zip (pa_cons (pv 1) (pa_cons (pv 3) pa_nil))) (pg_tup rfl (pgs_cons (pg_name (i := 6) nd rfl (by first | exact .inl rfl | exact .inr rfl)) (pgs_cons (pg_name (i := 7) nd rfl (by first | exact .inl rfl | exact .inr rfl)) pgs_nil))) (pss_one (ps_set (i := 5) nd rfl (by first | exact .inl rfl | exact .inr rfl) (pe_k C_multiplied (hr.mono (by decide)) rfl (pa_cons (pv 5) (pa_cons (pe_k C_raised (hr.mono (by decide)) rfl (pa_cons (pv 6) (pa_cons (pv 7) pa_nil))) pa_nil))))))
    (pss_one (ps_set (i := 2) nd rfl (by first | exact .inl rfl | exact .inr rfl) (pe_k C_added (hr.mono (by decide)) rfl (pa_cons (pv 2) (pa_cons (pv 5) pa_nil))))))))
    (pss_one (ps_ret (pv 2)))))
/-! worth -/
theorem sc_worth : FnScope ["poly", "point", "place"] ["poly", "point"] (defScope s_worth) := ⟨rfl, rfl, rfl, by decide +kernel, rfl, by decide +kernel, by decide +kernel⟩
def t_worth (P : Program) (w : World) (K : PySem.W.Frag) (p_worth_at : Sp) (p_is_fraction : Sp) : TS := (tSeq (tIfS (tOr (tNot (tB (tCB (rIsi K) (tCons (tVar 1) (tCons (tC (.ty "tuple")) tNil))))) (tOr (tTest (tOp rNe (tCB (fun xs H Q => ∃ p ys, xs = [.ref p] ∧ (SqL K H p ys ∨ SqT K H p ys) ∧ Q (.int ys.length) H) (tCons (tVar 1) tNil)) (tC (.int 4)))) (tNot (tB (tCB (rAll K) (tCons (tLc (iTup K (tVar 1)) (gName 2) tYes (tCall p_is_fraction [] E0 (tCons (tVar 2) tNil)) [2]) tNil)))))) tNever tNext)
    (tRet (tCall p_worth_at [] E0 (tCons (tVar 0) (tCons (tVar 1) tNil)))))
theorem w_worth {P : Program} {w : World} {K : PySem.W.Frag} {mg : Str → Option Value} {base : Heap} {p_worth_at : Sp} {p_is_fraction : Sp} (T : Tp K mg) (C_worth_at : Cal P w K mg base 5 "worth_at" p_worth_at) (C_is_fraction : Cal P w K mg base 2 "is_fraction" p_is_fraction) {f : Addr} {cdv : Value} {A : Around} {outer : List Env} {s : Shared} {H : Hp} {E : XK} (hr : Room 5 (A.deeper (envOfC "worth" (defScope s_worth) s.heap.objs.size f cdv))) :
  PSs (cxOf CX0 P w K mg base ["poly", "point", "place"] "worth" (defScope s_worth) f cdv A outer s H E).nox (defBody s_worth) (t_worth P w K p_worth_at p_is_fraction) := by
  have nd := sc_worth.nd
  have hu0 := hr.u0
  have hu1 := hr.u1
  have hu64 := hr.units
  have hu66 := hr.u66
  exact (pss_cons (ps_if (PW.pt (pw_or (pt_not (pt_val (pe_callB call_isi rfl T.n_isinstance PyProof.Rows.boot_isinstance (pa_cons (pv 1) (pa_cons (pe_bltn rfl T.n_tuple PyProof.Rows.boot_tuple rfl) pa_nil))))) (pw_or (pt_cmpR op_ne (pe_callB call_len_seq rfl T.n_len PySem.boot_len (pa_cons (pv 1) pa_nil)) (pe_gc rfl T.int_UNKNOWNS) (nomark _)) (pw_or1 (pt_not (pt_val (pe_callB (cr_all rfl) rfl T.n_all PyProof.Rows.boot_all (pa_cons (pe_lc (own := [("place", 2)]) rfl nd (pi_tup (pv 1)) (blkOk_by (by kernel_rfl)) (fun _ _ _ _ _ => (pg_name (i := 2) nd rfl (by first | exact .inl rfl | exact .inr rfl))) (fun _ _ _ _ _ => pts_nil) (fun _ _ _ _ _ => (pe_k C_is_fraction (hr.mono (by decide)) rfl (pa_cons (pv 2) pa_nil)))) pa_nil)))))))) (pss_one ps_never) pss_nil)
    (pss_one (ps_ret (pe_k C_worth_at (hr.mono (by decide)) rfl (pa_cons (pv 0) (pa_cons (pv 1) pa_nil))))))
/-! is_in -/
theorem sc_is_in : FnScope ["poly", "many", "powers", "count"] ["poly", "many"] (defScope s_is_in) := ⟨rfl, rfl, rfl, by decide +kernel, rfl, by decide +kernel, by decide +kernel⟩
def t_is_in (P : Program) (w : World) (K : PySem.W.Frag) : TS := (tRet (tCB (rAll K) (tCons (tLc (iTup K (tFld K (tVar 0) "terms")) (gTup K 2 (gCons (gName 2) (gCons (gName 3) gNil))) tYes (tOp (rEqT K) (L2.tSl (rSlA K) (tVar 2) (tPart (tVar 1)) tNoPart) (L2.tSl (rSlA K) (tC (.ref (He.ga K "NO_POWERS"))) (tPart (tVar 1)) tNoPart)) [2, 3]) tNil)))
theorem w_is_in {P : Program} {w : World} {K : PySem.W.Frag} {mg : Str → Option Value} {base : Heap} (T : Tp K mg) {f : Addr} {cdv : Value} {A : Around} {outer : List Env} {s : Shared} {H : Hp} {E : XK} (hr : Room 0 (A.deeper (envOfC "is_in" (defScope s_is_in) s.heap.objs.size f cdv))) :
  PSs (cxOf CX0 P w K mg base ["poly", "many", "powers", "count"] "is_in" (defScope s_is_in) f cdv A outer s H E).nox (defBody s_is_in) (t_is_in P w K) := by
  have nd := sc_is_in.nd
  have hu0 := hr.u0
  have hu1 := hr.u1
  have hu64 := hr.units
  have hu66 := hr.u66
  exact (pss_one (ps_ret (pe_callB (cr_all rfl) rfl T.n_all PyProof.Rows.boot_all (pa_cons (pe_lc (own := [("powers", 2), ("count", 3)]) rfl nd (pi_tup (pe_fld (pv 0) rfl)) (blkOk_by (by kernel_rfl)) (fun _ _ _ _ _ => (pg_tup rfl (pgs_cons (pg_name (i := 2) nd rfl (by first | exact .inl rfl | exact .inr rfl)) (pgs_cons (pg_name (i := 3) nd rfl (by first | exact .inl rfl | exact .inr rfl)) pgs_nil)))) (fun _ _ _ _ _ => pts_nil) (fun _ _ _ _ _ => (pe_cmpR (op_eqT hu64) (pe_slice sl_tupA (pv 2) (po_some (pv 1)) po_none) (pe_slice sl_tupA (pe_glob rfl (T.glo_NO_POWERS) rfl) (po_some (pv 1)) po_none) (nomark _)))) pa_nil))))
/-! is_stretch -/
theorem sc_is_stretch : FnScope ["thing"] ["thing"] (defScope s_is_stretch) := ⟨rfl, rfl, rfl, by decide +kernel, rfl, by decide +kernel, by decide +kernel⟩
def t_is_stretch (P : Program) (w : World) (K : PySem.W.Frag) (p_is_below : Sp) (p_is_fraction : Sp) : TS := (tSeq (tIfS (tOr (tNot (tB (tCB (rIsi K) (tCons (tVar 0) (tCons (tC (.ty "tuple")) tNil))))) (tOr (tTest (tOp rNe (tCB (fun xs H Q => ∃ p ys, xs = [.ref p] ∧ (SqL K H p ys ∨ SqT K H p ys) ∧ Q (.int ys.length) H) (tCons (tVar 0) tNil)) (tC (.int 2)))) (tOr (tNot (tB (tCall p_is_fraction [] E0 (tCons (tOp (rIxT K) (tVar 0) (tC (.int 0))) tNil)))) (tNot (tB (tCall p_is_fraction [] E0 (tCons (tOp (rIxT K) (tVar 0) (tC (.int 1))) tNil))))))) (tRet (tC (.bl false))) tNext)
    (tRet (tCall p_is_below [] E0 (tCons (tOp (rIxT K) (tVar 0) (tC (.int 0))) (tCons (tOp (rIxT K) (tVar 0) (tC (.int 1))) tNil)))))
theorem w_is_stretch {P : Program} {w : World} {K : PySem.W.Frag} {mg : Str → Option Value} {base : Heap} {p_is_below : Sp} {p_is_fraction : Sp} (T : Tp K mg) (C_is_below : Cal P w K mg base 1 "is_below" p_is_below) (C_is_fraction : Cal P w K mg base 2 "is_fraction" p_is_fraction) {f : Addr} {cdv : Value} {A : Around} {outer : List Env} {s : Shared} {H : Hp} {E : XK} (hr : Room 2 (A.deeper (envOfC "is_stretch" (defScope s_is_stretch) s.heap.objs.size f cdv))) :
  PSs (cxOf CX0 P w K mg base ["thing"] "is_stretch" (defScope s_is_stretch) f cdv A outer s H E).nox (defBody s_is_stretch) (t_is_stretch P w K p_is_below p_is_fraction) := by
  have nd := sc_is_stretch.nd
  have hu0 := hr.u0
  have hu1 := hr.u1
  have hu64 := hr.units
  have hu66 := hr.u66
  exact (pss_cons (ps_if (PW.pt (pw_or (pt_not (pt_val (pe_callB call_isi rfl T.n_isinstance PyProof.Rows.boot_isinstance (pa_cons (pv 0) (pa_cons (pe_bltn rfl T.n_tuple PyProof.Rows.boot_tuple rfl) pa_nil))))) (pw_or (pt_cmpR op_ne (pe_callB call_len_seq rfl T.n_len PySem.boot_len (pa_cons (pv 0) pa_nil)) pe_int (nomark _)) (pw_or (pt_not (pt_val (pe_k C_is_fraction (hr.mono (by decide)) rfl (pa_cons (pe_ix ix_tup (pv 0) pe_int (fun _ _ => rfl)) pa_nil)))) (pw_or1 (pt_not (pt_val (pe_k C_is_fraction (hr.mono (by decide)) rfl (pa_cons (pe_ix ix_tup (pv 0) pe_int (fun _ _ => rfl)) pa_nil))))))))) (pss_one (ps_ret pe_bl)) pss_nil)
    (pss_one (ps_ret (pe_k C_is_below (hr.mono (by decide)) rfl (pa_cons (pe_ix ix_tup (pv 0) pe_int (fun _ _ => rfl)) (pa_cons (pe_ix ix_tup (pv 0) pe_int (fun _ _ => rfl)) pa_nil))))))
/-! is_box -/
theorem sc_is_box : FnScope ["thing", "one"] ["thing"] (defScope s_is_box) := ⟨rfl, rfl, rfl, by decide +kernel, rfl, by decide +kernel, by decide +kernel⟩
def t_is_box (P : Program) (w : World) (K : PySem.W.Frag) (p_is_stretch : Sp) : TS := (tRet (tAndV (tCB (rIsi K) (tCons (tVar 0) (tCons (tC (.ty "tuple")) tNil))) (tAndV (tOp (rI0 fun i j => .bl (decide (i ≤ j))) (tCB (fun xs H Q => ∃ p ys, xs = [.ref p] ∧ (SqL K H p ys ∨ SqT K H p ys) ∧ Q (.int ys.length) H) (tCons (tVar 0) tNil)) (tC (.int 3))) (tCB (rAll K) (tCons (tLc (iTup K (tVar 0)) (gName 1) tYes (tCall p_is_stretch [] E0 (tCons (tVar 1) tNil)) [1]) tNil)))))
theorem w_is_box {P : Program} {w : World} {K : PySem.W.Frag} {mg : Str → Option Value} {base : Heap} {p_is_stretch : Sp} (T : Tp K mg) (C_is_stretch : Cal P w K mg base 3 "is_stretch" p_is_stretch) {f : Addr} {cdv : Value} {A : Around} {outer : List Env} {s : Shared} {H : Hp} {E : XK} (hr : Room 3 (A.deeper (envOfC "is_box" (defScope s_is_box) s.heap.objs.size f cdv))) :
  PSs (cxOf CX0 P w K mg base ["thing", "one"] "is_box" (defScope s_is_box) f cdv A outer s H E).nox (defBody s_is_box) (t_is_box P w K p_is_stretch) := by
  have nd := sc_is_box.nd
  have hu0 := hr.u0
  have hu1 := hr.u1
  have hu64 := hr.units
  have hu66 := hr.u66
  exact (pss_one (ps_ret (pe_and (pe_callB call_isi rfl T.n_isinstance PyProof.Rows.boot_isinstance (pa_cons (pv 0) (pa_cons (pe_bltn rfl T.n_tuple PyProof.Rows.boot_tuple rfl) pa_nil))) (pe_and (pe_cmpR op_le (pe_callB call_len_seq rfl T.n_len PySem.boot_len (pa_cons (pv 0) pa_nil)) (pe_gc rfl T.int_MOST_STRETCHES) (nomark _)) (pe_one (pe_callB (cr_all rfl) rfl T.n_all PyProof.Rows.boot_all (pa_cons (pe_lc (own := [("one", 1)]) rfl nd (pi_tup (pv 0)) (blkOk_by (by kernel_rfl)) (fun _ _ _ _ _ => (pg_name (i := 1) nd rfl (by first | exact .inl rfl | exact .inr rfl))) (fun _ _ _ _ _ => pts_nil) (fun _ _ _ _ _ => (pe_k C_is_stretch (hr.mono (by decide)) rfl (pa_cons (pv 1) pa_nil)))) pa_nil)))))))
/-! check_box -/
theorem sc_check_box : FnScope ["poly", "box"] ["poly", "box"] (defScope s_check_box) := ⟨rfl, rfl, rfl, by decide +kernel, rfl, by decide +kernel, by decide +kernel⟩
def t_check_box (P : Program) (w : World) (K : PySem.W.Frag) (p_is_in : Sp) (p_is_box : Sp) : TS := (tIfS (tOr (tNot (tB (tCall p_is_box [] E0 (tCons (tVar 1) tNil)))) (tNot (tB (tCall p_is_in [] E0 (tCons (tVar 0) (tCons (tCB (fun xs H Q => ∃ p ys, xs = [.ref p] ∧ (SqL K H p ys ∨ SqT K H p ys) ∧ Q (.int ys.length) H) (tCons (tVar 1) tNil)) tNil)))))) tNever tNext)
theorem w_check_box {P : Program} {w : World} {K : PySem.W.Frag} {mg : Str → Option Value} {base : Heap} {p_is_in : Sp} {p_is_box : Sp} (T : Tp K mg) (C_is_in : Cal P w K mg base 1 "is_in" p_is_in) (C_is_box : Cal P w K mg base 4 "is_box" p_is_box) {f : Addr} {cdv : Value} {A : Around} {outer : List Env} {s : Shared} {H : Hp} {E : XK} (hr : Room 4 (A.deeper (envOfC "check_box" (defScope s_check_box) s.heap.objs.size f cdv))) :
  PSs (cxOf CX0 P w K mg base ["poly", "box"] "check_box" (defScope s_check_box) f cdv A outer s H E).nox (defBody s_check_box) (t_check_box P w K p_is_in p_is_box) := by
  have nd := sc_check_box.nd
  have hu0 := hr.u0
  have hu1 := hr.u1
  have hu64 := hr.units
  have hu66 := hr.u66
  exact (pss_one (ps_if (PW.pt (pw_or (pt_not (pt_val (pe_k C_is_box (hr.mono (by decide)) rfl (pa_cons (pv 1) pa_nil)))) (pw_or1 (pt_not (pt_val (pe_k C_is_in (hr.mono (by decide)) rfl (pa_cons (pv 0) (pa_cons (pe_callB call_len_seq rfl T.n_len PySem.boot_len (pa_cons (pv 1) pa_nil)) pa_nil)))))))) (pss_one ps_never) pss_nil))
/-! product_to -/
theorem sc_product_to : FnScope ["many", "found", "by"] ["many"] (defScope s_product_to) := ⟨rfl, rfl, rfl, by decide +kernel, rfl, by decide +kernel, by decide +kernel⟩
def t_product_to (P : Program) (w : World) (K : PySem.W.Frag) : TS := (tSeq (tAsg (tC (.int 1)) (gName 1))
    (tSeq (tFor (iRng2 (tCons (tC (.int 2)) (tCons (tOp (rI0 fun i j => .int (i + j)) (tVar 0) (tC (.int 1))) tNil))) (gName 2) (tAug 1 (tVar 2) (rI CMulW fun i j => .int (i * j))))
    (tRet (tVar 1))))
theorem w_product_to {P : Program} {w : World} {K : PySem.W.Frag} {mg : Str → Option Value} {base : Heap} (T : Tp K mg) {f : Addr} {cdv : Value} {A : Around} {outer : List Env} {s : Shared} {H : Hp} {E : XK} (hr : Room 0 (A.deeper (envOfC "product_to" (defScope s_product_to) s.heap.objs.size f cdv))) :
  PSs (cxOf CX0 P w K mg base ["many", "found", "by"] "product_to" (defScope s_product_to) f cdv A outer s H E).nox (defBody s_product_to) (t_product_to P w K) := by
  have nd := sc_product_to.nd
  have hu0 := hr.u0
  have hu1 := hr.u1
  have hu64 := hr.units
  have hu66 := hr.u66
  exact (pss_cons (ps_set (i := 1) nd rfl (by first | exact .inl rfl | exact .inr rfl) pe_int)
    (pss_cons (ps_for PassesOwn.never rfl (pi_range2 rfl T.n_range (pa_cons pe_int (pa_cons (pe_op op_add (pv 0) pe_int) pa_nil))) (pg_name (i := 2) nd rfl (by first | exact .inl rfl | exact .inr rfl)) (pss_one (ps_aug (i := 1) nd rfl (by first | exact .inl rfl | exact .inr rfl) (pv 2) ip_mulW)))
    (pss_one (ps_ret (pv 1)))))
/-! moved -/
theorem sc_moved : FnScope ["poly", "k", "stretch", "low", "by", "high", "other", "common", "begin", "line", "bottom", "found", "factor", "counts", "count"] ["poly", "k", "stretch"] (defScope s_moved) := ⟨rfl, rfl, rfl, by decide +kernel, rfl, by decide +kernel, by decide +kernel⟩
def t_moved (P : Program) (w : World) (K : PySem.W.Frag) (p_times : Sp) (p_sum_with : Sp) (p_counts_by : Sp) (p_constant : Sp) (p_unknown_power : Sp) (p_plus : Sp) (p_divisor_of : Sp) : TS := (tSeq (tAsg (tVar 2) (gTup K 2 (gCons (gTup K 2 (gCons (gName 3) (gCons (gName 4) gNil))) (gCons (gTup K 2 (gCons (gName 5) (gCons (gName 6) gNil))) gNil))))
    (tSeq (tAsg (tCall p_divisor_of [] E0 (tCons (tVar 4) (tCons (tVar 6) tNil))) (gName 7))
    (tSeq (tAsg (tOp (rI CMulW fun i j => .int (i * j)) (tVar 3) (tOp (rI CDivW fun i j => .int (i / j)) (tVar 6) (tVar 7))) (gName 8))
    (tSeq (tAsg (tCall p_plus [] E0 (tCons (tCall p_constant [] E0 (tCons (tVar 8) tNil)) (tCons (tCall p_times [] E0 (tCons (tCall p_constant [] E0 (tCons (tOp (rI0 fun i j => .int (i - j)) (tOp (rI CMulW fun i j => .int (i * j)) (tVar 5) (tOp (rI CDivW fun i j => .int (i / j)) (tVar 4) (tVar 7))) (tVar 8)) tNil)) (tCons (tCall p_unknown_power [] E0 (tCons (tVar 1) (tCons (tC (.int 1)) tNil))) tNil))) tNil))) (gName 9))
    (tSeq (tAsg (tOp (rI CMulW fun i j => .int (i * j)) (tVar 4) (tOp (rI CDivW fun i j => .int (i / j)) (tVar 6) (tVar 7))) (gName 10))
    (tSeq (tPar 11 12 (tCons (tCall p_constant [] E0 (tCons (tC (.int 0)) tNil)) (tCons (tC (.int 1)) tNil)))
    (tSeq (tAsg (tCall p_counts_by [] E0 (tCons (tVar 0) (tCons (tVar 1) tNil))) (gName 13))
    (tSeq (tFor (iList K (tRevL K (tVar 13))) (gName 14) (tSeq (tAsg (tCall p_sum_with [] E0 (tCons (tCall p_times [] E0 (tCons (tVar 11) (tCons (tVar 9) tNil))) (tCons (tVar 14) (tCons (tVar 12) tNil)))) (gName 11))
    (tAug 12 (tVar 10) (rI CMulW fun i j => .int (i * j)))))
    (tRet (tTup (tCons (tVar 11) (tCons (tOp (rI CDivW fun i j => .int (i / j)) (tVar 12) (tVar 10)) tNil))))))))))))
theorem w_moved {P : Program} {w : World} {K : PySem.W.Frag} {mg : Str → Option Value} {base : Heap} {p_times : Sp} {p_sum_with : Sp} {p_counts_by : Sp} {p_constant : Sp} {p_unknown_power : Sp} {p_plus : Sp} {p_divisor_of : Sp} (T : Tp K mg) (C_times : Cal P w K mg base 4 "times" p_times) (C_sum_with : Cal P w K mg base 4 "sum_with" p_sum_with) (C_counts_by : Cal P w K mg base 4 "counts_by" p_counts_by) (C_constant : Cal P w K mg base 4 "constant" p_constant) (C_unknown_power : Cal P w K mg base 4 "unknown_power" p_unknown_power) (C_plus : Cal P w K mg base 5 "plus" p_plus) (C_divisor_of : Cal P w K mg base 1 "divisor_of" p_divisor_of) {f : Addr} {cdv : Value} {A : Around} {outer : List Env} {s : Shared} {H : Hp} {E : XK} (hr : Room 5 (A.deeper (envOfC "moved" (defScope s_moved) s.heap.objs.size f cdv))) :
  PSs (cxOf CX0 P w K mg base ["poly", "k", "stretch", "low", "by", "high", "other", "common", "begin", "line", "bottom", "found", "factor", "counts", "count"] "moved" (defScope s_moved) f cdv A outer s H E).nox (defBody s_moved) (t_moved P w K p_times p_sum_with p_counts_by p_constant p_unknown_power p_plus p_divisor_of) := by
  have nd := sc_moved.nd
  have hu0 := hr.u0
  have hu1 := hr.u1
  have hu64 := hr.units
  have hu66 := hr.u66
  exact (pss_cons (ps_asg (pv 2) (pg_tup rfl (pgs_cons (pg_tup rfl (pgs_cons (pg_name (i := 3) nd rfl (by first | exact .inl rfl | exact .inr rfl)) (pgs_cons (pg_name (i := 4) nd rfl (by first | exact .inl rfl | exact .inr rfl)) pgs_nil))) (pgs_cons (pg_tup rfl (pgs_cons (pg_name (i := 5) nd rfl (by first | exact .inl rfl | exact .inr rfl)) (pgs_cons (pg_name (i := 6) nd rfl (by first | exact .inl rfl | exact .inr rfl)) pgs_nil))) pgs_nil))))
    (pss_cons (ps_set (i := 7) nd rfl (by first | exact .inl rfl | exact .inr rfl) (pe_k C_divisor_of (hr.mono (by decide)) rfl (pa_cons (pv 4) (pa_cons (pv 6) pa_nil))))
    (pss_cons (ps_set (i := 8) nd rfl (by first | exact .inl rfl | exact .inr rfl) (pe_op op_mulW (pv 3) (pe_op op_fdivW (pv 6) (pv 7))))
    (pss_cons (ps_set (i := 9) nd rfl (by first | exact .inl rfl | exact .inr rfl) (pe_k C_plus (hr.mono (by decide)) rfl (pa_cons (pe_k C_constant (hr.mono (by decide)) rfl (pa_cons (pv 8) pa_nil)) (pa_cons (pe_k C_times (hr.mono (by decide)) rfl (pa_cons (pe_k C_constant (hr.mono (by decide)) rfl (pa_cons (pe_op op_sub (pe_op op_mulW (pv 5) (pe_op op_fdivW (pv 4) (pv 7))) (pv 8)) pa_nil)) (pa_cons (pe_k C_unknown_power (hr.mono (by decide)) rfl (pa_cons (pv 1) (pa_cons pe_int pa_nil))) pa_nil))) pa_nil))))
    (pss_cons (ps_set (i := 10) nd rfl (by first | exact .inl rfl | exact .inr rfl) (pe_op op_mulW (pv 4) (pe_op op_fdivW (pv 6) (pv 7))))
    (pss_cons (ps_par (i := 11) (j := 12) rfl nd rfl rfl (by decide) rfl rfl (pa_cons (pe_k C_constant (hr.mono (by decide)) rfl (pa_cons pe_int pa_nil)) (pa_cons pe_int pa_nil)) rfl)
    (pss_cons (ps_set (i := 13) nd rfl (by first | exact .inl rfl | exact .inr rfl) (pe_k C_counts_by (hr.mono (by decide)) rfl (pa_cons (pv 0) (pa_cons (pv 1) pa_nil))))
    (pss_cons (ps_for PassesOwn.never rfl (pi_list (pe_revL (pv 13))) (pg_name (i := 14) nd rfl (by first | exact .inl rfl | exact .inr rfl)) (pss_cons (ps_set (i := 11) nd rfl (by first | exact .inl rfl | exact .inr rfl) (pe_k C_sum_with (hr.mono (by decide)) rfl (pa_cons (pe_k C_times (hr.mono (by decide)) rfl (pa_cons (pv 11) (pa_cons (pv 9) pa_nil))) (pa_cons (pv 14) (pa_cons (pv 12) pa_nil)))))
    (pss_one (ps_aug (i := 12) nd rfl (by first | exact .inl rfl | exact .inr rfl) (pv 10) ip_mulW))))
    (pss_one (ps_ret (pe_tup (pa_cons (pv 11) (pa_cons (pe_op op_fdivW (pv 12) (pv 10)) pa_nil)))))))))))))
/-! told_by_counts -/
theorem sc_told_by_counts : FnScope ["poly", "k", "many", "counts", "found", "i", "here", "j"] ["poly", "k"] (defScope s_told_by_counts) := ⟨rfl, rfl, rfl, by decide +kernel, rfl, by decide +kernel, by decide +kernel⟩
def t_told_by_counts (P : Program) (w : World) (K : PySem.W.Frag) (p_unknown_power : Sp) (p_times : Sp) (p_plus : Sp) (p_product_to : Sp) (p_sum_with : Sp) (p_constant : Sp) (p_counts_by : Sp) (p_degree_by : Sp) : TS := (tSeq (tAsg (tCall p_degree_by [] E0 (tCons (tVar 0) (tCons (tVar 1) tNil))) (gName 2))
    (tSeq (tAsg (tCall p_counts_by [] E0 (tCons (tVar 0) (tCons (tVar 1) tNil))) (gName 3))
    (tSeq (tAsg (tCall p_constant [] E0 (tCons (tC (.int 0)) tNil)) (gName 4))
    (tSeq (tFor (iRng1 (tCons (tOp (rI0 fun i j => .int (i + j)) (tVar 2) (tC (.int 1))) tNil)) (gName 5) (tSeq (tAsg (tCall p_constant [] E0 (tCons (tC (.int 0)) tNil)) (gName 6))
    (tSeq (tFor (iRng1 (tCons (tOp (rI0 fun i j => .int (i + j)) (tVar 5) (tC (.int 1))) tNil)) (gName 7) (tAsg (tCall p_sum_with [] E0 (tCons (tVar 6) (tCons (tOp (rIxL K) (tVar 3) (tVar 7)) (tCons (tOp (rI CMulW fun i j => .int (i * j)) (tOp (rI CDivW fun i j => .int (i / j)) (tCall p_product_to [] E0 (tCons (tVar 5) tNil)) (tCall p_product_to [] E0 (tCons (tOp (rI0 fun i j => .int (i - j)) (tVar 5) (tVar 7)) tNil))) (tCall p_product_to [] E0 (tCons (tOp (rI0 fun i j => .int (i - j)) (tVar 2) (tVar 7)) tNil))) tNil)))) (gName 6)))
    (tAsg (tCall p_plus [] E0 (tCons (tVar 4) (tCons (tCall p_times [] E0 (tCons (tVar 6) (tCons (tCall p_unknown_power [] E0 (tCons (tVar 1) (tCons (tVar 5) tNil))) tNil))) tNil))) (gName 4)))))
    (tRet (tVar 4))))))
theorem w_told_by_counts {P : Program} {w : World} {K : PySem.W.Frag} {mg : Str → Option Value} {base : Heap} {p_unknown_power : Sp} {p_times : Sp} {p_plus : Sp} {p_product_to : Sp} {p_sum_with : Sp} {p_constant : Sp} {p_counts_by : Sp} {p_degree_by : Sp} (T : Tp K mg) (C_unknown_power : Cal P w K mg base 4 "unknown_power" p_unknown_power) (C_times : Cal P w K mg base 4 "times" p_times) (C_plus : Cal P w K mg base 5 "plus" p_plus) (C_product_to : Cal P w K mg base 1 "product_to" p_product_to) (C_sum_with : Cal P w K mg base 4 "sum_with" p_sum_with) (C_constant : Cal P w K mg base 4 "constant" p_constant) (C_counts_by : Cal P w K mg base 4 "counts_by" p_counts_by) (C_degree_by : Cal P w K mg base 1 "degree_by" p_degree_by) {f : Addr} {cdv : Value} {A : Around} {outer : List Env} {s : Shared} {H : Hp} {E : XK} (hr : Room 5 (A.deeper (envOfC "told_by_counts" (defScope s_told_by_counts) s.heap.objs.size f cdv))) :
  PSs (cxOf CX0 P w K mg base ["poly", "k", "many", "counts", "found", "i", "here", "j"] "told_by_counts" (defScope s_told_by_counts) f cdv A outer s H E).nox (defBody s_told_by_counts) (t_told_by_counts P w K p_unknown_power p_times p_plus p_product_to p_sum_with p_constant p_counts_by p_degree_by) := by
  have nd := sc_told_by_counts.nd
  have hu0 := hr.u0
  have hu1 := hr.u1
  have hu64 := hr.units
  have hu66 := hr.u66
  exact (pss_cons (ps_set (i := 2) nd rfl (by first | exact .inl rfl | exact .inr rfl) (pe_k C_degree_by (hr.mono (by decide)) rfl (pa_cons (pv 0) (pa_cons (pv 1) pa_nil))))
    (pss_cons (ps_set (i := 3) nd rfl (by first | exact .inl rfl | exact .inr rfl) (pe_k C_counts_by (hr.mono (by decide)) rfl (pa_cons (pv 0) (pa_cons (pv 1) pa_nil))))
    (pss_cons (ps_set (i := 4) nd rfl (by first | exact .inl rfl | exact .inr rfl) (pe_k C_constant (hr.mono (by decide)) rfl (pa_cons pe_int pa_nil)))
    (pss_cons (ps_for PassesOwn.never rfl (pi_range1 rfl T.n_range (pa_cons (pe_op op_add (pv 2) pe_int) pa_nil)) (pg_name (i := 5) nd rfl (by first | exact .inl rfl | exact .inr rfl)) (pss_cons (ps_set (i := 6) nd rfl (by first | exact .inl rfl | exact .inr rfl) (pe_k C_constant (hr.mono (by decide)) rfl (pa_cons pe_int pa_nil)))
    (pss_cons (ps_for PassesOwn.never rfl (pi_range1 rfl T.n_range (pa_cons (pe_op op_add (pv 5) pe_int) pa_nil)) (pg_name (i := 7) nd rfl (by first | exact .inl rfl | exact .inr rfl)) (pss_one (ps_set (i := 6) nd rfl (by first | exact .inl rfl | exact .inr rfl) (pe_k C_sum_with (hr.mono (by decide)) rfl (pa_cons (pv 6) (pa_cons (pe_ix ix_list (pv 3) (pv 7) (fun _ _ => rfl)) (pa_cons (pe_op op_mulW (pe_op op_fdivW (pe_k C_product_to (hr.mono (by decide)) rfl (pa_cons (pv 5) pa_nil)) (pe_k C_product_to (hr.mono (by decide)) rfl (pa_cons (pe_op op_sub (pv 5) (pv 7)) pa_nil))) (pe_k C_product_to (hr.mono (by decide)) rfl (pa_cons (pe_op op_sub (pv 2) (pv 7)) pa_nil))) pa_nil)))))))
    (pss_one (ps_set (i := 4) nd rfl (by first | exact .inl rfl | exact .inr rfl) (pe_k C_plus (hr.mono (by decide)) rfl (pa_cons (pv 4) (pa_cons (pe_k C_times (hr.mono (by decide)) rfl (pa_cons (pv 6) (pa_cons (pe_k C_unknown_power (hr.mono (by decide)) rfl (pa_cons (pv 1) (pa_cons (pv 5) pa_nil))) pa_nil))) pa_nil))))))))
    (pss_one (ps_ret (pv 4)))))))
/-! whole_counts -/
theorem sc_whole_counts : FnScope ["poly", "box", "factor", "k", "stretch", "by"] ["poly", "box"] (defScope s_whole_counts) := ⟨rfl, rfl, rfl, by decide +kernel, rfl, by decide +kernel, by decide +kernel⟩
def t_whole_counts (P : Program) (w : World) (K : PySem.W.Frag) (p_told_by_counts : Sp) (p_degree_by : Sp) (p_product_to : Sp) (p_moved : Sp) : TS := (tSeq (tAsg (tC (.int 1)) (gName 2))
    (tSeq (tFor (iEnumT K (tCons (tVar 1) tNil)) (gTup K 2 (gCons (gName 3) (gCons (gName 4) gNil))) (tSeq (tAsg (tCall p_moved [] E0 (tCons (tVar 0) (tCons (tVar 3) (tCons (tVar 4) tNil)))) (gTup K 2 (gCons (gName 0) (gCons (gName 5) gNil))))
    (tSeq (tAug 2 (tOp (rI CMulW fun i j => .int (i * j)) (tVar 5) (tCall p_product_to [] E0 (tCons (tCall p_degree_by [] E0 (tCons (tVar 0) (tCons (tVar 3) tNil))) tNil))) (rI CMulW fun i j => .int (i * j)))
    (tAsg (tCall p_told_by_counts [] E0 (tCons (tVar 0) (tCons (tVar 3) tNil))) (gName 0)))))
    (tRet (tTup (tCons (tVar 0) (tCons (tVar 2) tNil))))))
theorem w_whole_counts {P : Program} {w : World} {K : PySem.W.Frag} {mg : Str → Option Value} {base : Heap} {p_told_by_counts : Sp} {p_degree_by : Sp} {p_product_to : Sp} {p_moved : Sp} (T : Tp K mg) (C_told_by_counts : Cal P w K mg base 6 "told_by_counts" p_told_by_counts) (C_degree_by : Cal P w K mg base 1 "degree_by" p_degree_by) (C_product_to : Cal P w K mg base 1 "product_to" p_product_to) (C_moved : Cal P w K mg base 6 "moved" p_moved) {f : Addr} {cdv : Value} {A : Around} {outer : List Env} {s : Shared} {H : Hp} {E : XK} (hr : Room 6 (A.deeper (envOfC "whole_counts" (defScope s_whole_counts) s.heap.objs.size f cdv))) :
  PSs (cxOf CX0 P w K mg base ["poly", "box", "factor", "k", "stretch", "by"] "whole_counts" (defScope s_whole_counts) f cdv A outer s H E).nox (defBody s_whole_counts) (t_whole_counts P w K p_told_by_counts p_degree_by p_product_to p_moved) := by
  have nd := sc_whole_counts.nd
  have hu0 := hr.u0
  have hu1 := hr.u1
  have hu64 := hr.units
  have hu66 := hr.u66
  exact (pss_cons (ps_set (i := 2) nd rfl (by first | exact .inl rfl | exact .inr rfl) pe_int)
    (pss_cons (ps_for PassesOwn.never rfl (pi_enumT rfl T.n_enumerate (pa_cons (pv 1) pa_nil)) (pg_tup rfl (pgs_cons (pg_name (i := 3) nd rfl (by first | exact .inl rfl | exact .inr rfl)) (pgs_cons (pg_name (i := 4) nd rfl (by first | exact .inl rfl | exact .inr rfl)) pgs_nil))) (pss_cons (ps_asg (pe_k C_moved (hr.mono (by decide)) rfl (pa_cons (pv 0) (pa_cons (pv 3) (pa_cons (pv 4) pa_nil)))) (pg_tup rfl (pgs_cons (pg_name (i := 0) nd rfl (by first | exact .inl rfl | exact .inr rfl)) (pgs_cons (pg_name (i := 5) nd rfl (by first | exact .inl rfl | exact .inr rfl)) pgs_nil))))
    (pss_cons (ps_aug (i := 2) nd rfl (by first | exact .inl rfl | exact .inr rfl) (pe_op op_mulW (pv 5) (pe_k C_product_to (hr.mono (by decide)) rfl (pa_cons (pe_k C_degree_by (hr.mono (by decide)) rfl (pa_cons (pv 0) (pa_cons (pv 3) pa_nil))) pa_nil))) ip_mulW)
    (pss_one (ps_set (i := 0) nd rfl (by first | exact .inl rfl | exact .inr rfl) (pe_k C_told_by_counts (hr.mono (by decide)) rfl (pa_cons (pv 0) (pa_cons (pv 3) pa_nil))))))))
    (pss_one (ps_ret (pe_tup (pa_cons (pv 0) (pa_cons (pv 2) pa_nil)))))))
/-! indexes -/
theorem sc_indexes : FnScope ["many", "found", "most", "longer", "index", "here"] ["many"] (defScope s_indexes) := ⟨rfl, rfl, rfl, by decide +kernel, rfl, by decide +kernel, by decide +kernel⟩
def t_indexes (P : Program) (w : World) (K : PySem.W.Frag) : TS := (tSeq (tAsg (tLst (tCons (tTup tNil) tNil)) (gName 1))
    (tSeq (tFor (iList K (tVar 0)) (gName 2) (tSeq (tAsg (tLst tNil) (gName 3))
    (tSeq (tFor (iList K (tVar 1)) (gName 4) (tDrop (tBM K "list" rExtend (tVar 3) (tCons (tLc (iRng1 (tCons (tOp (rI0 fun i j => .int (i + j)) (tVar 2) (tC (.int 1))) tNil)) (gName 5) tYes (tOp (rCatA K) (tVar 4) (tTup (tCons (tVar 5) tNil))) [5]) tNil))))
    (tAsg (tVar 3) (gName 1)))))
    (tRet (tVar 1))))
theorem w_indexes {P : Program} {w : World} {K : PySem.W.Frag} {mg : Str → Option Value} {base : Heap} (T : Tp K mg) {f : Addr} {cdv : Value} {A : Around} {outer : List Env} {s : Shared} {H : Hp} {E : XK} (hr : Room 0 (A.deeper (envOfC "indexes" (defScope s_indexes) s.heap.objs.size f cdv))) :
  PSs (cxOf CX0 P w K mg base ["many", "found", "most", "longer", "index", "here"] "indexes" (defScope s_indexes) f cdv A outer s H E).nox (defBody s_indexes) (t_indexes P w K) := by
  have nd := sc_indexes.nd
  have hu0 := hr.u0
  have hu1 := hr.u1
  have hu64 := hr.units
  have hu66 := hr.u66
  exact (pss_cons (ps_set (i := 1) nd rfl (by first | exact .inl rfl | exact .inr rfl) (pe_lst (pa_cons (pe_tup pa_nil) pa_nil)))
    (pss_cons (ps_for PassesOwn.never rfl (pi_list (pv 0)) (pg_name (i := 2) nd rfl (by first | exact .inl rfl | exact .inr rfl)) (pss_cons (ps_set (i := 3) nd rfl (by first | exact .inl rfl | exact .inr rfl) (pe_lst pa_nil))
    (pss_cons (ps_for PassesOwn.never rfl (pi_list (pv 1)) (pg_name (i := 4) nd rfl (by first | exact .inl rfl | exact .inr rfl)) (pss_one (ps_expr (pe_bm PySem.F.plainAttrs_list PySem.F.slot_list_extend PySem.F.type_list_extend mt_extend (pv 3) (pa_cons (pe_lc (own := [("here", 5)]) rfl nd (pi_range1 rfl T.n_range (pa_cons (pe_op op_add (pv 2) pe_int) pa_nil)) (blkOk_by (by kernel_rfl)) (fun _ _ _ _ _ => (pg_name (i := 5) nd rfl (by first | exact .inl rfl | exact .inr rfl))) (fun _ _ _ _ _ => pts_nil) (fun _ _ _ _ _ => (pe_op op_catA (pv 4) (pe_tup (pa_cons (pv 5) pa_nil))))) pa_nil)))))
    (pss_one (ps_set (i := 1) nd rfl (by first | exact .inl rfl | exact .inr rfl) (pv 3))))))
    (pss_one (ps_ret (pv 1)))))
/-! counts_over -/
theorem sc_counts_over : FnScope ["poly", "box", "told", "factor", "counts", "found", "index", "powers", "count", "k"] ["poly", "box"] (defScope s_counts_over) := ⟨rfl, rfl, rfl, by decide +kernel, rfl, by decide +kernel, by decide +kernel⟩
def t_counts_over (P : Program) (w : World) (K : PySem.W.Frag) (p_degree_by : Sp) (p_indexes : Sp) (p_fraction : Sp) (p_whole_counts : Sp) (p_check_box : Sp) : TS := (tSeq (tDrop (tCall p_check_box [] E0 (tCons (tVar 0) (tCons (tVar 1) tNil))))
    (tSeq (tAsg (tCall p_whole_counts [] E0 (tCons (tVar 0) (tCons (tVar 1) tNil))) (gTup K 2 (gCons (gName 2) (gCons (gName 3) gNil))))
    (tSeq (tAsg (tXDc P w K (iTup K (tFld K (tVar 2) "terms")) (gTup K 2 (gCons (gName 7) (gCons (gName 8) gNil))) tYes (tVar 7) (tVar 8) [7, 8]) (gName 4))
    (tSeq (tAsg (tXNew P w) (gName 5))
    (tSeq (tFor (iList K (tCall p_indexes [] E0 (tCons (tLc (iRng1 (tCons (tCB (fun xs H Q => ∃ p ys, xs = [.ref p] ∧ (SqL K H p ys ∨ SqT K H p ys) ∧ Q (.int ys.length) H) (tCons (tVar 1) tNil)) tNil)) (gName 9) tYes (tCall p_degree_by [] E0 (tCons (tVar 0) (tCons (tVar 9) tNil))) [9]) tNil))) (gName 6) (sXPut P w K (tVar 5) (tVar 6) (tCall p_fraction [] E0 (tCons (tMG (tyX P w) (rXGet2 P w K) (tVar 4) (tCons (tOp (rCatA K) (tVar 6) (L2.tSl (rSlA K) (tC (.ref (He.ga K "NO_POWERS"))) (tPart (tCB (fun xs H Q => ∃ p ys, xs = [.ref p] ∧ (SqL K H p ys ∨ SqT K H p ys) ∧ Q (.int ys.length) H) (tCons (tVar 6) tNil))) tNoPart)) (tCons (tC (.int 0)) tNil))) (tCons (tVar 3) tNil)))))
    (tRet (tVar 5)))))))
theorem w_counts_over {P : Program} {w : World} {K : PySem.W.Frag} {mg : Str → Option Value} {base : Heap} {p_degree_by : Sp} {p_indexes : Sp} {p_fraction : Sp} {p_whole_counts : Sp} {p_check_box : Sp} (T : Tp K mg) (C_degree_by : Cal P w K mg base 1 "degree_by" p_degree_by) (C_indexes : Cal P w K mg base 1 "indexes" p_indexes) (C_fraction : Cal P w K mg base 2 "fraction" p_fraction) (C_whole_counts : Cal P w K mg base 7 "whole_counts" p_whole_counts) (C_check_box : Cal P w K mg base 5 "check_box" p_check_box) {f : Addr} {cdv : Value} {A : Around} {outer : List Env} {s : Shared} {H : Hp} {E : XK} (hr : Room 7 (A.deeper (envOfC "counts_over" (defScope s_counts_over) s.heap.objs.size f cdv))) :
  PSs (cxOf CX0 P w K mg base ["poly", "box", "told", "factor", "counts", "found", "index", "powers", "count", "k"] "counts_over" (defScope s_counts_over) f cdv A outer s H E).nox (defBody s_counts_over) (t_counts_over P w K p_degree_by p_indexes p_fraction p_whole_counts p_check_box) := by
  have nd := sc_counts_over.nd
  have hu0 := hr.u0
  have hu1 := hr.u1
  have hu64 := hr.units
  have hu66 := hr.u66
  exact (pss_cons (ps_expr (pe_k C_check_box (hr.mono (by decide)) rfl (pa_cons (pv 0) (pa_cons (pv 1) pa_nil))))
    (pss_cons (ps_asg (pe_k C_whole_counts (hr.mono (by decide)) rfl (pa_cons (pv 0) (pa_cons (pv 1) pa_nil))) (pg_tup rfl (pgs_cons (pg_name (i := 2) nd rfl (by first | exact .inl rfl | exact .inr rfl)) (pgs_cons (pg_name (i := 3) nd rfl (by first | exact .inl rfl | exact .inr rfl)) pgs_nil))))
    (pss_cons (ps_setXDc (i := 4) (own := [("powers", 7), ("count", 8)]) hu0 rfl nd rfl rfl (sw_trueD rfl rfl rfl (by decide +kernel)) (pi_tup (pe_fld (pv 2) rfl)) (blkOk_by (by kernel_rfl)) (fun _ _ _ _ _ => (pg_tup rfl (pgs_cons (pg_name (i := 7) nd rfl (by first | exact .inl rfl | exact .inr rfl)) (pgs_cons (pg_name (i := 8) nd rfl (by first | exact .inl rfl | exact .inr rfl)) pgs_nil)))) (fun _ _ _ _ _ => pts_nil) (fun _ _ _ _ _ => (pv 7)) (fun _ _ _ _ _ => (pv 8)))
    (pss_cons (ps_set (i := 5) nd rfl (by first | exact .inl rfl | exact .inr rfl) pe_xnew)
    (pss_cons (ps_for PassesOwn.never rfl (pi_list (pe_k C_indexes (hr.mono (by decide)) rfl (pa_cons (pe_lc (own := [("k", 9)]) rfl nd (pi_range1 rfl T.n_range (pa_cons (pe_callB call_len_seq rfl T.n_len PySem.boot_len (pa_cons (pv 1) pa_nil)) pa_nil)) (blkOk_by (by kernel_rfl)) (fun _ _ _ _ _ => (pg_name (i := 9) nd rfl (by first | exact .inl rfl | exact .inr rfl))) (fun _ _ _ _ _ => pts_nil) (fun _ _ _ _ _ => (pe_k C_degree_by (hr.mono (by decide)) rfl (pa_cons (pv 0) (pa_cons (pv 9) pa_nil))))) pa_nil))) (pg_name (i := 6) nd rfl (by first | exact .inl rfl | exact .inr rfl)) (pss_one (ps_xput hu1 (pv 5) (pv 6) (pe_k C_fraction (hr.mono (by decide)) rfl (pa_cons (pe_mG ty_X PySem.F.plainAttrs_dict PySem.F.slot_dict_get PySem.F.type_dict_get (mt_xget2 hu1) (pv 4) (pa_cons (pe_op op_catA (pv 6) (pe_slice sl_tupA (pe_glob rfl (T.glo_NO_POWERS) rfl) (po_some (pe_callB call_len_seq rfl T.n_len PySem.boot_len (pa_cons (pv 6) pa_nil))) po_none)) (pa_cons pe_int pa_nil))) (pa_cons (pv 3) pa_nil))) rfl)))
    (pss_one (ps_ret (pv 5))))))))
/-! _law_hand -/
theorem sc__law_hand : FnScope ["_law_script", "_law_cells", "_law_cell"] ["_law_script"] (defScope s__law_hand) := ⟨rfl, rfl, rfl, by decide +kernel, rfl, by decide +kernel, by decide +kernel⟩
def t__law_hand (P : Program) (w : World) (K : PySem.W.Frag) : TS := (tSeq (tAsg (tLc (iList K (L2.tSl (rSlL K) (tVar 0) tNoPart (tPart (tC (.int 63))))) (gName 2) tYes (tCB (fun xs H Q => ∃ i, xs = [.int i] ∧ Q (.int (if i < 0 then -i else i)) H) (tCons (tCB (fun xs H Q => (∃ i, xs = [.int i] ∧ Q (.int i) H) ∨ ∃ k, xs = [.bl k] ∧ Q (.int (if k then 1 else 0)) H) (tCons (tVar 2) tNil)) tNil)) [2]) (gName 1))
    (tRet (tDisp (((tC (.str (PySem.Str.ofString "cells"))), (tVar 1)) :: (((tC (.str (PySem.Str.ofString "at"))), (tC (.int 0))) :: (((tC (.str (PySem.Str.ofString "left"))), (tC (.int 0))) :: (((tC (.str (PySem.Str.ofString "seed"))), (tOp (rI0 fun i j => .int (i + j)) (tC (.int 40961)) (tCB (fun xs H Q => ∃ p ys, xs = [.ref p] ∧ (SqL K H p ys ∨ SqT K H p ys) ∧ Q (.int ys.length) H) (tCons (tVar 1) tNil)))) :: (((tC (.str (PySem.Str.ofString "turn"))), (tC (.int 0))) :: []))))))))
theorem w__law_hand {P : Program} {w : World} {K : PySem.W.Frag} {mg : Str → Option Value} {base : Heap} (T : Tp K mg) {f : Addr} {cdv : Value} {A : Around} {outer : List Env} {s : Shared} {H : Hp} {E : XK} (hr : Room 0 (A.deeper (envOfC "_law_hand" (defScope s__law_hand) s.heap.objs.size f cdv))) :
  PSs (cxOf CX0 P w K mg base ["_law_script", "_law_cells", "_law_cell"] "_law_hand" (defScope s__law_hand) f cdv A outer s H E).nox (defBody s__law_hand) (t__law_hand P w K) := by
  have nd := sc__law_hand.nd
  have hu0 := hr.u0
  have hu1 := hr.u1
  have hu64 := hr.units
  have hu66 := hr.u66
  exact (pss_cons (ps_setLc (i := 1) (own := [("_law_cell", 2)]) rfl nd rfl rfl (sw_true rfl rfl rfl (by decide +kernel)) (pi_list (pe_slice sl_list (pv 0) po_none (po_some pe_int))) (blkOk_by (by kernel_rfl)) (fun _ _ _ _ _ => (pg_name (i := 2) nd rfl (by first | exact .inl rfl | exact .inr rfl))) (fun _ _ _ _ _ => pts_nil) (fun _ _ _ _ _ => (pe_callB call_abs rfl T.n_abs PyProof.Rows.boot_abs (pa_cons (pe_callTy call_int1 rfl T.n_int PyProof.Rows.boot_int (pa_cons (pv 2) pa_nil)) pa_nil))))
    (pss_one (ps_ret (pe_disp (pps_cons pe_str (pv 1) (pps_cons pe_str pe_int (pps_cons pe_str pe_int (pps_cons pe_str (pe_op op_add pe_int (pe_callB call_len_seq rfl T.n_len PySem.boot_len (pa_cons (pv 1) pa_nil))) (pps_cons pe_str pe_int pps_nil))))) rfl rfl (fun z => by cases z) (by decide)))))
/-! _law_draw -/
theorem sc__law_draw : FnScope ["_law_hand_here", "_law_many", "_law_cell", "_law_digit", "_law_number"] ["_law_hand_here", "_law_many"] (defScope s__law_draw) := ⟨rfl, rfl, rfl, by decide +kernel, rfl, by decide +kernel, by decide +kernel⟩
def t__law_draw (P : Program) (w : World) (K : PySem.W.Frag) : TS := (tSeq (tIfS (tAnd (tTest (tOp rEq (tDGet (tVar 0) (tC (.str (PySem.Str.ofString "left")))) (tC (.int 0)))) (tTest (tOp (rI0 fun i j => .bl (decide (i < j))) (tDGet (tVar 0) (tC (.str (PySem.Str.ofString "at")))) (tCB (fun xs H Q => ∃ p ys, xs = [.ref p] ∧ (SqL K H p ys ∨ SqT K H p ys) ∧ Q (.int ys.length) H) (tCons (tDGet (tVar 0) (tC (.str (PySem.Str.ofString "cells")))) tNil))))) (tSeq (tAsg (tOp (rIxL K) (tDGet (tVar 0) (tC (.str (PySem.Str.ofString "cells")))) (tDGet (tVar 0) (tC (.str (PySem.Str.ofString "at"))))) (gName 2))
    (tSeq (sDPut (tVar 0) (tC (.str (PySem.Str.ofString "at"))) (tOp (rI0 fun i j => .int (i + j)) (tDGet (tVar 0) (tC (.str (PySem.Str.ofString "at")))) (tC (.int 1))))
    (tSeq (sDPut (tVar 0) (tC (.str (PySem.Str.ofString "seed"))) (tOp (rI (fun _ j => 0 < j) fun i j => .int (i % j)) (tCB (fun xs H Q => (∃ i, xs = [.int i] ∧ Q (.int i) H) ∨ ∃ k, xs = [.bl k] ∧ Q (.int (if k then 1 else 0)) H) (tCons (tOp (rI0 fun i j => .int (i + j)) (tOp (rI0 fun i j => .int (i + j)) (tOp (rI CMulW fun i j => .int (i * j)) (tDGet (tVar 0) (tC (.str (PySem.Str.ofString "seed")))) (tC (.int 69621))) (tVar 2)) (tC (.int 11))) tNil)) (tC (.int 2147483629))))
    (sDPut (tVar 0) (tC (.str (PySem.Str.ofString "left"))) (tIf (tTest (tOp (rI0 fun i j => .bl (decide (j ≤ i))) (tVar 2) (tOp (rI CPow fun i j => .int (i ^ j.toNat)) (tC (.int 10)) (tC (.int 18))))) (tVar 2) (tC (.int 0))))))) tNext)
    (tSeq (tIfS (tTest (tOp (rI0 fun i j => .bl (decide (j < i))) (tDGet (tVar 0) (tC (.str (PySem.Str.ofString "left")))) (tC (.int 0)))) (tSeq (tAsg (tOp (rI (fun _ j => 0 < j) fun i j => .int (i % j)) (tCB (fun xs H Q => (∃ i, xs = [.int i] ∧ Q (.int i) H) ∨ ∃ k, xs = [.bl k] ∧ Q (.int (if k then 1 else 0)) H) (tCons (tDGet (tVar 0) (tC (.str (PySem.Str.ofString "left")))) tNil)) (tVar 1)) (gName 3))
    (tSeq (sDPut (tVar 0) (tC (.str (PySem.Str.ofString "left"))) (tOp (rI CDivW fun i j => .int (i / j)) (tDGet (tVar 0) (tC (.str (PySem.Str.ofString "left")))) (tVar 1)))
    (tRet (tVar 3)))) tNext)
    (tSeq (sDPut (tVar 0) (tC (.str (PySem.Str.ofString "turn"))) (tOp (rI0 fun i j => .int (i + j)) (tDGet (tVar 0) (tC (.str (PySem.Str.ofString "turn")))) (tC (.int 1))))
    (tSeq (tAsg (tOp (rI (fun _ j => 0 < j) fun i j => .int (i % j)) (tCB (fun xs H Q => (∃ i, xs = [.int i] ∧ Q (.int i) H) ∨ ∃ k, xs = [.bl k] ∧ Q (.int (if k then 1 else 0)) H) (tCons (tOp (rI CMulW fun i j => .int (i * j)) (tCB (fun xs H Q => (∃ i, xs = [.int i] ∧ Q (.int i) H) ∨ ∃ k, xs = [.bl k] ∧ Q (.int (if k then 1 else 0)) H) (tCons (tOp (rI0 fun i j => .int (i + j)) (tDGet (tVar 0) (tC (.str (PySem.Str.ofString "seed")))) (tOp (rI CMulW fun i j => .int (i * j)) (tC (.int 7927)) (tDGet (tVar 0) (tC (.str (PySem.Str.ofString "turn")))))) tNil)) (tC (.int 48271))) tNil)) (tC (.int 2147483647))) (gName 4))
    (tSeq (tAsg (tOp (rI (fun _ j => 0 < j) fun i j => .int (i % j)) (tCB (fun xs H Q => (∃ i, xs = [.int i] ∧ Q (.int i) H) ∨ ∃ k, xs = [.bl k] ∧ Q (.int (if k then 1 else 0)) H) (tCons (tOp (rI CMulW fun i j => .int (i * j)) (tVar 4) (tOp (rI0 fun i j => .int (i + j)) (tOp (rI CDivW fun i j => .int (i / j)) (tVar 4) (tC (.int 1013))) (tC (.int 69623)))) tNil)) (tC (.int 2147483587))) (gName 4))
    (tSeq (tAsg (tOp (rI (fun _ j => 0 < j) fun i j => .int (i % j)) (tCB (fun xs H Q => (∃ i, xs = [.int i] ∧ Q (.int i) H) ∨ ∃ k, xs = [.bl k] ∧ Q (.int (if k then 1 else 0)) H) (tCons (tOp (rI0 fun i j => .int (i + j)) (tOp (rI CMulW fun i j => .int (i * j)) (tVar 4) (tOp (rI0 fun i j => .int (i + j)) (tOp (rI CDivW fun i j => .int (i / j)) (tVar 4) (tC (.int 2011))) (tC (.int 40693)))) (tDGet (tVar 0) (tC (.str (PySem.Str.ofString "turn"))))) tNil)) (tC (.int 2147483399))) (gName 4))
    (tRet (tOp (rI (fun _ j => 0 < j) fun i j => .int (i % j)) (tCB (fun xs H Q => (∃ i, xs = [.int i] ∧ Q (.int i) H) ∨ ∃ k, xs = [.bl k] ∧ Q (.int (if k then 1 else 0)) H) (tCons (tOp (rI CDivW fun i j => .int (i / j)) (tVar 4) (tC (.int 32))) tNil)) (tVar 1)))))))))
theorem w__law_draw {P : Program} {w : World} {K : PySem.W.Frag} {mg : Str → Option Value} {base : Heap} (T : Tp K mg) {f : Addr} {cdv : Value} {A : Around} {outer : List Env} {s : Shared} {H : Hp} {E : XK} (hr : Room 0 (A.deeper (envOfC "_law_draw" (defScope s__law_draw) s.heap.objs.size f cdv))) :
  PSs (cxOf CX0 P w K mg base ["_law_hand_here", "_law_many", "_law_cell", "_law_digit", "_law_number"] "_law_draw" (defScope s__law_draw) f cdv A outer s H E).nox (defBody s__law_draw) (t__law_draw P w K) := by
  have nd := sc__law_draw.nd
  have hu0 := hr.u0
  have hu1 := hr.u1
  have hu64 := hr.units
  have hu66 := hr.u66
  exact (pss_cons (ps_if (PW.pt (pw_and (pt_cmpR op_eq (pe_dget hu1 (pv 0) pe_str (fun _ _ => rfl)) pe_int (nomark _)) (pw_and1 (pt_cmpR op_lt (pe_dget hu1 (pv 0) pe_str (fun _ _ => rfl)) (pe_callB call_len_seq rfl T.n_len PySem.boot_len (pa_cons (pe_dget hu1 (pv 0) pe_str (fun _ _ => rfl)) pa_nil)) (nomark _))))) (pss_cons (ps_set (i := 2) nd rfl (by first | exact .inl rfl | exact .inr rfl) (pe_ix ix_list (pe_dget hu1 (pv 0) pe_str (fun _ _ => rfl)) (pe_dget hu1 (pv 0) pe_str (fun _ _ => rfl)) (fun _ _ => rfl)))
    (pss_cons (ps_dput hu1 (pv 0) pe_str (pe_op op_add (pe_dget hu1 (pv 0) pe_str (fun _ _ => rfl)) pe_int) rfl)
    (pss_cons (ps_dput hu1 (pv 0) pe_str (pe_op op_mod (pe_callTy call_int1 rfl T.n_int PyProof.Rows.boot_int (pa_cons (pe_op op_add (pe_op op_add (pe_op op_mulW (pe_dget hu1 (pv 0) pe_str (fun _ _ => rfl)) pe_int) (pv 2)) pe_int) pa_nil)) pe_int) rfl)
    (pss_one (ps_dput hu1 (pv 0) pe_str (pe_ifExp (pt_cmpR op_ge (pv 2) (pe_op op_pow pe_int pe_int) (nomark _)) (pv 2) pe_int) rfl))))) pss_nil)
    (pss_cons (ps_if (pt_cmpR op_gt (pe_dget hu1 (pv 0) pe_str (fun _ _ => rfl)) pe_int (nomark _)) (pss_cons (ps_set (i := 3) nd rfl (by first | exact .inl rfl | exact .inr rfl) (pe_op op_mod (pe_callTy call_int1 rfl T.n_int PyProof.Rows.boot_int (pa_cons (pe_dget hu1 (pv 0) pe_str (fun _ _ => rfl)) pa_nil)) (pv 1)))
    (pss_cons (ps_dput hu1 (pv 0) pe_str (pe_op op_fdivW (pe_dget hu1 (pv 0) pe_str (fun _ _ => rfl)) (pv 1)) rfl)
    (pss_one (ps_ret (pv 3))))) pss_nil)
    (pss_cons (ps_dput hu1 (pv 0) pe_str (pe_op op_add (pe_dget hu1 (pv 0) pe_str (fun _ _ => rfl)) pe_int) rfl)
    (pss_cons (ps_set (i := 4) nd rfl (by first | exact .inl rfl | exact .inr rfl) (pe_op op_mod (pe_callTy call_int1 rfl T.n_int PyProof.Rows.boot_int (pa_cons (pe_op op_mulW (pe_callTy call_int1 rfl T.n_int PyProof.Rows.boot_int (pa_cons (pe_op op_add (pe_dget hu1 (pv 0) pe_str (fun _ _ => rfl)) (pe_op op_mulW pe_int (pe_dget hu1 (pv 0) pe_str (fun _ _ => rfl)))) pa_nil)) pe_int) pa_nil)) pe_int))
    (pss_cons (ps_set (i := 4) nd rfl (by first | exact .inl rfl | exact .inr rfl) (pe_op op_mod (pe_callTy call_int1 rfl T.n_int PyProof.Rows.boot_int (pa_cons (pe_op op_mulW (pv 4) (pe_op op_add (pe_op op_fdivW (pv 4) pe_int) pe_int)) pa_nil)) pe_int))
    (pss_cons (ps_set (i := 4) nd rfl (by first | exact .inl rfl | exact .inr rfl) (pe_op op_mod (pe_callTy call_int1 rfl T.n_int PyProof.Rows.boot_int (pa_cons (pe_op op_add (pe_op op_mulW (pv 4) (pe_op op_add (pe_op op_fdivW (pv 4) pe_int) pe_int)) (pe_dget hu1 (pv 0) pe_str (fun _ _ => rfl))) pa_nil)) pe_int))
    (pss_one (ps_ret (pe_op op_mod (pe_callTy call_int1 rfl T.n_int PyProof.Rows.boot_int (pa_cons (pe_op op_fdivW (pv 4) pe_int) pa_nil)) (pv 1))))))))))
/-! _law_any -/
theorem sc__law_any : FnScope ["_law_hand_here", "_law_things"] ["_law_hand_here", "_law_things"] (defScope s__law_any) := ⟨rfl, rfl, rfl, by decide +kernel, rfl, by decide +kernel, by decide +kernel⟩
def t__law_any (P : Program) (w : World) (K : PySem.W.Frag) (p__law_draw : Sp) : TS := (tRet (tOp (rIxL K) (tVar 1) (tCall p__law_draw [] E0 (tCons (tVar 0) (tCons (tCB (fun xs H Q => ∃ p ys, xs = [.ref p] ∧ (SqL K H p ys ∨ SqT K H p ys) ∧ Q (.int ys.length) H) (tCons (tVar 1) tNil)) tNil)))))
theorem w__law_any {P : Program} {w : World} {K : PySem.W.Frag} {mg : Str → Option Value} {base : Heap} {p__law_draw : Sp} (T : Tp K mg) (C__law_draw : Cal P w K mg base 1 "_law_draw" p__law_draw) {f : Addr} {cdv : Value} {A : Around} {outer : List Env} {s : Shared} {H : Hp} {E : XK} (hr : Room 1 (A.deeper (envOfC "_law_any" (defScope s__law_any) s.heap.objs.size f cdv))) :
  PSs (cxOf CX0 P w K mg base ["_law_hand_here", "_law_things"] "_law_any" (defScope s__law_any) f cdv A outer s H E).nox (defBody s__law_any) (t__law_any P w K p__law_draw) := by
  have nd := sc__law_any.nd
  have hu0 := hr.u0
  have hu1 := hr.u1
  have hu64 := hr.units
  have hu66 := hr.u66
  exact (pss_one (ps_ret (pe_ix ix_list (pv 1) (pe_k C__law_draw (hr.mono (by decide)) rfl (pa_cons (pv 0) (pa_cons (pe_callB call_len_seq rfl T.n_len PySem.boot_len (pa_cons (pv 1) pa_nil)) pa_nil))) (fun _ _ => rfl))))
/-! _law_low -/
theorem sc__law_low : FnScope ["_law_top", "_law_bottom", "_law_one", "_law_other"] ["_law_top", "_law_bottom"] (defScope s__law_low) := ⟨rfl, rfl, rfl, by decide +kernel, rfl, by decide +kernel, by decide +kernel⟩
def t__law_low (P : Program) (w : World) (K : PySem.W.Frag) : TS := (tSeq (tPar 2 3 (tCons (tCB (fun xs H Q => ∃ i, xs = [.int i] ∧ Q (.int (if i < 0 then -i else i)) H) (tCons (tVar 0) tNil)) (tCons (tCB (fun xs H Q => ∃ i, xs = [.int i] ∧ Q (.int (if i < 0 then -i else i)) H) (tCons (tVar 1) tNil)) tNil)))
    (tSeq (tWhile (tTest (tOp (rI0 fun i j => .bl (decide (j < i))) (tVar 3) (tC (.int 0)))) (tPar 2 3 (tCons (tVar 3) (tCons (tOp (rI (fun _ j => 0 < j) fun i j => .int (i % j)) (tCB (fun xs H Q => (∃ i, xs = [.int i] ∧ Q (.int i) H) ∨ ∃ k, xs = [.bl k] ∧ Q (.int (if k then 1 else 0)) H) (tCons (tVar 2) tNil)) (tVar 3)) tNil))))
    (tSeq (tAsg (tIf (tTest (tOp (rI0 fun i j => .bl (decide (j < i))) (tVar 1) (tC (.int 0)))) (tVar 2) (tUn (rU fun i => .int (-i)) (tVar 2))) (gName 2))
    (tRet (tTup (tCons (tOp (rI CDivW fun i j => .int (i / j)) (tVar 0) (tVar 2)) (tCons (tOp (rI CDivW fun i j => .int (i / j)) (tVar 1) (tVar 2)) tNil)))))))
theorem w__law_low {P : Program} {w : World} {K : PySem.W.Frag} {mg : Str → Option Value} {base : Heap} (T : Tp K mg) {f : Addr} {cdv : Value} {A : Around} {outer : List Env} {s : Shared} {H : Hp} {E : XK} (hr : Room 0 (A.deeper (envOfC "_law_low" (defScope s__law_low) s.heap.objs.size f cdv))) :
  PSs (cxOf CX0 P w K mg base ["_law_top", "_law_bottom", "_law_one", "_law_other"] "_law_low" (defScope s__law_low) f cdv A outer s H E).nox (defBody s__law_low) (t__law_low P w K) := by
  have nd := sc__law_low.nd
  have hu0 := hr.u0
  have hu1 := hr.u1
  have hu64 := hr.units
  have hu66 := hr.u66
  exact (pss_cons (ps_par (i := 2) (j := 3) rfl nd rfl rfl (by decide) rfl rfl (pa_cons (pe_callB call_abs rfl T.n_abs PyProof.Rows.boot_abs (pa_cons (pv 0) pa_nil)) (pa_cons (pe_callB call_abs rfl T.n_abs PyProof.Rows.boot_abs (pa_cons (pv 1) pa_nil)) pa_nil)) rfl)
    (pss_cons (ps_while PassesOwn.never (pt_cmpR op_gt (pv 3) pe_int (nomark _)) (pss_one (ps_par (i := 2) (j := 3) rfl nd rfl rfl (by decide) rfl rfl (pa_cons (pv 3) (pa_cons (pe_op op_mod (pe_callTy call_int1 rfl T.n_int PyProof.Rows.boot_int (pa_cons (pv 2) pa_nil)) (pv 3)) pa_nil)) rfl)))
    (pss_cons (ps_set (i := 2) nd rfl (by first | exact .inl rfl | exact .inr rfl) (pe_ifExp (pt_cmpR op_gt (pv 1) pe_int (nomark _)) (pv 2) (pe_un un_neg (pv 2))))
    (pss_one (ps_ret (pe_tup (pa_cons (pe_op op_fdivW (pv 0) (pv 2)) (pa_cons (pe_op op_fdivW (pv 1) (pv 2)) pa_nil))))))))
/-! _law_power -/
theorem sc__law_power : FnScope ["_law_number", "_law_many", "_law_found", "_law_turn"] ["_law_number", "_law_many"] (defScope s__law_power) := ⟨rfl, rfl, rfl, by decide +kernel, rfl, by decide +kernel, by decide +kernel⟩
def t__law_power (P : Program) (w : World) (K : PySem.W.Frag) : TS := (tSeq (tAsg (tC (.int 1)) (gName 2))
    (tSeq (tFor (iRng1 (tCons (tVar 1) tNil)) (gName 3) (tAsg (tOp (rI CMulW fun i j => .int (i * j)) (tVar 2) (tVar 0)) (gName 2)))
    (tRet (tVar 2))))
theorem w__law_power {P : Program} {w : World} {K : PySem.W.Frag} {mg : Str → Option Value} {base : Heap} (T : Tp K mg) {f : Addr} {cdv : Value} {A : Around} {outer : List Env} {s : Shared} {H : Hp} {E : XK} (hr : Room 0 (A.deeper (envOfC "_law_power" (defScope s__law_power) s.heap.objs.size f cdv))) :
  PSs (cxOf CX0 P w K mg base ["_law_number", "_law_many", "_law_found", "_law_turn"] "_law_power" (defScope s__law_power) f cdv A outer s H E).nox (defBody s__law_power) (t__law_power P w K) := by
  have nd := sc__law_power.nd
  have hu0 := hr.u0
  have hu1 := hr.u1
  have hu64 := hr.units
  have hu66 := hr.u66
  exact (pss_cons (ps_set (i := 2) nd rfl (by first | exact .inl rfl | exact .inr rfl) pe_int)
    (pss_cons (ps_for PassesOwn.never rfl (pi_range1 rfl T.n_range (pa_cons (pv 1) pa_nil)) (pg_name (i := 3) nd rfl (by first | exact .inl rfl | exact .inr rfl)) (pss_one (ps_set (i := 2) nd rfl (by first | exact .inl rfl | exact .inr rfl) (pe_op op_mulW (pv 2) (pv 0)))))
    (pss_one (ps_ret (pv 2)))))
/-! _law_binomial -/
theorem sc__law_binomial : FnScope ["_law_many", "_law_some", "_law_found", "_law_k"] ["_law_many", "_law_some"] (defScope s__law_binomial) := ⟨rfl, rfl, rfl, by decide +kernel, rfl, by decide +kernel, by decide +kernel⟩
def t__law_binomial (P : Program) (w : World) (K : PySem.W.Frag) : TS := (tSeq (tAsg (tC (.int 1)) (gName 2))
    (tSeq (tFor (iRng1 (tCons (tVar 1) tNil)) (gName 3) (tAsg (tOp (rI CDivW fun i j => .int (i / j)) (tOp (rI CMulW fun i j => .int (i * j)) (tVar 2) (tOp (rI0 fun i j => .int (i - j)) (tVar 0) (tVar 3))) (tOp (rI0 fun i j => .int (i + j)) (tVar 3) (tC (.int 1)))) (gName 2)))
    (tRet (tIf (tTest (tChain (rI0 fun i j => .bl (decide (i ≤ j))) (rI0 fun i j => .bl (decide (i ≤ j))) (tC (.int 0)) (tVar 1) (tVar 0))) (tVar 2) (tC (.int 0))))))
theorem w__law_binomial {P : Program} {w : World} {K : PySem.W.Frag} {mg : Str → Option Value} {base : Heap} (T : Tp K mg) {f : Addr} {cdv : Value} {A : Around} {outer : List Env} {s : Shared} {H : Hp} {E : XK} (hr : Room 0 (A.deeper (envOfC "_law_binomial" (defScope s__law_binomial) s.heap.objs.size f cdv))) :
  PSs (cxOf CX0 P w K mg base ["_law_many", "_law_some", "_law_found", "_law_k"] "_law_binomial" (defScope s__law_binomial) f cdv A outer s H E).nox (defBody s__law_binomial) (t__law_binomial P w K) := by
  have nd := sc__law_binomial.nd
  have hu0 := hr.u0
  have hu1 := hr.u1
  have hu64 := hr.units
  have hu66 := hr.u66
  exact (pss_cons (ps_set (i := 2) nd rfl (by first | exact .inl rfl | exact .inr rfl) pe_int)
    (pss_cons (ps_for PassesOwn.never rfl (pi_range1 rfl T.n_range (pa_cons (pv 1) pa_nil)) (pg_name (i := 3) nd rfl (by first | exact .inl rfl | exact .inr rfl)) (pss_one (ps_set (i := 2) nd rfl (by first | exact .inl rfl | exact .inr rfl) (pe_op op_fdivW (pe_op op_mulW (pv 2) (pe_op op_sub (pv 0) (pv 3))) (pe_op op_add (pv 3) pe_int)))))
    (pss_one (ps_ret (pe_ifExp (pt_chain op_le op_le pe_int (pv 1) (pv 0)) (pv 2) pe_int)))))
/-! _law_poly -/
theorem sc__law_poly : FnScope ["_law_parts_here", "_law_powers"] ["_law_parts_here"] (defScope s__law_poly) := ⟨rfl, rfl, rfl, by decide +kernel, rfl, by decide +kernel, by decide +kernel⟩
def t__law_poly (P : Program) (w : World) (K : PySem.W.Frag) (p_Poly_init : Sp) : TS := (tRet (tMake (He.ga K "Poly") p_Poly_init [] E0 (tCons (tCB (fun xs H Q => ∃ p ys, xs = [.ref p] ∧ ((SqL K H p ys ∧ ∀ l, H l = none → Q (.ref l) (upd H l (.tup ys))) ∨ (SqT K H p ys ∧ Q (.ref p) H))) (tCons (tLc (iList K (tCB (rXSorted P w K) (tCons (tVar 0) tNil))) (gName 1) (tTest (tOp rNe (tXGet P w K (tVar 0) (tVar 1)) (tC (.int 0)))) (tTup (tCons (tVar 1) (tCons (tXGet P w K (tVar 0) (tVar 1)) tNil))) [1]) tNil)) tNil)))
theorem w__law_poly {P : Program} {w : World} {K : PySem.W.Frag} {mg : Str → Option Value} {base : Heap} {p_Poly_init : Sp} (T : Tp K mg) (C_Poly_init : CalI P w K mg base 4 "Poly" p_Poly_init) {f : Addr} {cdv : Value} {A : Around} {outer : List Env} {s : Shared} {H : Hp} {E : XK} (hr : Room 5 (A.deeper (envOfC "_law_poly" (defScope s__law_poly) s.heap.objs.size f cdv))) :
  PSs (cxOf CX0 P w K mg base ["_law_parts_here", "_law_powers"] "_law_poly" (defScope s__law_poly) f cdv A outer s H E).nox (defBody s__law_poly) (t__law_poly P w K p_Poly_init) := by
  have nd := sc__law_poly.nd
  have hu0 := hr.u0
  have hu1 := hr.u1
  have hu64 := hr.units
  have hu66 := hr.u66
  exact (pss_one (ps_ret (pe_makeK C_Poly_init (hr.mono (by decide)) rfl (pa_cons (pe_callTy call_tuple_of rfl T.n_tuple PyProof.Rows.boot_tuple (pa_cons (pe_lc (own := [("_law_powers", 1)]) rfl nd (pi_list (pe_callB (call_xsorted rfl hu64) rfl T.n_sorted PyProof.Rows.boot_sorted (pa_cons (pv 0) pa_nil))) (blkOk_by (by kernel_rfl)) (fun _ _ _ _ _ => (pg_name (i := 1) nd rfl (by first | exact .inl rfl | exact .inr rfl))) (fun _ _ _ _ _ => (pts_one (pt_cmpR op_ne (pe_xget hu1 (pv 0) (pv 1) (fun _ _ => rfl)) pe_int (nomark _)))) (fun _ _ _ _ _ => (pe_tup (pa_cons (pv 1) (pa_cons (pe_xget hu1 (pv 0) (pv 1) (fun _ _ => rfl)) pa_nil))))) pa_nil)) pa_nil))))
/-! _law_parts -/
theorem sc__law_parts : FnScope ["_law_hand_here", "_law_many", "_law_most", "_law_terms", "_law_great", "_law_found", "_law_k", "_law_powers", "_law_count", "_law_u"] ["_law_hand_here", "_law_many", "_law_most", "_law_terms"] (defScope s__law_parts) := ⟨rfl, rfl, rfl, by decide +kernel, rfl, by decide +kernel, by decide +kernel⟩
def t__law_parts (P : Program) (w : World) (K : PySem.W.Frag) (p__law_draw : Sp) (p__law_any : Sp) : TS := (tSeq (tAsg (tIf (tTest (tOp (rI0 fun i j => .bl (decide (j < i))) (tCall p__law_draw [] E0 (tCons (tVar 0) (tCons (tC (.int 3)) tNil))) (tC (.int 0)))) (tCall p__law_any [] E0 (tCons (tVar 0) (tCons (tLst (tCons (tC (.int 3)) (tCons (tC (.int 9)) (tCons (tC (.int 9)) (tCons (tC (.int 9)) (tCons (tC (.int 100)) (tCons (tOp (rI CPow fun i j => .int (i ^ j.toNat)) (tC (.int 10)) (tC (.int 25))) tNil))))))) tNil))) (tC (.int 2))) (gName 4))
    (tSeq (tAsg (tXNew P w) (gName 5))
    (tSeq (tFor (iRng1 (tCons (tOp (rI0 fun i j => .int (i + j)) (tC (.int 1)) (tCall p__law_draw [] E0 (tCons (tVar 0) (tCons (tVar 3) tNil)))) tNil)) (gName 6) (tSeq (tAsg (tCB (fun xs H Q => ∃ p ys, xs = [.ref p] ∧ ((SqL K H p ys ∧ ∀ l, H l = none → Q (.ref l) (upd H l (.tup ys))) ∨ (SqT K H p ys ∧ Q (.ref p) H))) (tCons (tLc (iRng1 (tCons (tC (.int 4)) tNil)) (gName 9) tYes (tIf (tTest (tOp (rI0 fun i j => .bl (decide (i < j))) (tVar 9) (tVar 1))) (tCall p__law_draw [] E0 (tCons (tVar 0) (tCons (tOp (rI0 fun i j => .int (i + j)) (tVar 2) (tC (.int 1))) tNil))) (tC (.int 0))) [9]) tNil)) (gName 7))
    (tSeq (tAsg (tOp (rI0 fun i j => .int (i + j)) (tC (.int 1)) (tCall p__law_draw [] E0 (tCons (tVar 0) (tCons (tVar 4) tNil)))) (gName 8))
    (sXPut P w K (tVar 5) (tVar 7) (tIf (tTest (tOp rEq (tCall p__law_draw [] E0 (tCons (tVar 0) (tCons (tC (.int 2)) tNil))) (tC (.int 0)))) (tVar 8) (tUn (rU fun i => .int (-i)) (tVar 8)))))))
    (tRet (tVar 5)))))
theorem w__law_parts {P : Program} {w : World} {K : PySem.W.Frag} {mg : Str → Option Value} {base : Heap} {p__law_draw : Sp} {p__law_any : Sp} (T : Tp K mg) (C__law_draw : Cal P w K mg base 1 "_law_draw" p__law_draw) (C__law_any : Cal P w K mg base 2 "_law_any" p__law_any) {f : Addr} {cdv : Value} {A : Around} {outer : List Env} {s : Shared} {H : Hp} {E : XK} (hr : Room 2 (A.deeper (envOfC "_law_parts" (defScope s__law_parts) s.heap.objs.size f cdv))) :
  PSs (cxOf CX0 P w K mg base ["_law_hand_here", "_law_many", "_law_most", "_law_terms", "_law_great", "_law_found", "_law_k", "_law_powers", "_law_count", "_law_u"] "_law_parts" (defScope s__law_parts) f cdv A outer s H E).nox (defBody s__law_parts) (t__law_parts P w K p__law_draw p__law_any) := by
  have nd := sc__law_parts.nd
  have hu0 := hr.u0
  have hu1 := hr.u1
  have hu64 := hr.units
  have hu66 := hr.u66
  exact (pss_cons (ps_set (i := 4) nd rfl (by first | exact .inl rfl | exact .inr rfl) (pe_ifExp (pt_cmpR op_gt (pe_k C__law_draw (hr.mono (by decide)) rfl (pa_cons (pv 0) (pa_cons pe_int pa_nil))) pe_int (nomark _)) (pe_k C__law_any (hr.mono (by decide)) rfl (pa_cons (pv 0) (pa_cons (pe_lst (pa_cons pe_int (pa_cons pe_int (pa_cons pe_int (pa_cons pe_int (pa_cons pe_int (pa_cons (pe_op op_pow pe_int pe_int) pa_nil))))))) pa_nil))) pe_int))
    (pss_cons (ps_set (i := 5) nd rfl (by first | exact .inl rfl | exact .inr rfl) pe_xnew)
    (pss_cons (ps_for PassesOwn.never rfl (pi_range1 rfl T.n_range (pa_cons (pe_op op_add pe_int (pe_k C__law_draw (hr.mono (by decide)) rfl (pa_cons (pv 0) (pa_cons (pv 3) pa_nil)))) pa_nil)) (pg_name (i := 6) nd rfl (by first | exact .inl rfl | exact .inr rfl)) (pss_cons (ps_set (i := 7) nd rfl (by first | exact .inl rfl | exact .inr rfl) (pe_callTy call_tuple_of rfl T.n_tuple PyProof.Rows.boot_tuple (pa_cons (pe_lc (own := [("_law_u", 9)]) rfl nd (pi_range1 rfl T.n_range (pa_cons pe_int pa_nil)) (blkOk_by (by kernel_rfl)) (fun _ _ _ _ _ => (pg_name (i := 9) nd rfl (by first | exact .inl rfl | exact .inr rfl))) (fun _ _ _ _ _ => pts_nil) (fun _ _ _ _ _ => (pe_ifExp (pt_cmpR op_lt (pv 9) (pv 1) (nomark _)) (pe_k C__law_draw (hr.mono (by decide)) rfl (pa_cons (pv 0) (pa_cons (pe_op op_add (pv 2) pe_int) pa_nil))) pe_int))) pa_nil)))
    (pss_cons (ps_set (i := 8) nd rfl (by first | exact .inl rfl | exact .inr rfl) (pe_op op_add pe_int (pe_k C__law_draw (hr.mono (by decide)) rfl (pa_cons (pv 0) (pa_cons (pv 4) pa_nil)))))
    (pss_one (ps_xput hu1 (pv 5) (pv 7) (pe_ifExp (pt_cmpR op_eq (pe_k C__law_draw (hr.mono (by decide)) rfl (pa_cons (pv 0) (pa_cons pe_int pa_nil))) pe_int (nomark _)) (pv 8) (pe_un un_neg (pv 8))) rfl)))))
    (pss_one (ps_ret (pv 5))))))
/-! _law_degrees -/
theorem sc__law_degrees : FnScope ["_law_parts_here", "_law_many", "_law_k", "_law_powers"] ["_law_parts_here", "_law_many"] (defScope s__law_degrees) := ⟨rfl, rfl, rfl, by decide +kernel, rfl, by decide +kernel, by decide +kernel⟩
def t__law_degrees (P : Program) (w : World) (K : PySem.W.Frag) : TS := (tRet (tLc (iRng1 (tCons (tVar 1) tNil)) (gName 2) tYes (tCB (rMax K) (tCons (tOp rCat (tLst (tCons (tC (.int 0)) tNil)) (tLockE (tLc (iXKeys P w (tVar 0)) (gName 3) (tTest (tOp rNe (tXGet P w K (tVar 0) (tVar 3)) (tC (.int 0)))) (tOp (rIxT K) (tVar 3) (tVar 2)) [3]))) tNil)) [2]))
theorem w__law_degrees {P : Program} {w : World} {K : PySem.W.Frag} {mg : Str → Option Value} {base : Heap} (T : Tp K mg) {f : Addr} {cdv : Value} {A : Around} {outer : List Env} {s : Shared} {H : Hp} {E : XK} (hr : Room 0 (A.deeper (envOfC "_law_degrees" (defScope s__law_degrees) s.heap.objs.size f cdv))) :
  PSs (cxOf CX0 P w K mg base ["_law_parts_here", "_law_many", "_law_k", "_law_powers"] "_law_degrees" (defScope s__law_degrees) f cdv A outer s H E).nox (defBody s__law_degrees) (t__law_degrees P w K) := by
  have nd := sc__law_degrees.nd
  have hu0 := hr.u0
  have hu1 := hr.u1
  have hu64 := hr.units
  have hu66 := hr.u66
  exact (pss_one (ps_ret (pe_lc (own := [("_law_k", 2)]) rfl nd (pi_range1 rfl T.n_range (pa_cons (pv 1) pa_nil)) (blkOk_by (by kernel_rfl)) (fun _ _ _ _ _ => (pg_name (i := 2) nd rfl (by first | exact .inl rfl | exact .inr rfl))) (fun _ _ _ _ _ => pts_nil) (fun _ _ _ _ _ => (pe_callB (cr_max rfl) rfl T.n_max PyProof.Rows.boot_max (pa_cons (pe_op op_cat (pe_lst (pa_cons pe_int pa_nil)) (pe_lock (pe_lc (own := [("_law_powers", 3)]) rfl nd (pi_xkeys (pv 0)) (blkOk_by (by kernel_rfl)) (fun _ _ _ _ _ => (pg_name (i := 3) nd rfl (by first | exact .inl rfl | exact .inr rfl))) (fun _ _ _ _ _ => (pts_one (pt_cmpR op_ne (pe_xget hu1 (pv 0) (pv 3) (fun _ _ => rfl)) pe_int (nomark _)))) (fun _ _ _ _ _ => (pe_ix ix_tup (pv 3) (pv 2) (fun _ _ => rfl)))))) pa_nil))))))
/-! _law_stretch -/
theorem sc__law_stretch : FnScope ["_law_hand_here", "_law_bottom", "_law_low_here", "_law_wide"] ["_law_hand_here"] (defScope s__law_stretch) := ⟨rfl, rfl, rfl, by decide +kernel, rfl, by decide +kernel, by decide +kernel⟩
def t__law_stretch (P : Program) (w : World) (K : PySem.W.Frag) (p__law_low : Sp) (p__law_any : Sp) (p__law_draw : Sp) : TS := (tSeq (tAsg (tCall p__law_any [] E0 (tCons (tVar 0) (tCons (tLst (tCons (tC (.int 1)) (tCons (tC (.int 1)) (tCons (tC (.int 1)) (tCons (tC (.int 2)) (tCons (tC (.int 3)) (tCons (tC (.int 7)) (tCons (tOp (rI CPow fun i j => .int (i ^ j.toNat)) (tC (.int 10)) (tC (.int 6))) tNil)))))))) tNil))) (gName 1))
    (tSeq (tAsg (tOp (rI0 fun i j => .int (i - j)) (tCall p__law_draw [] E0 (tCons (tVar 0) (tCons (tOp (rI CMulW fun i j => .int (i * j)) (tC (.int 9)) (tVar 1)) tNil))) (tOp (rI CMulW fun i j => .int (i * j)) (tCall p__law_any [] E0 (tCons (tVar 0) (tCons (tLst (tCons (tC (.int 0)) (tCons (tC (.int 4)) (tCons (tC (.int 4)) (tCons (tC (.int 9)) tNil))))) tNil))) (tVar 1))) (gName 2))
    (tSeq (tAsg (tOp (rI0 fun i j => .int (i + j)) (tC (.int 1)) (tCall p__law_draw [] E0 (tCons (tVar 0) (tCons (tCall p__law_any [] E0 (tCons (tVar 0) (tCons (tLst (tCons (tC (.int 1)) (tCons (tVar 1) (tCons (tOp (rI CMulW fun i j => .int (i * j)) (tC (.int 3)) (tVar 1)) (tCons (tOp (rI CMulW fun i j => .int (i * j)) (tC (.int 9)) (tVar 1)) tNil))))) tNil))) tNil)))) (gName 3))
    (tRet (tTup (tCons (tCall p__law_low [] E0 (tCons (tVar 2) (tCons (tVar 1) tNil))) (tCons (tCall p__law_low [] E0 (tCons (tOp (rI0 fun i j => .int (i + j)) (tVar 2) (tVar 3)) (tCons (tVar 1) tNil))) tNil)))))))
theorem w__law_stretch {P : Program} {w : World} {K : PySem.W.Frag} {mg : Str → Option Value} {base : Heap} {p__law_low : Sp} {p__law_any : Sp} {p__law_draw : Sp} (T : Tp K mg) (C__law_low : Cal P w K mg base 1 "_law_low" p__law_low) (C__law_any : Cal P w K mg base 2 "_law_any" p__law_any) (C__law_draw : Cal P w K mg base 1 "_law_draw" p__law_draw) {f : Addr} {cdv : Value} {A : Around} {outer : List Env} {s : Shared} {H : Hp} {E : XK} (hr : Room 2 (A.deeper (envOfC "_law_stretch" (defScope s__law_stretch) s.heap.objs.size f cdv))) :
  PSs (cxOf CX0 P w K mg base ["_law_hand_here", "_law_bottom", "_law_low_here", "_law_wide"] "_law_stretch" (defScope s__law_stretch) f cdv A outer s H E).nox (defBody s__law_stretch) (t__law_stretch P w K p__law_low p__law_any p__law_draw) := by
  have nd := sc__law_stretch.nd
  have hu0 := hr.u0
  have hu1 := hr.u1
  have hu64 := hr.units
  have hu66 := hr.u66
  exact (pss_cons (ps_set (i := 1) nd rfl (by first | exact .inl rfl | exact .inr rfl) (pe_k C__law_any (hr.mono (by decide)) rfl (pa_cons (pv 0) (pa_cons (pe_lst (pa_cons pe_int (pa_cons pe_int (pa_cons pe_int (pa_cons pe_int (pa_cons pe_int (pa_cons pe_int (pa_cons (pe_op op_pow pe_int pe_int) pa_nil)))))))) pa_nil))))
    (pss_cons (ps_set (i := 2) nd rfl (by first | exact .inl rfl | exact .inr rfl) (pe_op op_sub (pe_k C__law_draw (hr.mono (by decide)) rfl (pa_cons (pv 0) (pa_cons (pe_op op_mulW pe_int (pv 1)) pa_nil))) (pe_op op_mulW (pe_k C__law_any (hr.mono (by decide)) rfl (pa_cons (pv 0) (pa_cons (pe_lst (pa_cons pe_int (pa_cons pe_int (pa_cons pe_int (pa_cons pe_int pa_nil))))) pa_nil))) (pv 1))))
    (pss_cons (ps_set (i := 3) nd rfl (by first | exact .inl rfl | exact .inr rfl) (pe_op op_add pe_int (pe_k C__law_draw (hr.mono (by decide)) rfl (pa_cons (pv 0) (pa_cons (pe_k C__law_any (hr.mono (by decide)) rfl (pa_cons (pv 0) (pa_cons (pe_lst (pa_cons pe_int (pa_cons (pv 1) (pa_cons (pe_op op_mulW pe_int (pv 1)) (pa_cons (pe_op op_mulW pe_int (pv 1)) pa_nil))))) pa_nil))) pa_nil)))))
    (pss_one (ps_ret (pe_tup (pa_cons (pe_k C__law_low (hr.mono (by decide)) rfl (pa_cons (pv 2) (pa_cons (pv 1) pa_nil))) (pa_cons (pe_k C__law_low (hr.mono (by decide)) rfl (pa_cons (pe_op op_add (pv 2) (pv 3)) (pa_cons (pv 1) pa_nil))) pa_nil))))))))
/-! _law_box -/
theorem sc__law_box : FnScope ["_law_hand_here", "_law_many", "_law_k"] ["_law_hand_here", "_law_many"] (defScope s__law_box) := ⟨rfl, rfl, rfl, by decide +kernel, rfl, by decide +kernel, by decide +kernel⟩
def t__law_box (P : Program) (w : World) (K : PySem.W.Frag) (p__law_stretch : Sp) : TS := (tRet (tCB (fun xs H Q => ∃ p ys, xs = [.ref p] ∧ ((SqL K H p ys ∧ ∀ l, H l = none → Q (.ref l) (upd H l (.tup ys))) ∨ (SqT K H p ys ∧ Q (.ref p) H))) (tCons (tLc (iRng1 (tCons (tVar 1) tNil)) (gName 2) tYes (tCall p__law_stretch [] E0 (tCons (tVar 0) tNil)) [2]) tNil)))
theorem w__law_box {P : Program} {w : World} {K : PySem.W.Frag} {mg : Str → Option Value} {base : Heap} {p__law_stretch : Sp} (T : Tp K mg) (C__law_stretch : Cal P w K mg base 3 "_law_stretch" p__law_stretch) {f : Addr} {cdv : Value} {A : Around} {outer : List Env} {s : Shared} {H : Hp} {E : XK} (hr : Room 3 (A.deeper (envOfC "_law_box" (defScope s__law_box) s.heap.objs.size f cdv))) :
  PSs (cxOf CX0 P w K mg base ["_law_hand_here", "_law_many", "_law_k"] "_law_box" (defScope s__law_box) f cdv A outer s H E).nox (defBody s__law_box) (t__law_box P w K p__law_stretch) := by
  have nd := sc__law_box.nd
  have hu0 := hr.u0
  have hu1 := hr.u1
  have hu64 := hr.units
  have hu66 := hr.u66
  exact (pss_one (ps_ret (pe_callTy call_tuple_of rfl T.n_tuple PyProof.Rows.boot_tuple (pa_cons (pe_lc (own := [("_law_k", 2)]) rfl nd (pi_range1 rfl T.n_range (pa_cons (pv 1) pa_nil)) (blkOk_by (by kernel_rfl)) (fun _ _ _ _ _ => (pg_name (i := 2) nd rfl (by first | exact .inl rfl | exact .inr rfl))) (fun _ _ _ _ _ => pts_nil) (fun _ _ _ _ _ => (pe_k C__law_stretch (hr.mono (by decide)) rfl (pa_cons (pv 0) pa_nil)))) pa_nil))))
/-! _law_polar -/
theorem sc__law_polar : FnScope ["_law_stretch_here", "_law_many", "_law_i", "_law_j", "_law_a", "_law_b", "_law_c", "_law_d", "_law_low_here", "_law_high", "_law_found", "_law_t", "_law_ways"] ["_law_stretch_here", "_law_many", "_law_i", "_law_j"] (defScope s__law_polar) := ⟨rfl, rfl, rfl, by decide +kernel, rfl, by decide +kernel, by decide +kernel⟩
def t__law_polar (P : Program) (w : World) (K : PySem.W.Frag) (p__law_power : Sp) (p__law_binomial : Sp) : TS := (tSeq (tAsg (tVar 0) (gTup K 2 (gCons (gTup K 2 (gCons (gName 4) (gCons (gName 5) gNil))) (gCons (gTup K 2 (gCons (gName 6) (gCons (gName 7) gNil))) gNil))))
    (tSeq (tPar3 8 9 10 (tCons (tOp (rI CMulW fun i j => .int (i * j)) (tVar 4) (tVar 7)) (tCons (tOp (rI CMulW fun i j => .int (i * j)) (tVar 6) (tVar 5)) (tCons (tC (.int 0)) tNil))))
    (tSeq (tFor (iRng1 (tCons (tOp (rI0 fun i j => .int (i + j)) (tVar 3) (tC (.int 1))) tNil)) (gName 11) (tSeq (tAsg (tOp (rI CMulW fun i j => .int (i * j)) (tCall p__law_binomial [] E0 (tCons (tVar 2) (tCons (tVar 11) tNil))) (tCall p__law_binomial [] E0 (tCons (tOp (rI0 fun i j => .int (i - j)) (tVar 1) (tVar 2)) (tCons (tOp (rI0 fun i j => .int (i - j)) (tVar 3) (tVar 11)) tNil)))) (gName 12))
    (tAsg (tOp (rI0 fun i j => .int (i + j)) (tVar 10) (tIf (tTest (tOp (rI0 fun i j => .bl (decide (j < i))) (tVar 12) (tC (.int 0)))) (tOp (rI CMulW fun i j => .int (i * j)) (tOp (rI CMulW fun i j => .int (i * j)) (tVar 12) (tCall p__law_power [] E0 (tCons (tVar 9) (tCons (tVar 11) tNil)))) (tCall p__law_power [] E0 (tCons (tVar 8) (tCons (tOp (rI0 fun i j => .int (i - j)) (tVar 3) (tVar 11)) tNil)))) (tC (.int 0)))) (gName 10))))
    (tRet (tTup (tCons (tVar 10) (tCons (tOp (rI CMulW fun i j => .int (i * j)) (tCall p__law_power [] E0 (tCons (tOp (rI CMulW fun i j => .int (i * j)) (tVar 5) (tVar 7)) (tCons (tVar 3) tNil))) (tCall p__law_binomial [] E0 (tCons (tVar 1) (tCons (tVar 3) tNil)))) tNil)))))))
theorem w__law_polar {P : Program} {w : World} {K : PySem.W.Frag} {mg : Str → Option Value} {base : Heap} {p__law_power : Sp} {p__law_binomial : Sp} (T : Tp K mg) (C__law_power : Cal P w K mg base 1 "_law_power" p__law_power) (C__law_binomial : Cal P w K mg base 1 "_law_binomial" p__law_binomial) {f : Addr} {cdv : Value} {A : Around} {outer : List Env} {s : Shared} {H : Hp} {E : XK} (hr : Room 1 (A.deeper (envOfC "_law_polar" (defScope s__law_polar) s.heap.objs.size f cdv))) :
  PSs (cxOf CX0 P w K mg base ["_law_stretch_here", "_law_many", "_law_i", "_law_j", "_law_a", "_law_b", "_law_c", "_law_d", "_law_low_here", "_law_high", "_law_found", "_law_t", "_law_ways"] "_law_polar" (defScope s__law_polar) f cdv A outer s H E).nox (defBody s__law_polar) (t__law_polar P w K p__law_power p__law_binomial) := by
  have nd := sc__law_polar.nd
  have hu0 := hr.u0
  have hu1 := hr.u1
  have hu64 := hr.units
  have hu66 := hr.u66
  exact (pss_cons (ps_asg (pv 0) (pg_tup rfl (pgs_cons (pg_tup rfl (pgs_cons (pg_name (i := 4) nd rfl (by first | exact .inl rfl | exact .inr rfl)) (pgs_cons (pg_name (i := 5) nd rfl (by first | exact .inl rfl | exact .inr rfl)) pgs_nil))) (pgs_cons (pg_tup rfl (pgs_cons (pg_name (i := 6) nd rfl (by first | exact .inl rfl | exact .inr rfl)) (pgs_cons (pg_name (i := 7) nd rfl (by first | exact .inl rfl | exact .inr rfl)) pgs_nil))) pgs_nil))))
    (pss_cons (ps_par3 (i := 8) (j := 9) (l := 10) rfl nd rfl rfl rfl (by decide) (by decide) (by decide) rfl rfl rfl (pa_cons (pe_op op_mulW (pv 4) (pv 7)) (pa_cons (pe_op op_mulW (pv 6) (pv 5)) (pa_cons pe_int pa_nil))) rfl)
    (pss_cons (ps_for PassesOwn.never rfl (pi_range1 rfl T.n_range (pa_cons (pe_op op_add (pv 3) pe_int) pa_nil)) (pg_name (i := 11) nd rfl (by first | exact .inl rfl | exact .inr rfl)) (pss_cons (ps_set (i := 12) nd rfl (by first | exact .inl rfl | exact .inr rfl) (pe_op op_mulW (pe_k C__law_binomial (hr.mono (by decide)) rfl (pa_cons (pv 2) (pa_cons (pv 11) pa_nil))) (pe_k C__law_binomial (hr.mono (by decide)) rfl (pa_cons (pe_op op_sub (pv 1) (pv 2)) (pa_cons (pe_op op_sub (pv 3) (pv 11)) pa_nil)))))
    (pss_one (ps_set (i := 10) nd rfl (by first | exact .inl rfl | exact .inr rfl) (pe_op op_add (pv 10) (pe_ifExp (pt_cmpR op_gt (pv 12) pe_int (nomark _)) (pe_op op_mulW (pe_op op_mulW (pv 12) (pe_k C__law_power (hr.mono (by decide)) rfl (pa_cons (pv 9) (pa_cons (pv 11) pa_nil)))) (pe_k C__law_power (hr.mono (by decide)) rfl (pa_cons (pv 8) (pa_cons (pe_op op_sub (pv 3) (pv 11)) pa_nil)))) pe_int))))))
    (pss_one (ps_ret (pe_tup (pa_cons (pv 10) (pa_cons (pe_op op_mulW (pe_k C__law_power (hr.mono (by decide)) rfl (pa_cons (pe_op op_mulW (pv 5) (pv 7)) (pa_cons (pv 3) pa_nil))) (pe_k C__law_binomial (hr.mono (by decide)) rfl (pa_cons (pv 1) (pa_cons (pv 3) pa_nil)))) pa_nil))))))))
/-! _law_indexes -/
theorem sc__law_indexes : FnScope ["_law_degrees_here", "_law_found", "_law_most", "_law_longer", "_law_index", "_law_k"] ["_law_degrees_here"] (defScope s__law_indexes) := ⟨rfl, rfl, rfl, by decide +kernel, rfl, by decide +kernel, by decide +kernel⟩
def t__law_indexes (P : Program) (w : World) (K : PySem.W.Frag) : TS := (tSeq (tAsg (tLst (tCons (tTup tNil) tNil)) (gName 1))
    (tSeq (tFor (iList K (tVar 0)) (gName 2) (tSeq (tAsg (tLst tNil) (gName 3))
    (tSeq (tFor (iList K (tVar 1)) (gName 4) (tDrop (tBM K "list" rExtend (tVar 3) (tCons (tLc (iRng1 (tCons (tOp (rI0 fun i j => .int (i + j)) (tVar 2) (tC (.int 1))) tNil)) (gName 5) tYes (tOp (rCatA K) (tVar 4) (tTup (tCons (tVar 5) tNil))) [5]) tNil))))
    (tAsg (tVar 3) (gName 1)))))
    (tRet (tVar 1))))
theorem w__law_indexes {P : Program} {w : World} {K : PySem.W.Frag} {mg : Str → Option Value} {base : Heap} (T : Tp K mg) {f : Addr} {cdv : Value} {A : Around} {outer : List Env} {s : Shared} {H : Hp} {E : XK} (hr : Room 0 (A.deeper (envOfC "_law_indexes" (defScope s__law_indexes) s.heap.objs.size f cdv))) :
  PSs (cxOf CX0 P w K mg base ["_law_degrees_here", "_law_found", "_law_most", "_law_longer", "_law_index", "_law_k"] "_law_indexes" (defScope s__law_indexes) f cdv A outer s H E).nox (defBody s__law_indexes) (t__law_indexes P w K) := by
  have nd := sc__law_indexes.nd
  have hu0 := hr.u0
  have hu1 := hr.u1
  have hu64 := hr.units
  have hu66 := hr.u66
  exact (pss_cons (ps_set (i := 1) nd rfl (by first | exact .inl rfl | exact .inr rfl) (pe_lst (pa_cons (pe_tup pa_nil) pa_nil)))
    (pss_cons (ps_for PassesOwn.never rfl (pi_list (pv 0)) (pg_name (i := 2) nd rfl (by first | exact .inl rfl | exact .inr rfl)) (pss_cons (ps_set (i := 3) nd rfl (by first | exact .inl rfl | exact .inr rfl) (pe_lst pa_nil))
    (pss_cons (ps_for PassesOwn.never rfl (pi_list (pv 1)) (pg_name (i := 4) nd rfl (by first | exact .inl rfl | exact .inr rfl)) (pss_one (ps_expr (pe_bm PySem.F.plainAttrs_list PySem.F.slot_list_extend PySem.F.type_list_extend mt_extend (pv 3) (pa_cons (pe_lc (own := [("_law_k", 5)]) rfl nd (pi_range1 rfl T.n_range (pa_cons (pe_op op_add (pv 2) pe_int) pa_nil)) (blkOk_by (by kernel_rfl)) (fun _ _ _ _ _ => (pg_name (i := 5) nd rfl (by first | exact .inl rfl | exact .inr rfl))) (fun _ _ _ _ _ => pts_nil) (fun _ _ _ _ _ => (pe_op op_catA (pv 4) (pe_tup (pa_cons (pv 5) pa_nil))))) pa_nil)))))
    (pss_one (ps_set (i := 1) nd rfl (by first | exact .inl rfl | exact .inr rfl) (pv 3))))))
    (pss_one (ps_ret (pv 1)))))
/-! _law_counts -/
theorem sc__law_counts : FnScope ["_law_parts_here", "_law_box_here", "_law_degrees_here", "_law_found", "_law_index", "_law_top", "_law_bottom", "_law_powers", "_law_here", "_law_under", "_law_k", "_law_part", "_law_by"] ["_law_parts_here", "_law_box_here"] (defScope s__law_counts) := ⟨rfl, rfl, rfl, by decide +kernel, rfl, by decide +kernel, by decide +kernel⟩
def t__law_counts (P : Program) (w : World) (K : PySem.W.Frag) (p__law_indexes : Sp) (p__law_low : Sp) (p__law_polar : Sp) (p__law_degrees : Sp) : TS := (tSeq (tPar 2 3 (tCons (tCall p__law_degrees [] E0 (tCons (tVar 0) (tCons (tCB (fun xs H Q => ∃ p ys, xs = [.ref p] ∧ (SqL K H p ys ∨ SqT K H p ys) ∧ Q (.int ys.length) H) (tCons (tVar 1) tNil)) tNil))) (tCons (tXNew P w) tNil)))
    (tSeq (tFor (iList K (tCall p__law_indexes [] E0 (tCons (tVar 2) tNil))) (gName 4) (tSeq (tAsg (tTup (tCons (tC (.int 0)) (tCons (tC (.int 1)) tNil))) (gTup K 2 (gCons (gName 5) (gCons (gName 6) gNil))))
    (tSeq (tFor (iList K (tLockE (tLc (iXKeys P w (tVar 0)) (gName 7) (tTest (tOp rNe (tXGet P w K (tVar 0) (tVar 7)) (tC (.int 0)))) (tVar 7) [7]))) (gName 7) (tSeq (tPar 8 9 (tCons (tXGet P w K (tVar 0) (tVar 7)) (tCons (tC (.int 1)) tNil)))
    (tSeq (tFor (iRng1 (tCons (tCB (fun xs H Q => ∃ p ys, xs = [.ref p] ∧ (SqL K H p ys ∨ SqT K H p ys) ∧ Q (.int ys.length) H) (tCons (tVar 1) tNil)) tNil)) (gName 10) (tSeq (tAsg (tCall p__law_polar [] E0 (tCons (tOp (rIxT K) (tVar 1) (tVar 10)) (tCons (tOp (rIxL K) (tVar 2) (tVar 10)) (tCons (tOp (rIxT K) (tVar 4) (tVar 10)) (tCons (tOp (rIxT K) (tVar 7) (tVar 10)) tNil))))) (gTup K 2 (gCons (gName 11) (gCons (gName 12) gNil))))
    (tPar 8 9 (tCons (tOp (rI CMulW fun i j => .int (i * j)) (tVar 8) (tVar 11)) (tCons (tOp (rI CMulW fun i j => .int (i * j)) (tVar 9) (tVar 12)) tNil)))))
    (tPar 5 6 (tCons (tOp (rI0 fun i j => .int (i + j)) (tOp (rI CMulW fun i j => .int (i * j)) (tVar 5) (tVar 9)) (tOp (rI CMulW fun i j => .int (i * j)) (tVar 8) (tVar 6))) (tCons (tOp (rI CMulW fun i j => .int (i * j)) (tVar 6) (tVar 9)) tNil))))))
    (sXPut P w K (tVar 3) (tVar 4) (tCall p__law_low [] E0 (tCons (tVar 5) (tCons (tVar 6) tNil)))))))
    (tRet (tVar 3))))
theorem w__law_counts {P : Program} {w : World} {K : PySem.W.Frag} {mg : Str → Option Value} {base : Heap} {p__law_indexes : Sp} {p__law_low : Sp} {p__law_polar : Sp} {p__law_degrees : Sp} (T : Tp K mg) (C__law_indexes : Cal P w K mg base 1 "_law_indexes" p__law_indexes) (C__law_low : Cal P w K mg base 1 "_law_low" p__law_low) (C__law_polar : Cal P w K mg base 2 "_law_polar" p__law_polar) (C__law_degrees : Cal P w K mg base 1 "_law_degrees" p__law_degrees) {f : Addr} {cdv : Value} {A : Around} {outer : List Env} {s : Shared} {H : Hp} {E : XK} (hr : Room 2 (A.deeper (envOfC "_law_counts" (defScope s__law_counts) s.heap.objs.size f cdv))) :
  PSs (cxOf CX0 P w K mg base ["_law_parts_here", "_law_box_here", "_law_degrees_here", "_law_found", "_law_index", "_law_top", "_law_bottom", "_law_powers", "_law_here", "_law_under", "_law_k", "_law_part", "_law_by"] "_law_counts" (defScope s__law_counts) f cdv A outer s H E).nox (defBody s__law_counts) (t__law_counts P w K p__law_indexes p__law_low p__law_polar p__law_degrees) := by
  have nd := sc__law_counts.nd
  have hu0 := hr.u0
  have hu1 := hr.u1
  have hu64 := hr.units
  have hu66 := hr.u66
  exact (pss_cons (ps_par (i := 2) (j := 3) rfl nd rfl rfl (by decide) rfl rfl (pa_cons (pe_k C__law_degrees (hr.mono (by decide)) rfl (pa_cons (pv 0) (pa_cons (pe_callB call_len_seq rfl T.n_len PySem.boot_len (pa_cons (pv 1) pa_nil)) pa_nil))) (pa_cons pe_xnew pa_nil)) rfl)
    (pss_cons (ps_for PassesOwn.never rfl (pi_list (pe_k C__law_indexes (hr.mono (by decide)) rfl (pa_cons (pv 2) pa_nil))) (pg_name (i := 4) nd rfl (by first | exact .inl rfl | exact .inr rfl)) (pss_cons (ps_asg (pe_tup (pa_cons pe_int (pa_cons pe_int pa_nil))) (pg_tup rfl (pgs_cons (pg_name (i := 5) nd rfl (by first | exact .inl rfl | exact .inr rfl)) (pgs_cons (pg_name (i := 6) nd rfl (by first | exact .inl rfl | exact .inr rfl)) pgs_nil))))
    (pss_cons (ps_for PassesOwn.never rfl (pi_list (pe_lock (pe_lc (own := [("_law_powers", 7)]) rfl nd (pi_xkeys (pv 0)) (blkOk_by (by kernel_rfl)) (fun _ _ _ _ _ => (pg_name (i := 7) nd rfl (by first | exact .inl rfl | exact .inr rfl))) (fun _ _ _ _ _ => (pts_one (pt_cmpR op_ne (pe_xget hu1 (pv 0) (pv 7) (fun _ _ => rfl)) pe_int (nomark _)))) (fun _ _ _ _ _ => (pv 7))))) (pg_name (i := 7) nd rfl (by first | exact .inl rfl | exact .inr rfl)) (pss_cons (ps_par (i := 8) (j := 9) rfl nd rfl rfl (by decide) rfl rfl (pa_cons (pe_xget hu1 (pv 0) (pv 7) (fun _ _ => rfl)) (pa_cons pe_int pa_nil)) rfl)
    (pss_cons (ps_for PassesOwn.never rfl (pi_range1 rfl T.n_range (pa_cons (pe_callB call_len_seq rfl T.n_len PySem.boot_len (pa_cons (pv 1) pa_nil)) pa_nil)) (pg_name (i := 10) nd rfl (by first | exact .inl rfl | exact .inr rfl)) (pss_cons (ps_asg (pe_k C__law_polar (hr.mono (by decide)) rfl (pa_cons (pe_ix ix_tup (pv 1) (pv 10) (fun _ _ => rfl)) (pa_cons (pe_ix ix_list (pv 2) (pv 10) (fun _ _ => rfl)) (pa_cons (pe_ix ix_tup (pv 4) (pv 10) (fun _ _ => rfl)) (pa_cons (pe_ix ix_tup (pv 7) (pv 10) (fun _ _ => rfl)) pa_nil))))) (pg_tup rfl (pgs_cons (pg_name (i := 11) nd rfl (by first | exact .inl rfl | exact .inr rfl)) (pgs_cons (pg_name (i := 12) nd rfl (by first | exact .inl rfl | exact .inr rfl)) pgs_nil))))
    (pss_one (ps_par (i := 8) (j := 9) rfl nd rfl rfl (by decide) rfl rfl (pa_cons (pe_op op_mulW (pv 8) (pv 11)) (pa_cons (pe_op op_mulW (pv 9) (pv 12)) pa_nil)) rfl))))
    (pss_one (ps_par (i := 5) (j := 6) rfl nd rfl rfl (by decide) rfl rfl (pa_cons (pe_op op_add (pe_op op_mulW (pv 5) (pv 9)) (pe_op op_mulW (pv 8) (pv 6))) (pa_cons (pe_op op_mulW (pv 6) (pv 9)) pa_nil)) rfl)))))
    (pss_one (ps_xput hu1 (pv 3) (pv 4) (pe_k C__law_low (hr.mono (by decide)) rfl (pa_cons (pv 5) (pa_cons (pv 6) pa_nil))) rfl)))))
    (pss_one (ps_ret (pv 3)))))
/-! _law_worth -/
theorem sc__law_worth : FnScope ["_law_parts_here", "_law_point", "_law_top", "_law_bottom", "_law_powers", "_law_here", "_law_under", "_law_k", "_law_place"] ["_law_parts_here", "_law_point"] (defScope s__law_worth) := ⟨rfl, rfl, rfl, by decide +kernel, rfl, by decide +kernel, by decide +kernel⟩
def t__law_worth (P : Program) (w : World) (K : PySem.W.Frag) (p__law_low : Sp) (p__law_power : Sp) : TS := (tSeq (tAsg (tTup (tCons (tC (.int 0)) (tCons (tC (.int 1)) tNil))) (gTup K 2 (gCons (gName 2) (gCons (gName 3) gNil))))
    (tSeq (tLock (tFor (iXKeys P w (tVar 0)) (gName 4) (tSeq (tPar 5 6 (tCons (tXGet P w K (tVar 0) (tVar 4)) (tCons (tC (.int 1)) tNil)))
    (tSeq (tFor (iRng1 (tCons (tC (.int 4)) tNil)) (gName 7) (tSeq (tAsg (tIf (tTest (tOp (rI0 fun i j => .bl (decide (i < j))) (tVar 7) (tCB (fun xs H Q => ∃ p ys, xs = [.ref p] ∧ (SqL K H p ys ∨ SqT K H p ys) ∧ Q (.int ys.length) H) (tCons (tVar 1) tNil)))) (tOp (rIxL K) (tVar 1) (tVar 7)) (tTup (tCons (tC (.int 0)) (tCons (tC (.int 1)) tNil)))) (gName 8))
    (tPar 5 6 (tCons (tOp (rI CMulW fun i j => .int (i * j)) (tVar 5) (tCall p__law_power [] E0 (tCons (tOp (rIxT K) (tVar 8) (tC (.int 0))) (tCons (tOp (rIxT K) (tVar 4) (tVar 7)) tNil)))) (tCons (tOp (rI CMulW fun i j => .int (i * j)) (tVar 6) (tCall p__law_power [] E0 (tCons (tOp (rIxT K) (tVar 8) (tC (.int 1))) (tCons (tOp (rIxT K) (tVar 4) (tVar 7)) tNil)))) tNil)))))
    (tPar 2 3 (tCons (tOp (rI0 fun i j => .int (i + j)) (tOp (rI CMulW fun i j => .int (i * j)) (tVar 2) (tVar 6)) (tOp (rI CMulW fun i j => .int (i * j)) (tVar 5) (tVar 3))) (tCons (tOp (rI CMulW fun i j => .int (i * j)) (tVar 3) (tVar 6)) tNil)))))))
    (tRet (tCall p__law_low [] E0 (tCons (tVar 2) (tCons (tVar 3) tNil))))))
theorem w__law_worth {P : Program} {w : World} {K : PySem.W.Frag} {mg : Str → Option Value} {base : Heap} {p__law_low : Sp} {p__law_power : Sp} (T : Tp K mg) (C__law_low : Cal P w K mg base 1 "_law_low" p__law_low) (C__law_power : Cal P w K mg base 1 "_law_power" p__law_power) {f : Addr} {cdv : Value} {A : Around} {outer : List Env} {s : Shared} {H : Hp} {E : XK} (hr : Room 1 (A.deeper (envOfC "_law_worth" (defScope s__law_worth) s.heap.objs.size f cdv))) :
  PSs (cxOf CX0 P w K mg base ["_law_parts_here", "_law_point", "_law_top", "_law_bottom", "_law_powers", "_law_here", "_law_under", "_law_k", "_law_place"] "_law_worth" (defScope s__law_worth) f cdv A outer s H E).nox (defBody s__law_worth) (t__law_worth P w K p__law_low p__law_power) := by
  have nd := sc__law_worth.nd
  have hu0 := hr.u0
  have hu1 := hr.u1
  have hu64 := hr.units
  have hu66 := hr.u66
  exact (pss_cons (ps_asg (pe_tup (pa_cons pe_int (pa_cons pe_int pa_nil))) (pg_tup rfl (pgs_cons (pg_name (i := 2) nd rfl (by first | exact .inl rfl | exact .inr rfl)) (pgs_cons (pg_name (i := 3) nd rfl (by first | exact .inl rfl | exact .inr rfl)) pgs_nil))))
    (pss_cons (ps_lock (ps_for PassesOwn.never rfl (pi_xkeys (pv 0)) (pg_name (i := 4) nd rfl (by first | exact .inl rfl | exact .inr rfl)) (pss_cons (ps_par (i := 5) (j := 6) rfl nd rfl rfl (by decide) rfl rfl (pa_cons (pe_xget hu1 (pv 0) (pv 4) (fun _ _ => rfl)) (pa_cons pe_int pa_nil)) rfl)
    (pss_cons (ps_for PassesOwn.never rfl (pi_range1 rfl T.n_range (pa_cons pe_int pa_nil)) (pg_name (i := 7) nd rfl (by first | exact .inl rfl | exact .inr rfl)) (pss_cons (ps_set (i := 8) nd rfl (by first | exact .inl rfl | exact .inr rfl) (pe_ifExp (pt_cmpR op_lt (pv 7) (pe_callB call_len_seq rfl T.n_len PySem.boot_len (pa_cons (pv 1) pa_nil)) (nomark _)) (pe_ix ix_list (pv 1) (pv 7) (fun _ _ => rfl)) (pe_tup (pa_cons pe_int (pa_cons pe_int pa_nil)))))
    (pss_one (ps_par (i := 5) (j := 6) rfl nd rfl rfl (by decide) rfl rfl (pa_cons (pe_op op_mulW (pv 5) (pe_k C__law_power (hr.mono (by decide)) rfl (pa_cons (pe_ix ix_tup (pv 8) pe_int (fun _ _ => rfl)) (pa_cons (pe_ix ix_tup (pv 4) (pv 7) (fun _ _ => rfl)) pa_nil)))) (pa_cons (pe_op op_mulW (pv 6) (pe_k C__law_power (hr.mono (by decide)) rfl (pa_cons (pe_ix ix_tup (pv 8) pe_int (fun _ _ => rfl)) (pa_cons (pe_ix ix_tup (pv 4) (pv 7) (fun _ _ => rfl)) pa_nil)))) pa_nil)) rfl))))
    (pss_one (ps_par (i := 2) (j := 3) rfl nd rfl rfl (by decide) rfl rfl (pa_cons (pe_op op_add (pe_op op_mulW (pv 2) (pv 6)) (pe_op op_mulW (pv 5) (pv 3))) (pa_cons (pe_op op_mulW (pv 3) (pv 6)) pa_nil)) rfl))))))
    (pss_one (ps_ret (pe_k C__law_low (hr.mono (by decide)) rfl (pa_cons (pv 2) (pa_cons (pv 3) pa_nil)))))))
/-! _law_mixed -/
theorem sc__law_mixed : FnScope ["_law_counts_here", "_law_degrees_here", "_law_shares", "_law_top", "_law_bottom", "_law_index", "_law_here", "_law_under", "_law_k", "_law_s", "_law_by", "_law_ways"] ["_law_counts_here", "_law_degrees_here", "_law_shares"] (defScope s__law_mixed) := ⟨rfl, rfl, rfl, by decide +kernel, rfl, by decide +kernel, by decide +kernel⟩
def t__law_mixed (P : Program) (w : World) (K : PySem.W.Frag) (p__law_low : Sp) (p__law_power : Sp) (p__law_binomial : Sp) : TS := (tSeq (tAsg (tTup (tCons (tC (.int 0)) (tCons (tC (.int 1)) tNil))) (gTup K 2 (gCons (gName 3) (gCons (gName 4) gNil))))
    (tSeq (tLock (tFor (iXKeys P w (tVar 0)) (gName 5) (tSeq (tAsg (tXGet P w K (tVar 0) (tVar 5)) (gTup K 2 (gCons (gName 6) (gCons (gName 7) gNil))))
    (tSeq (tFor (iRng1 (tCons (tCB (fun xs H Q => ∃ p ys, xs = [.ref p] ∧ (SqL K H p ys ∨ SqT K H p ys) ∧ Q (.int ys.length) H) (tCons (tVar 1) tNil)) tNil)) (gName 8) (tSeq (tAsg (tOp (rIxL K) (tVar 2) (tVar 8)) (gTup K 2 (gCons (gName 9) (gCons (gName 10) gNil))))
    (tSeq (tAsg (tCall p__law_binomial [] E0 (tCons (tOp (rIxL K) (tVar 1) (tVar 8)) (tCons (tOp (rIxT K) (tVar 5) (tVar 8)) tNil))) (gName 11))
    (tSeq (tAsg (tOp (rI CMulW fun i j => .int (i * j)) (tOp (rI CMulW fun i j => .int (i * j)) (tOp (rI CMulW fun i j => .int (i * j)) (tVar 6) (tVar 11)) (tCall p__law_power [] E0 (tCons (tVar 9) (tCons (tOp (rIxT K) (tVar 5) (tVar 8)) tNil)))) (tCall p__law_power [] E0 (tCons (tOp (rI0 fun i j => .int (i - j)) (tVar 10) (tVar 9)) (tCons (tOp (rI0 fun i j => .int (i - j)) (tOp (rIxL K) (tVar 1) (tVar 8)) (tOp (rIxT K) (tVar 5) (tVar 8))) tNil)))) (gName 6))
    (tAsg (tOp (rI CMulW fun i j => .int (i * j)) (tVar 7) (tCall p__law_power [] E0 (tCons (tVar 10) (tCons (tOp (rIxL K) (tVar 1) (tVar 8)) tNil)))) (gName 7))))))
    (tSeq (tPar 3 4 (tCons (tOp (rI0 fun i j => .int (i + j)) (tOp (rI CMulW fun i j => .int (i * j)) (tVar 3) (tVar 7)) (tOp (rI CMulW fun i j => .int (i * j)) (tVar 6) (tVar 4))) (tCons (tOp (rI CMulW fun i j => .int (i * j)) (tVar 4) (tVar 7)) tNil)))
    (tAsg (tCall p__law_low [] E0 (tCons (tVar 3) (tCons (tVar 4) tNil))) (gTup K 2 (gCons (gName 3) (gCons (gName 4) gNil)))))))))
    (tRet (tTup (tCons (tVar 3) (tCons (tVar 4) tNil))))))
theorem w__law_mixed {P : Program} {w : World} {K : PySem.W.Frag} {mg : Str → Option Value} {base : Heap} {p__law_low : Sp} {p__law_power : Sp} {p__law_binomial : Sp} (T : Tp K mg) (C__law_low : Cal P w K mg base 1 "_law_low" p__law_low) (C__law_power : Cal P w K mg base 1 "_law_power" p__law_power) (C__law_binomial : Cal P w K mg base 1 "_law_binomial" p__law_binomial) {f : Addr} {cdv : Value} {A : Around} {outer : List Env} {s : Shared} {H : Hp} {E : XK} (hr : Room 1 (A.deeper (envOfC "_law_mixed" (defScope s__law_mixed) s.heap.objs.size f cdv))) :
  PSs (cxOf CX0 P w K mg base ["_law_counts_here", "_law_degrees_here", "_law_shares", "_law_top", "_law_bottom", "_law_index", "_law_here", "_law_under", "_law_k", "_law_s", "_law_by", "_law_ways"] "_law_mixed" (defScope s__law_mixed) f cdv A outer s H E).nox (defBody s__law_mixed) (t__law_mixed P w K p__law_low p__law_power p__law_binomial) := by
  have nd := sc__law_mixed.nd
  have hu0 := hr.u0
  have hu1 := hr.u1
  have hu64 := hr.units
  have hu66 := hr.u66
  exact (pss_cons (ps_asg (pe_tup (pa_cons pe_int (pa_cons pe_int pa_nil))) (pg_tup rfl (pgs_cons (pg_name (i := 3) nd rfl (by first | exact .inl rfl | exact .inr rfl)) (pgs_cons (pg_name (i := 4) nd rfl (by first | exact .inl rfl | exact .inr rfl)) pgs_nil))))
    (pss_cons (ps_lock (ps_for PassesOwn.never rfl (pi_xkeys (pv 0)) (pg_name (i := 5) nd rfl (by first | exact .inl rfl | exact .inr rfl)) (pss_cons (ps_asg (pe_xget hu1 (pv 0) (pv 5) (fun _ _ => rfl)) (pg_tup rfl (pgs_cons (pg_name (i := 6) nd rfl (by first | exact .inl rfl | exact .inr rfl)) (pgs_cons (pg_name (i := 7) nd rfl (by first | exact .inl rfl | exact .inr rfl)) pgs_nil))))
    (pss_cons (ps_for PassesOwn.never rfl (pi_range1 rfl T.n_range (pa_cons (pe_callB call_len_seq rfl T.n_len PySem.boot_len (pa_cons (pv 1) pa_nil)) pa_nil)) (pg_name (i := 8) nd rfl (by first | exact .inl rfl | exact .inr rfl)) (pss_cons (ps_asg (pe_ix ix_list (pv 2) (pv 8) (fun _ _ => rfl)) (pg_tup rfl (pgs_cons (pg_name (i := 9) nd rfl (by first | exact .inl rfl | exact .inr rfl)) (pgs_cons (pg_name (i := 10) nd rfl (by first | exact .inl rfl | exact .inr rfl)) pgs_nil))))
    (pss_cons (ps_set (i := 11) nd rfl (by first | exact .inl rfl | exact .inr rfl) (pe_k C__law_binomial (hr.mono (by decide)) rfl (pa_cons (pe_ix ix_list (pv 1) (pv 8) (fun _ _ => rfl)) (pa_cons (pe_ix ix_tup (pv 5) (pv 8) (fun _ _ => rfl)) pa_nil))))
    (pss_cons (ps_set (i := 6) nd rfl (by first | exact .inl rfl | exact .inr rfl) (pe_op op_mulW (pe_op op_mulW (pe_op op_mulW (pv 6) (pv 11)) (pe_k C__law_power (hr.mono (by decide)) rfl (pa_cons (pv 9) (pa_cons (pe_ix ix_tup (pv 5) (pv 8) (fun _ _ => rfl)) pa_nil)))) (pe_k C__law_power (hr.mono (by decide)) rfl (pa_cons (pe_op op_sub (pv 10) (pv 9)) (pa_cons (pe_op op_sub (pe_ix ix_list (pv 1) (pv 8) (fun _ _ => rfl)) (pe_ix ix_tup (pv 5) (pv 8) (fun _ _ => rfl))) pa_nil)))))
    (pss_one (ps_set (i := 7) nd rfl (by first | exact .inl rfl | exact .inr rfl) (pe_op op_mulW (pv 7) (pe_k C__law_power (hr.mono (by decide)) rfl (pa_cons (pv 10) (pa_cons (pe_ix ix_list (pv 1) (pv 8) (fun _ _ => rfl)) pa_nil))))))))))
    (pss_cons (ps_par (i := 3) (j := 4) rfl nd rfl rfl (by decide) rfl rfl (pa_cons (pe_op op_add (pe_op op_mulW (pv 3) (pv 7)) (pe_op op_mulW (pv 6) (pv 4))) (pa_cons (pe_op op_mulW (pv 4) (pv 7)) pa_nil)) rfl)
    (pss_one (ps_asg (pe_k C__law_low (hr.mono (by decide)) rfl (pa_cons (pv 3) (pa_cons (pv 4) pa_nil))) (pg_tup rfl (pgs_cons (pg_name (i := 3) nd rfl (by first | exact .inl rfl | exact .inr rfl)) (pgs_cons (pg_name (i := 4) nd rfl (by first | exact .inl rfl | exact .inr rfl)) pgs_nil))))))))))
    (pss_one (ps_ret (pe_tup (pa_cons (pv 3) (pa_cons (pv 4) pa_nil)))))))
/-! law -/
theorem sc_law : FnScope ["_law_script", "_law_hand_here", "_law_turn", "_law_many", "_law_parts_here", "_law_box_here", "_law_poly_here", "_law_due", "_law_told", "_law_degrees_here", "_law_again", "_law_shares", "_law_point", "_law_k", "_law_a", "_law_b", "_law_c", "_law_d", "_law_by", "_law_s", "_law_sum_there"] ["_law_script"] (defScope s_law) := ⟨rfl, rfl, rfl, by decide +kernel, rfl, by decide +kernel, by decide +kernel⟩
def t_law (P : Program) (w : World) (K : PySem.W.Frag) (p_worth : Sp) (p__law_worth : Sp) (p__law_mixed : Sp) (p__law_low : Sp) (p__law_draw : Sp) (p__law_any : Sp) (p__law_degrees : Sp) (p_counts_over : Sp) (p__law_counts : Sp) (p__law_poly : Sp) (p__law_box : Sp) (p__law_parts : Sp) (p__law_hand : Sp) : TS := (tSeq (tAsg (tCall p__law_hand [] E0 (tCons (tVar 0) tNil)) (gName 1))
    (tSeq (tFor (iRng1 (tCons (tC (.int 2)) tNil)) (gName 2) (tSeq (tAsg (tCall p__law_any [] E0 (tCons (tVar 1) (tCons (tLst (tCons (tC (.int 0)) (tCons (tC (.int 1)) (tCons (tC (.int 1)) (tCons (tC (.int 2)) (tCons (tC (.int 2)) (tCons (tC (.int 3)) tNil))))))) tNil))) (gName 3))
    (tSeq (tAsg (tIf (tTest (tOp (rI0 fun i j => .bl (decide (j < i))) (tCall p__law_draw [] E0 (tCons (tVar 1) (tCons (tC (.int 8)) tNil))) (tC (.int 0)))) (tCall p__law_parts [] E0 (tCons (tVar 1) (tCons (tVar 3) (tCons (tC (.int 3)) (tCons (tC (.int 5)) tNil))))) (tXNew P w)) (gName 4))
    (tSeq (tIfS (tAnd (tTest (tOp rEq (tVar 2) (tC (.int 0)))) (tTest (tOp rEq (tCall p__law_draw [] E0 (tCons (tVar 1) (tCons (tC (.int 12)) tNil))) (tC (.int 0))))) (tPar 3 4 (tCons (tC (.int 1)) (tCons (tCall p__law_parts [] E0 (tCons (tVar 1) (tCons (tC (.int 1)) (tCons (tCall p__law_any [] E0 (tCons (tVar 1) (tCons (tLst (tCons (tC (.int 9)) (tCons (tC (.int 12)) (tCons (tC (.int 20)) (tCons (tC (.int 60)) tNil))))) tNil))) (tCons (tC (.int 3)) tNil))))) tNil))) tNext)
    (tSeq (tAsg (tCall p__law_box [] E0 (tCons (tVar 1) (tCons (tCall p__law_any [] E0 (tCons (tVar 1) (tCons (tLst (tCons (tVar 3) (tCons (tVar 3) (tCons (tC (.int 3)) tNil)))) tNil))) tNil))) (gName 5))
    (tSeq (tPar 6 7 (tCons (tCall p__law_poly [] E0 (tCons (tVar 4) tNil)) (tCons (tCall p__law_counts [] E0 (tCons (tVar 4) (tCons (tVar 5) tNil))) tNil)))
    (tSeq (tAsg (tCall p_counts_over [] E0 (tCons (tVar 6) (tCons (tVar 5) tNil))) (gName 8))
    (tSeq (tIfS (tOr (tNot (tB (tCB (rXIsD P w) (tCons (tVar 8) (tCons (tC (.ty "dict")) tNil))))) (tTest (tOp (rXNe P w K) (tVar 8) (tVar 7)))) (tRet (tC (.bl false))) tNext)
    (tSeq (tDrop (tMG0 (tyX P w) (rXClear P w) (tVar 8)))
    (tSeq (tIfS (tTest (tOp (rXNe P w K) (tCall p_counts_over [] E0 (tCons (tVar 6) (tCons (tVar 5) tNil))) (tVar 7))) (tRet (tC (.bl false))) tNext)
    (tSeq (tAsg (tCall p__law_degrees [] E0 (tCons (tVar 4) (tCons (tCB (fun xs H Q => ∃ p ys, xs = [.ref p] ∧ (SqL K H p ys ∨ SqT K H p ys) ∧ Q (.int ys.length) H) (tCons (tVar 5) tNil)) tNil))) (gName 9))
    (tFor (iRng1 (tCons (tC (.int 2)) tNil)) (gName 10) (tSeq (tPar 11 12 (tCons (tLst tNil) (tCons (tLst tNil) tNil)))
    (tSeq (tFor (iRng1 (tCons (tCB (fun xs H Q => ∃ p ys, xs = [.ref p] ∧ (SqL K H p ys ∨ SqT K H p ys) ∧ Q (.int ys.length) H) (tCons (tVar 5) tNil)) tNil)) (gName 13) (tSeq (tAsg (tOp (rIxT K) (tVar 5) (tVar 13)) (gTup K 2 (gCons (gTup K 2 (gCons (gName 14) (gCons (gName 15) gNil))) (gCons (gTup K 2 (gCons (gName 16) (gCons (gName 17) gNil))) gNil))))
    (tSeq (tAsg (tCall p__law_any [] E0 (tCons (tVar 1) (tCons (tLst (tCons (tC (.int 1)) (tCons (tC (.int 2)) (tCons (tC (.int 3)) (tCons (tC (.int 10)) tNil))))) tNil))) (gName 18))
    (tSeq (tAsg (tCall p__law_draw [] E0 (tCons (tVar 1) (tCons (tOp (rI0 fun i j => .int (i + j)) (tVar 18) (tC (.int 1))) tNil))) (gName 19))
    (tSeq (tDrop (tBM K "list" rAppend (tVar 11) (tCons (tTup (tCons (tVar 19) (tCons (tVar 18) tNil))) tNil)))
    (tDrop (tBM K "list" rAppend (tVar 12) (tCons (tCall p__law_low [] E0 (tCons (tOp (rI0 fun i j => .int (i + j)) (tOp (rI CMulW fun i j => .int (i * j)) (tOp (rI CMulW fun i j => .int (i * j)) (tVar 14) (tVar 17)) (tOp (rI0 fun i j => .int (i - j)) (tVar 18) (tVar 19))) (tOp (rI CMulW fun i j => .int (i * j)) (tOp (rI CMulW fun i j => .int (i * j)) (tVar 16) (tVar 15)) (tVar 19))) (tCons (tOp (rI CMulW fun i j => .int (i * j)) (tOp (rI CMulW fun i j => .int (i * j)) (tVar 15) (tVar 17)) (tVar 18)) tNil))) tNil))))))))
    (tSeq (tAsg (tCall p__law_mixed [] E0 (tCons (tVar 7) (tCons (tVar 9) (tCons (tVar 11) tNil)))) (gName 20))
    (tSeq (tIfS (tTest (tOp (rNeT K) (tVar 20) (tCall p__law_worth [] E0 (tCons (tVar 4) (tCons (tVar 12) tNil))))) (tRet (tC (.bl false))) tNext)
    (tIfS (tTest (tOp (rNeT K) (tCall p_worth [] E0 (tCons (tVar 6) (tCons (tCB (fun xs H Q => ∃ p ys, xs = [.ref p] ∧ ((SqL K H p ys ∧ ∀ l, H l = none → Q (.ref l) (upd H l (.tup ys))) ∨ (SqT K H p ys ∧ Q (.ref p) H))) (tCons (tOp rCat (tVar 12) (tOp rRep (tLst (tCons (tTup (tCons (tC (.int 0)) (tCons (tC (.int 1)) tNil))) tNil)) (tOp (rI0 fun i j => .int (i - j)) (tC (.int 4)) (tCB (fun xs H Q => ∃ p ys, xs = [.ref p] ∧ (SqL K H p ys ∨ SqT K H p ys) ∧ Q (.int ys.length) H) (tCons (tVar 12) tNil))))) tNil)) tNil))) (tVar 20))) (tRet (tC (.bl false))) tNext)))))))))))))))))
    (tRet (tC (.bl true)))))
theorem w_law {P : Program} {w : World} {K : PySem.W.Frag} {mg : Str → Option Value} {base : Heap} {p_worth : Sp} {p__law_worth : Sp} {p__law_mixed : Sp} {p__law_low : Sp} {p__law_draw : Sp} {p__law_any : Sp} {p__law_degrees : Sp} {p_counts_over : Sp} {p__law_counts : Sp} {p__law_poly : Sp} {p__law_box : Sp} {p__law_parts : Sp} {p__law_hand : Sp} (T : Tp K mg) (C_worth : Cal P w K mg base 6 "worth" p_worth) (C__law_worth : Cal P w K mg base 2 "_law_worth" p__law_worth) (C__law_mixed : Cal P w K mg base 2 "_law_mixed" p__law_mixed) (C__law_low : Cal P w K mg base 1 "_law_low" p__law_low) (C__law_draw : Cal P w K mg base 1 "_law_draw" p__law_draw) (C__law_any : Cal P w K mg base 2 "_law_any" p__law_any) (C__law_degrees : Cal P w K mg base 1 "_law_degrees" p__law_degrees) (C_counts_over : Cal P w K mg base 8 "counts_over" p_counts_over) (C__law_counts : Cal P w K mg base 3 "_law_counts" p__law_counts) (C__law_poly : Cal P w K mg base 6 "_law_poly" p__law_poly) (C__law_box : Cal P w K mg base 4 "_law_box" p__law_box) (C__law_parts : Cal P w K mg base 3 "_law_parts" p__law_parts) (C__law_hand : Cal P w K mg base 1 "_law_hand" p__law_hand) {f : Addr} {cdv : Value} {A : Around} {outer : List Env} {s : Shared} {H : Hp} {E : XK} (hr : Room 8 (A.deeper (envOfC "law" (defScope s_law) s.heap.objs.size f cdv))) :
  PSs (cxOf CX0 P w K mg base ["_law_script", "_law_hand_here", "_law_turn", "_law_many", "_law_parts_here", "_law_box_here", "_law_poly_here", "_law_due", "_law_told", "_law_degrees_here", "_law_again", "_law_shares", "_law_point", "_law_k", "_law_a", "_law_b", "_law_c", "_law_d", "_law_by", "_law_s", "_law_sum_there"] "law" (defScope s_law) f cdv A outer s H E).nox (defBody s_law) (t_law P w K p_worth p__law_worth p__law_mixed p__law_low p__law_draw p__law_any p__law_degrees p_counts_over p__law_counts p__law_poly p__law_box p__law_parts p__law_hand) := by
  have nd := sc_law.nd
  have hu0 := hr.u0
  have hu1 := hr.u1
  have hu64 := hr.units
  have hu66 := hr.u66
  exact (pss_cons (ps_set (i := 1) nd rfl (by first | exact .inl rfl | exact .inr rfl) (pe_k C__law_hand (hr.mono (by decide)) rfl (pa_cons (pv 0) pa_nil)))
    (pss_cons (ps_for PassesOwn.never rfl (pi_range1 rfl T.n_range (pa_cons pe_int pa_nil)) (pg_name (i := 2) nd rfl (by first | exact .inl rfl | exact .inr rfl)) (pss_cons (ps_set (i := 3) nd rfl (by first | exact .inl rfl | exact .inr rfl) (pe_k C__law_any (hr.mono (by decide)) rfl (pa_cons (pv 1) (pa_cons (pe_lst (pa_cons pe_int (pa_cons pe_int (pa_cons pe_int (pa_cons pe_int (pa_cons pe_int (pa_cons pe_int pa_nil))))))) pa_nil))))
    (pss_cons (ps_set (i := 4) nd rfl (by first | exact .inl rfl | exact .inr rfl) (pe_ifExp (pt_cmpR op_gt (pe_k C__law_draw (hr.mono (by decide)) rfl (pa_cons (pv 1) (pa_cons pe_int pa_nil))) pe_int (nomark _)) (pe_k C__law_parts (hr.mono (by decide)) rfl (pa_cons (pv 1) (pa_cons (pv 3) (pa_cons pe_int (pa_cons pe_int pa_nil))))) pe_xnew))
    (pss_cons (ps_if (PW.pt (pw_and (pt_cmpR op_eq (pv 2) pe_int (nomark _)) (pw_and1 (pt_cmpR op_eq (pe_k C__law_draw (hr.mono (by decide)) rfl (pa_cons (pv 1) (pa_cons pe_int pa_nil))) pe_int (nomark _))))) (pss_one (ps_par (i := 3) (j := 4) rfl nd rfl rfl (by decide) rfl rfl (pa_cons pe_int (pa_cons (pe_k C__law_parts (hr.mono (by decide)) rfl (pa_cons (pv 1) (pa_cons pe_int (pa_cons (pe_k C__law_any (hr.mono (by decide)) rfl (pa_cons (pv 1) (pa_cons (pe_lst (pa_cons pe_int (pa_cons pe_int (pa_cons pe_int (pa_cons pe_int pa_nil))))) pa_nil))) (pa_cons pe_int pa_nil))))) pa_nil)) rfl)) pss_nil)
    (pss_cons (ps_set (i := 5) nd rfl (by first | exact .inl rfl | exact .inr rfl) (pe_k C__law_box (hr.mono (by decide)) rfl (pa_cons (pv 1) (pa_cons (pe_k C__law_any (hr.mono (by decide)) rfl (pa_cons (pv 1) (pa_cons (pe_lst (pa_cons (pv 3) (pa_cons (pv 3) (pa_cons pe_int pa_nil)))) pa_nil))) pa_nil))))
    (pss_cons (ps_par (i := 6) (j := 7) rfl nd rfl rfl (by decide) rfl rfl (pa_cons (pe_k C__law_poly (hr.mono (by decide)) rfl (pa_cons (pv 4) pa_nil)) (pa_cons (pe_k C__law_counts (hr.mono (by decide)) rfl (pa_cons (pv 4) (pa_cons (pv 5) pa_nil))) pa_nil)) rfl)
    (pss_cons (ps_set (i := 8) nd rfl (by first | exact .inl rfl | exact .inr rfl) (pe_k C_counts_over (hr.mono (by decide)) rfl (pa_cons (pv 6) (pa_cons (pv 5) pa_nil))))
    (pss_cons (ps_if (PW.pt (pw_or (pt_not (pt_val (pe_callB (call_xisd) rfl T.n_isinstance PyProof.Rows.boot_isinstance (pa_cons (pv 8) (pa_cons (pe_bltn rfl T.n_dict PyProof.Rows.boot_dict rfl) pa_nil))))) (pw_or1 (pt_cmpR (op_xne hu66) (pv 8) (pv 7) (nomark _))))) (pss_one (ps_ret pe_bl)) pss_nil)
    (pss_cons (ps_expr (pe_mG0 ty_X PySem.F.plainAttrs_dict PySem.F.slot_dict_clear PySem.F.type_dict_clear mt_xclear (pv 8)))
    (pss_cons (ps_if (pt_cmpR (op_xne hu66) (pe_k C_counts_over (hr.mono (by decide)) rfl (pa_cons (pv 6) (pa_cons (pv 5) pa_nil))) (pv 7) (nomark _)) (pss_one (ps_ret pe_bl)) pss_nil)
    (pss_cons (ps_set (i := 9) nd rfl (by first | exact .inl rfl | exact .inr rfl) (pe_k C__law_degrees (hr.mono (by decide)) rfl (pa_cons (pv 4) (pa_cons (pe_callB call_len_seq rfl T.n_len PySem.boot_len (pa_cons (pv 5) pa_nil)) pa_nil))))
    (pss_one (ps_for PassesOwn.never rfl (pi_range1 rfl T.n_range (pa_cons pe_int pa_nil)) (pg_name (i := 10) nd rfl (by first | exact .inl rfl | exact .inr rfl)) (pss_cons (ps_par (i := 11) (j := 12) rfl nd rfl rfl (by decide) rfl rfl (pa_cons (pe_lst pa_nil) (pa_cons (pe_lst pa_nil) pa_nil)) rfl)
    (pss_cons (ps_for PassesOwn.never rfl (pi_range1 rfl T.n_range (pa_cons (pe_callB call_len_seq rfl T.n_len PySem.boot_len (pa_cons (pv 5) pa_nil)) pa_nil)) (pg_name (i := 13) nd rfl (by first | exact .inl rfl | exact .inr rfl)) (pss_cons (ps_asg (pe_ix ix_tup (pv 5) (pv 13) (fun _ _ => rfl)) (pg_tup rfl (pgs_cons (pg_tup rfl (pgs_cons (pg_name (i := 14) nd rfl (by first | exact .inl rfl | exact .inr rfl)) (pgs_cons (pg_name (i := 15) nd rfl (by first | exact .inl rfl | exact .inr rfl)) pgs_nil))) (pgs_cons (pg_tup rfl (pgs_cons (pg_name (i := 16) nd rfl (by first | exact .inl rfl | exact .inr rfl)) (pgs_cons (pg_name (i := 17) nd rfl (by first | exact .inl rfl | exact .inr rfl)) pgs_nil))) pgs_nil))))
    (pss_cons (ps_set (i := 18) nd rfl (by first | exact .inl rfl | exact .inr rfl) (pe_k C__law_any (hr.mono (by decide)) rfl (pa_cons (pv 1) (pa_cons (pe_lst (pa_cons pe_int (pa_cons pe_int (pa_cons pe_int (pa_cons pe_int pa_nil))))) pa_nil))))
    (pss_cons (ps_set (i := 19) nd rfl (by first | exact .inl rfl | exact .inr rfl) (pe_k C__law_draw (hr.mono (by decide)) rfl (pa_cons (pv 1) (pa_cons (pe_op op_add (pv 18) pe_int) pa_nil))))
    (pss_cons (ps_expr (pe_bm PySem.F.plainAttrs_list PySem.F.slot_list_append PySem.F.type_list_append mt_append (pv 11) (pa_cons (pe_tup (pa_cons (pv 19) (pa_cons (pv 18) pa_nil))) pa_nil)))
    (pss_one (ps_expr (pe_bm PySem.F.plainAttrs_list PySem.F.slot_list_append PySem.F.type_list_append mt_append (pv 12) (pa_cons (pe_k C__law_low (hr.mono (by decide)) rfl (pa_cons (pe_op op_add (pe_op op_mulW (pe_op op_mulW (pv 14) (pv 17)) (pe_op op_sub (pv 18) (pv 19))) (pe_op op_mulW (pe_op op_mulW (pv 16) (pv 15)) (pv 19))) (pa_cons (pe_op op_mulW (pe_op op_mulW (pv 15) (pv 17)) (pv 18)) pa_nil))) pa_nil)))))))))
    (pss_cons (ps_set (i := 20) nd rfl (by first | exact .inl rfl | exact .inr rfl) (pe_k C__law_mixed (hr.mono (by decide)) rfl (pa_cons (pv 7) (pa_cons (pv 9) (pa_cons (pv 11) pa_nil)))))
    (pss_cons (ps_if (pt_cmpR (op_neT hu64) (pv 20) (pe_k C__law_worth (hr.mono (by decide)) rfl (pa_cons (pv 4) (pa_cons (pv 12) pa_nil))) (nomark _)) (pss_one (ps_ret pe_bl)) pss_nil)
    (pss_one (ps_if (pt_cmpR (op_neT hu64) (pe_k C_worth (hr.mono (by decide)) rfl (pa_cons (pv 6) (pa_cons (pe_callTy call_tuple_of rfl T.n_tuple PyProof.Rows.boot_tuple (pa_cons (pe_op op_cat (pv 12) (pe_op op_rep (pe_lst (pa_cons (pe_tup (pa_cons pe_int (pa_cons pe_int pa_nil))) pa_nil)) (pe_op op_sub pe_int (pe_callB call_len_seq rfl T.n_len PySem.boot_len (pa_cons (pv 12) pa_nil))))) pa_nil)) pa_nil))) (pv 20) (nomark _)) (pss_one (ps_ret pe_bl)) pss_nil)))))))))))))))))))
    (pss_one (ps_ret pe_bl))))
end Bx

set_option Elab.async false
set_option linter.all false
set_option maxRecDepth 100000
set_option maxHeartbeats 2000000
namespace Bx
open PySem PySem.Spec PyProof.Rows L2
/-! ### keys in order -/
def insK {α : Type} (x : List Int × α) : List (List Int × α) → List (List Int × α)
  | [] => [x]
  | y :: ys => if x.1 < y.1 then x :: y :: ys else y :: insK x ys
def srtK {α : Type} (xs : List (List Int × α)) : List (List Int × α) := xs.foldr insK []
theorem insK_perm {α : Type} (x : List Int × α) : ∀ ys, (insK x ys).Perm (x :: ys)
  | [] => .refl _
  | y :: ys => by
    unfold insK
    by_cases h : x.1 < y.1
    · rw [if_pos h]
    · rw [if_neg h]
      exact ((insK_perm x ys).cons y).trans (.swap x y ys)
theorem srtK_perm {α : Type} : ∀ xs : List (List Int × α), (srtK xs).Perm xs
  | [] => .refl _
  | x :: xs => (insK_perm x _).trans ((srtK_perm xs).cons x)
abbrev KLt {α : Type} (x y : List Int × α) : Prop := x.1 < y.1
theorem nlt_lt {x y : List Int} (h : ¬ x < y) (hn : x ≠ y) : y < x := by
  rw [List.not_lt] at h
  rcases List.le_iff_lt_or_eq.mp h with h | h
  · exact h
  · exact absurd h.symm hn
theorem insK_sorted {α : Type} (x : List Int × α) : ∀ ys : List (List Int × α), ys.Pairwise KLt → (∀ y ∈ ys, x.1 ≠ y.1) → (insK x ys).Pairwise KLt
  | [], _, _ => .cons (fun _ h => nomatch h) .nil
  | y :: ys, h, n => by
    unfold insK
    obtain ⟨h1, h2⟩ := List.pairwise_cons.mp h
    by_cases c : x.1 < y.1
    · rw [if_pos c]
      refine .cons (fun z hz => ?_) h
      rcases List.mem_cons.mp hz with rfl | hz
      · exact c
      · exact List.lt_trans c (h1 z hz)
    · rw [if_neg c]
      refine .cons (fun z hz => ?_) (insK_sorted x ys h2 fun z hz => n z (List.mem_cons_of_mem _ hz))
      rcases List.mem_cons.mp ((insK_perm x ys).mem_iff.mp hz) with rfl | hz
      · exact nlt_lt c (n y List.mem_cons_self)
      · exact h1 z hz
theorem srtK_sorted {α : Type} : ∀ xs : List (List Int × α), (xs.map (·.1)).Nodup → (srtK xs).Pairwise KLt
  | [], _ => .nil
  | x :: xs, h => by
    rw [List.map_cons] at h
    obtain ⟨h1, h2⟩ := List.nodup_cons.mp h
    refine insK_sorted x _ (srtK_sorted xs h2) fun y hy e => h1 ?_
    rw [e]
    exact List.mem_map_of_mem ((srtK_perm xs).mem_iff.mp hy)
theorem sorted_uniq : ∀ {xs ys : List (List Int)}, xs.Perm ys → xs.Pairwise (· < ·) → ys.Pairwise (· < ·) → xs = ys
  | [], ys, p, _, _ => (List.Perm.nil_eq p)
  | x :: xs, [], p, _, _ => absurd p.length_eq (by simp)
  | x :: xs, y :: ys, p, hx, hy => by
    obtain ⟨x1, x2⟩ := List.pairwise_cons.mp hx
    obtain ⟨y1, y2⟩ := List.pairwise_cons.mp hy
    have e : x = y := by
      have m1 : x ∈ y :: ys := p.mem_iff.mp List.mem_cons_self
      have m2 : y ∈ x :: xs := p.mem_iff.mpr List.mem_cons_self
      rcases List.mem_cons.mp m1 with e | m1
      · exact e
      · rcases List.mem_cons.mp m2 with e | m2
        · exact e.symm
        · exact absurd (List.lt_trans (x1 y m2) (y1 x m1)) (List.lt_irrefl x)
    subst e
    rw [sorted_uniq p.cons_inv x2 y2]
/-- look-up in a list of entries whose keys differ -/
theorem lkT_mem {α : Type} : ∀ {xs : List (List Int × α)} {e : List Int × α}, (xs.map (·.1)).Nodup → e ∈ xs → lkT xs e.1 = some e.2
  | x :: xs, e, h, m => by
    rw [List.map_cons] at h
    obtain ⟨h1, h2⟩ := List.nodup_cons.mp h
    rcases List.mem_cons.mp m with rfl | m
    · simp [lkT, List.find?_cons]
    · have ne : ¬ x.1 = e.1 := fun z => h1 (by rw [z]; exact List.mem_map_of_mem m)
      have b : lkT (x :: xs) e.1 = lkT xs e.1 := by simp [lkT, List.find?_cons, ne]
      rw [b]; exact lkT_mem h2 m
theorem lkT_none {α : Type} : ∀ {xs : List (List Int × α)} {k : List Int}, k ∉ xs.map (·.1) → lkT xs k = none
  | [], _, _ => rfl
  | x :: xs, k, h => by
    rw [List.map_cons, List.mem_cons, not_or] at h
    have ne : ¬ x.1 = k := fun z => h.1 z.symm
    have b : lkT (x :: xs) k = lkT xs k := by simp [lkT, List.find?_cons, ne]
    rw [b]; exact lkT_none h.2
theorem lkT_some {α : Type} : ∀ {xs : List (List Int × α)} {k : List Int} {v : α}, lkT xs k = some v → (k, v) ∈ xs
  | [], _, _, h => by simp [lkT] at h
  | x :: xs, k, v, h => by
    by_cases e : x.1 = k
    · have b : lkT (x :: xs) k = some x.2 := by simp [lkT, List.find?_cons, e]
      rw [b] at h; cases h; subst e; exact List.mem_cons_self
    · have b : lkT (x :: xs) k = lkT xs k := by simp [lkT, List.find?_cons, e]
      rw [b] at h; exact List.mem_cons_of_mem _ (lkT_some h)
theorem ptT_keys {α : Type} (xs : List (List Int × α)) (k : List Int) (v : α) : (ptT xs k v).map (·.1) = if k ∈ xs.map (·.1) then xs.map (·.1) else xs.map (·.1) ++ [k] := by
  unfold ptT
  by_cases h : k ∈ xs.map (·.1)
  · have hs : (lkT xs k).isSome = true := by
      cases e : lkT xs k with
      | some v => rfl
      | none =>
        obtain ⟨y, hy, rfl⟩ := List.mem_map.mp h
        exfalso
        unfold lkT at e
        rw [Option.map_eq_none_iff, List.find?_eq_none] at e
        exact e y hy (by simp)
    rw [if_pos hs, if_pos h, List.map_map]
    apply List.map_congr_left
    intro e _
    simp only [Function.comp]
    split <;> rfl
  · rw [lkT_none h, if_neg h, if_neg (by simp), List.map_append]
    rfl
theorem ptT_nodup {α : Type} {xs : List (List Int × α)} {k : List Int} {v : α} (h : (xs.map (·.1)).Nodup) : ((ptT xs k v).map (·.1)).Nodup := by
  rw [ptT_keys]
  split
  · exact h
  · rename_i n
    rw [List.nodup_append]
    refine ⟨h, by simp, fun a ha b hb e => ?_⟩
    rw [List.mem_singleton] at hb
    subst hb
    exact n (e ▸ ha)
theorem ptT_mem {α : Type} {xs : List (List Int × α)} {k : List Int} {v : α} {e : List Int × α} (h : e ∈ ptT xs k v) : e = (k, v) ∨ e ∈ xs := by
  unfold ptT at h
  split at h
  · obtain ⟨y, hy, rfl⟩ := List.mem_map.mp h
    split
    · rename_i e; left; rw [← e]
    · exact .inr hy
  · rcases List.mem_append.mp h with h | h
    · exact .inr h
    · rw [List.mem_singleton] at h; exact .inl h
/-! ### further expressions -/
section
variable {α β γ δ ε : Type} {R : Rp α} {S : Rp β} {R3 : Rp γ} {R4 : Rp δ} {K : PySem.W.Frag} {P : Program} {w : World} {σ : L2.St} {H H' : Hp} {ta tb tc te : TE} {t u : TT} {x : α} {y : β} {i j : Int}
theorem ty_tu {a : Addr} {xs : List V} (h : Tu K H a xs) : TyX K H (.ref a) (.type "tuple") := by
  rcases h with h | h
  · exact .base (.tup h)
  · have h0 := h (fun _ => none)
    unfold SqT at h0
    rcases h0 with (h0 | ⟨o, h0⟩) | h0
    · cases h0
    · cases h0
    · obtain ⟨o, n, its, e, h1, _⟩ := h0
      exact .kTuple e h1
theorem ev_isi {A B : String} {b : Bool} (ha : EvR R ta σ H x) (ty : ∀ H v, R H v x → TyX K H v (.type A)) (hk : kitB A B = some b) : EvR RB (tCB (rIsi K) (tCons ta (tCons (tC (.ty B)) tNil))) σ H b := fun H1 e Q q =>
  ha H1 e _ fun v H2 e2 r => ⟨v, .ty B, _, _, b, rfl, .ty B, ty H2 v r, kit_ty hk, q _ H2 e2 rfl⟩
theorem ty_int : ∀ (H : Hp) (v : V), RI H v i → TyX K H v (.type "int") := fun _ v r => by cases r; exact .base (.int i)
theorem ty_rt {xs : List α} : ∀ (H : Hp) (v : V), RT K R H v xs → TyX K H v (.type "tuple") := fun _ v ⟨a, vs, e, t, _⟩ => by subst e; exact ty_tu t
theorem ty_rp {p : α × β} : ∀ (H : Hp) (v : V), RP K R S H v p → TyX K H v (.type "tuple") := fun _ v ⟨a, z, z', e, t, _⟩ => by subst e; exact ty_tu t
theorem ev_isT {xs : List α} (ha : EvR (RT K R) ta σ H xs) : EvR RB (tCB (rIsi K) (tCons ta (tCons (tC (.ty "tuple")) tNil))) σ H true := ev_isi ha ty_rt (by decide +kernel)
theorem ev_isP {p : α × β} (ha : EvR (RP K R S) ta σ H p) : EvR RB (tCB (rIsi K) (tCons ta (tCons (tC (.ty "tuple")) tNil))) σ H true := ev_isi ha ty_rp (by decide +kernel)
theorem paired_bools : ∀ {vs : List V} {ns : List Bool}, Paired (RB H) vs ns → vs = ns.map V.bl
  | _, _, .nil => rfl
  | _, _, .cons r t => by rw [List.map_cons, ← paired_bools t]; exact congrArg (· :: _) r
theorem ev_all {bs : List Bool} (ha : EvR (RL RB) ta σ H bs) : EvR RB (tCB (rAll K) (tCons ta tNil)) σ H (bs.all id) := fun H1 e Q q =>
  ha H1 e _ fun v H2 e2 ⟨a, vs, ev, hl, p⟩ => by
    rw [paired_bools p] at hl
    exact ⟨a, bs, by rw [ev], .inl (.inl hl), q _ H2 e2 rfl⟩
theorem ev_max {ns : List Int} {m : Int} (ha : EvR (RL RI) ta σ H ns) (hm : m ∈ ns) (hle : ∀ y ∈ ns, y ≤ m) : EvR RI (tCB (rMax K) (tCons ta tNil)) σ H m := fun H1 e Q q =>
  ha H1 e _ fun v H2 e2 ⟨a, vs, ev, hl, p⟩ => by
    rw [paired_ints p] at hl
    refine ⟨a, ns, by rw [ev], .inl (.inl hl), List.length_pos_of_mem hm, fun m' hm' hle' => ?_⟩
    have e : m' = m := Int.le_antisymm (hle m' hm') (hle' m hm)
    subst e
    exact q _ H2 e2 rfl
theorem paired_rev {F : V → α → Prop} {vs : List V} {xs : List α} (p : Paired F vs xs) : Paired F vs.reverse xs.reverse := by
  induction p with
  | nil => exact .nil
  | cons r t ih => rw [List.reverse_cons, List.reverse_cons]; exact Paired.app ih (.cons r .nil)
theorem ev_revL [MonoE R] {xs : List α} (ha : EvR (RL R) ta σ H xs) : EvR (RL R) (tRevL K ta) σ H xs.reverse := fun H1 e Q q =>
  ha H1 e _ fun v H2 e2 ⟨a, vs, ev, hl, p⟩ => ⟨a, vs, ev, .inl (.inl hl), fun d hd => q _ _ (e2.trans (Ex.new hd)) ⟨d, _, rfl, upd_same, paired_rev (Paired.imp p fun _ _ r => MonoE.ex (Ex.new hd) r)⟩⟩
theorem RD.ty {xs : List (List Int × α)} {v : V} (h : RD P w K R H v xs) : tyX P w v H := by
  obtain ⟨a, es, e, rd, _⟩ := h
  exact ⟨a, es, e, rd⟩
theorem ev_get2 [Mono R] {xs : List (List Int × α)} {k : List Int} {d : α} (ha : EvR (RD P w K R) ta σ H xs) (hk : EvR (RN K) tb σ H k) (hd : EvR R tc σ H d) : EvR R (tMG (tyX P w) (rXGet2 P w K) ta (tCons tb (tCons tc tNil))) σ H ((lkT xs k).getD d) := fun H1 e Q q =>
  ha H1 e _ fun v H2 e2 r => ⟨r.ty, hk H2 (e.trans e2) _ fun u H3 e3 r3 => hd H3 ((e.trans e2).trans e3) _ fun z H4 e4 r4 => by
    obtain ⟨es, da, s⟩ := RD.at (MonoE.ex (e3.trans e4) r)
    obtain ⟨b, rfl, tb⟩ := rn_iff.mp (MonoE.ex e4 r3)
    refine ⟨es, b, k, z, da, rfl, tb.sq, q _ H4 ((e2.trans e3).trans e4) ?_⟩
    rcases s.lk k with ⟨h1, h2⟩ | ⟨v, x, h1, h2, h3⟩
    · rw [h1, h2]; exact r4
    · rw [h1, h2]; exact h3⟩
theorem ev_ltN {xs ys : List Int} (ha : EvR (RN K) ta σ H xs) (hb : EvR (RN K) tb σ H ys) : EvR RB (tOp (rLtT K) ta tb) σ H (decide (xs < ys)) := fun H1 e Q q =>
  ha H1 e _ fun v H2 e2 r => hb H2 (e.trans e2) _ fun u H3 e3 r' => by
    obtain ⟨a, rfl, t⟩ := rn_iff.mp (MonoE.ex e3 r)
    obtain ⟨b, rfl, t'⟩ := rn_iff.mp r'
    refine ⟨a, b, xs, ys, rfl, rfl, t.sq, t'.sq, ?_⟩
    rw [lexLt_lt]
    exact q _ H3 (e2.trans e3) rfl
theorem ev_eqN {xs ys : List Int} (ha : EvR (RN K) ta σ H xs) (hb : EvR (RN K) tb σ H ys) : EvR RB (tOp (rEqT K) ta tb) σ H (decide (xs = ys)) := fun H1 e Q q =>
  ha H1 e _ fun v H2 e2 r => hb H2 (e.trans e2) _ fun u H3 e3 r' => ⟨xs, ys, rn_tupI (MonoE.ex e3 r), rn_tupI r', q _ H3 (e2.trans e3) rfl⟩
theorem ev_neN {xs ys : List Int} (ha : EvR (RN K) ta σ H xs) (hb : EvR (RN K) tb σ H ys) : EvR RB (tOp (rNeT K) ta tb) σ H (!decide (xs = ys)) := fun H1 e Q q =>
  ha H1 e _ fun v H2 e2 r => hb H2 (e.trans e2) _ fun u H3 e3 r' => ⟨xs, ys, rn_tupI (MonoE.ex e3 r), rn_tupI r', q _ H3 (e2.trans e3) rfl⟩
/-! ### dicts -/
/-- a dict that is not being walked -/
def RDX (P : Program) (w : World) (K : PySem.W.Frag) (R : Rp α) : Rp (List (List Int × α)) := fun H v xs => ∃ a es, v = .ref a ∧ H a = some (DO P w a es) ∧ EnS K R H es xs
instance [Mono R] : MonoE (RDX P w K R) := ⟨fun e ⟨a, es, h, t, p⟩ => ⟨a, es, h, e _ _ t, p.im e.im⟩⟩
theorem RDX.rd {xs : List (List Int × α)} {v : V} (h : RDX P w K R H v xs) : RD P w K R H v xs := by
  obtain ⟨a, es, e, hd, s⟩ := h
  exact ⟨a, es, e, .inl hd, s⟩
theorem EvR.rd {xs : List (List Int × α)} (h : EvR (RDX P w K R) te σ H xs) : EvR (RD P w K R) te σ H xs := fun H1 e Q q => h H1 e _ fun v H2 e2 r => q v H2 e2 r.rd
theorem ev_xnew : EvR (RDX P w K R) (tXNew P w) σ H [] := fun H1 e Q q => fun p hp => q _ _ (Ex.new hp) ⟨p, [], rfl, upd_same, .nil⟩
theorem ev_disp1 [Mono R] {k : List Int} (hk : EvR (RN K) tb σ H k) (hv : EvR R tc σ H x) : EvR (RDX P w K R) (tXDisp1 P w K tb tc) σ H [(k, x)] := fun H1 e Q q => fun p hp =>
  hk _ (e.trans (Ex.new hp)) _ fun u H3 e3 r3 => hv H3 ((e.trans (Ex.new hp)).trans e3) _ fun z H4 e4 r4 => by
    have hd : H4 p = some (DO P w p []) := e4 _ _ (e3 _ _ upd_same)
    obtain ⟨b, rfl, tb⟩ := rn_iff.mp (MonoE.ex e4 r3)
    have im : Im H4 (upd H4 p (DO P w p [(k, b, z)])) := Im.upd hd rfl
    exact ⟨hd, b, k, rfl, tb.sq, q _ _ (((Ex.new hp).trans (e3.trans e4)).mut hp) ⟨p, _, rfl, upd_same, .cons ⟨rfl, tb.im im, Mono.im im r4⟩ .nil⟩⟩
theorem ens_keys {es : List En} {xs : List (List Int × α)} (s : EnS K R H es xs) : es.map (·.1) = xs.map (·.1) := by
  induction s with
  | nil => rfl
  | cons h _ ih => rw [List.map_cons, List.map_cons, ih, h.1]
theorem keyS_paired {L es : List En} (p : L.Perm es) (ks : ∀ e ∈ es, Tu K H e.2.1 (e.1.map V.int)) : Paired (RN K H) (L.map fun e => V.ref e.2.1) (L.map (·.1)) := by
  have h : ∀ e ∈ L, Tu K H e.2.1 (e.1.map V.int) := fun e he => ks e (p.mem_iff.mp he)
  clear p ks
  induction L with
  | nil => exact .nil
  | cons a L ih => exact .cons (rn_iff.mpr ⟨_, rfl, h a List.mem_cons_self⟩) (ih fun e he => h e (List.mem_cons_of_mem _ he))
theorem ens_tu {es : List En} {xs : List (List Int × α)} (s : EnS K R H es xs) : ∀ e ∈ es, Tu K H e.2.1 (e.1.map V.int) := by
  induction s with
  | nil => intro e he; exact nomatch he
  | cons h _ ih =>
    intro e he
    rcases List.mem_cons.mp he with q | q
    · subst q; rw [h.1]; exact h.2.1
    · exact ih e q
theorem ev_sorted {xs : List (List Int × α)} (ha : EvR (RD P w K R) ta σ H xs) (hn : (xs.map (·.1)).Nodup) (h0 : ∀ e ∈ xs, e.1 ≠ []) : EvR (RL (RN K)) (tCB (rXSorted P w K) (tCons ta tNil)) σ H ((srtK xs).map (·.1)) := fun H1 e Q q =>
  ha H1 e _ fun v H2 e2 ⟨a, es, ev, rd, s⟩ => by
    have ek := ens_keys s
    refine ⟨a, es, by rw [ev], rd, s.keyS, fun f hf => ?_, fun L p hL hs hp => ?_⟩
    · have m : f.1 ∈ xs.map (·.1) := by rw [← ek]; exact List.mem_map_of_mem hf
      obtain ⟨g, hg, e⟩ := List.mem_map.mp m
      rw [← e]; exact h0 g hg
    · have e1 : L.map (·.1) = (srtK xs).map (·.1) := by
        refine sorted_uniq ?_ ?_ ?_
        · have h1 := hL.map (fun e : En => e.1)
          rw [ek] at h1
          exact h1.trans ((srtK_perm xs).map _).symm
        · rw [List.pairwise_map]
          exact hs.imp fun h => by rw [lexLt_lt] at h; exact of_decide_eq_true h
        · rw [List.pairwise_map]
          exact srtK_sorted xs hn
      have z := keyS_paired hL (fun f hf => (ens_tu s f hf).im (Im.new (o := .lst (L.map fun e => V.ref e.2.1)) hp))
      rw [e1] at z
      exact q _ _ (e2.trans (Ex.new hp)) ⟨p, _, rfl, upd_same, z⟩
/-! ### making a polynomial -/
def spRaw (K : PySem.W.Frag) (good : Tms → Prop) : Sp := fun vs H Q _ => ∃ a C dx t ts, vs = [.ref a, t] ∧ H a = some (.ins C dx []) ∧ Cls K C ∧ NoAttr K C "terms" ∧ RTm K H t ts ∧ good ts ∧ ∀ H', Ex (upd H a (.ins C dx [("terms", t)])) H' → Q .non H'
theorem ev_make {C : Addr} {good : Tms → Prop} {ts : Tms} (ha : EvR (RTm K) ta σ H ts) (hc : Cls K C) (hn : NoAttr K C "terms") (hg : good ts) : EvR (RPo K) (tMake C (spRaw K good) [] E0 (tCons ta tNil)) σ H ts := fun H1 e Q q =>
  ha H1 e _ fun v H2 e2 r => fun x dx h1 h2 ne => by
    have e3 : Ex H2 (upd (upd H2 dx (.own x)) x (.ins C dx [])) := (Ex.new h2).mut h1
    have e4 : Ex H2 (upd (upd (upd H2 dx (.own x)) x (.ins C dx [])) x (.ins C dx [("terms", v)])) := by
      rw [upd_upd]; exact (Ex.new h2).mut h1
    refine ⟨x, C, dx, v, ts, rfl, upd_same, hc, hn, MonoE.ex e3 r, hg, fun H' e5 => ⟨rfl, q _ _ (e2.trans (e4.trans e5)) ⟨x, C, dx, v, rfl, e5 _ _ upd_same, hc, hn, MonoE.ex (e4.trans e5) r⟩⟩⟩
/-! ### names given by tuples -/
variable {D : Ends} {tz : TS}
theorem q_unp [MonoE R] {a b : Nat} {p : α × β} (h : EvR (RP K R S) te σ H p) (k : ∀ v u H1, Ex H H1 → R H1 v p.1 → S H1 u p.2 → tz D ((σ.set a (some v)).set b (some u)) H1) : tSeq (tAsg te (gPair K a b)) tz D σ H :=
  h H (Ex.refl H) _ fun v H1 e ⟨c, z1, z2, ev, tu, r1, r2⟩ => ⟨c, [z1, z2], ev, tu.sq, rfl, z1, [z2], rfl, z2, [], rfl, rfl, k z1 z2 H1 e r1 r2⟩
theorem rq_pair {v : V} {q : Rat} (h : RQ K H v q) : RP K RI RI H v (q.num, (q.den : Int)) := by
  obtain ⟨a, vs, e, t, p⟩ := h
  have e2 := paired_ints p
  subst e2
  exact ⟨a, _, _, e, t, rfl, rfl⟩
theorem EvR.rq {q : Rat} (h : EvR (RQ K) te σ H q) : EvR (RP K RI RI) te σ H (q.num, (q.den : Int)) := fun H1 e Q k => h H1 e _ fun v H2 e2 r => k v H2 e2 (rq_pair r)
theorem q_unpS {a b c d : Nat} {p : Rat × Rat} (h : EvR (RP K (RQ K) (RQ K)) te σ H p) (k : ∀ H1, Ex H H1 → tz D ((((σ.set a (some (.int p.1.num))).set b (some (.int (p.1.den : Int)))).set c (some (.int p.2.num))).set d (some (.int (p.2.den : Int)))) H1) :
    tSeq (tAsg te (gTup K 2 (gCons (gPair K a b) (gCons (gPair K c d) gNil)))) tz D σ H :=
  h H (Ex.refl H) _ fun v H1 e ⟨z, z1, z2, ev, tu, r1, r2⟩ => by
    obtain ⟨a1, x1, y1, e1, t1, q1, q2⟩ := rq_pair r1
    obtain ⟨a2, x2, y2, e2, t2, q3, q4⟩ := rq_pair r2
    cases q1; cases q2; cases q3; cases q4
    exact ⟨z, [z1, z2], ev, tu.sq, rfl, z1, [z2], rfl, ⟨a1, _, e1, t1.sq, rfl, _, _, rfl, _, _, rfl, rfl, z2, [], rfl, ⟨a2, _, e2, t2.sq, rfl, _, _, rfl, _, _, rfl, rfl, rfl, k H1 e⟩⟩⟩
end
end Bx

set_option Elab.async false
set_option linter.all false
set_option maxRecDepth 100000
set_option maxHeartbeats 2000000
namespace Bx
open PySem PySem.Spec PyProof.Rows L2
/-! ### numbers -/
/-- both parts below 2^n -/
def Bq (n : Nat) (q : Rat) : Prop := q.num.natAbs < 2 ^ n ∧ q.den < 2 ^ n
section
variable {P : Program} {w : World} {K : PySem.W.Frag} {vs : List V} {H : Hp} {Q : VK} {E : XK}
abbrev Enr (Q : VK) : Ends := { nx := fun _ H' => Q .non H', rt := Q }
def spIsInt : Sp := sp1 RI RB (fun _ => True) (fun _ => true)
theorem p_is_integer (h : spIsInt vs H Q E) : t_is_integer P w K (Enr Q) (start ["thing"] vs) H := by
  obtain ⟨v, x, rfl, r, _, k⟩ := h
  cases r
  exact s_ret (ev_and (ev_isi (x := x) (ev_vi rfl) ty_int (b := true) (by decide +kernel)) fun _ => ev_not (ev_isi (x := x) (ev_vi rfl) ty_int (b := false) (by decide +kernel))) fun v H1 e r => k v H1 e r
def spWithin : Sp := sp3 RI RI RI RB (fun _ _ _ => True) (fun t l m => decide (l ≤ t) && decide (t ≤ m))
theorem p_is_within (h : spWithin vs H Q E) : t_is_within P w K spIsInt (Enr Q) (start ["thing", "least", "most"] vs) H := by
  obtain ⟨v, u, t, x, y, z, rfl, r1, r2, r3, _, k⟩ := h
  cases r1; cases r2; cases r3
  exact s_ret (ev_and (a := true) (ev_call1 (f := fun _ => true) (x := x) (ev_vi rfl) True.intro) fun _ => ev_chain (ev_vi rfl) (ev_vi rfl) (ev_vi rfl)) fun v H1 e r => k v H1 e r
def spGcd : Sp := sp2 RI RI RI (fun _ _ => True) (fun a b => (Int.gcd a b : Int))
theorem gcd_turn {a b : Nat} (h : 0 < b) : ((a : Int) % (b : Int)) = ((a % b : Nat) : Int) := (Int.natCast_emod a b).symm
theorem p_divisor_of (h : spGcd vs H Q E) : t_divisor_of P w K (Enr Q) (start ["one", "other"] vs) H := by
  obtain ⟨v, u, x, y, rfl, r1, r2, _, k⟩ := h
  cases r1; cases r2
  refine q_pari (ev_abs (ev_vi rfl)) (ev_abs (ev_vi rfl)) fun H1 e1 => ?_
  refine q_while (fun m σ' H' => ∃ a b : Nat, σ' = [some (.int a), some (.int b)] ∧ m = b ∧ Nat.gcd a b = Int.gcd x y ∧ Ex H H') _ ⟨x.natAbs, y.natAbs, rfl, rfl, rfl, e1⟩ ?_
  rintro m σ' H' ⟨a, b, rfl, rfl, g, e⟩
  refine ⟨decide ((0 : Int) < (m : Int)), et_test (ev_opB (ev_vi rfl) ev_i), fun hb H2 e2 => ?_, fun hb H2 e2 => ?_⟩
  · have hb : 0 < m := by simpa using hb
    refine ⟨fun σ2 H3 => ∃ m', m' < m ∧ ∃ a b : Nat, σ2 = [some (.int a), some (.int b)] ∧ m' = b ∧ Nat.gcd a b = Int.gcd x y ∧ Ex H H3, fun σ2 H3 z => z, ?_⟩
    refine s_pari (ev_vi rfl) (ev_opC (ev_vi rfl) (ev_vi rfl) (by omega)) fun H3 e3 => ?_
    refine ⟨a % m, Nat.mod_lt _ hb, m, a % m, ?_, rfl, ?_, e.trans (e2.trans e3)⟩
    · rw [gcd_turn hb]; rfl
    · rw [← g, Nat.gcd_comm a m, Nat.gcd_rec m a, Nat.gcd_comm]
  · have hb : m = 0 := by
      have : ¬ (0 : Int) < (m : Int) := by simpa using hb
      omega
    subst hb
    rw [Nat.gcd_zero_right] at g
    refine s_ret (ev_vi rfl) fun v H3 e3 r => k v H3 (e.trans (e2.trans e3)) ?_
    show RI H3 v ((Int.gcd x y : Nat) : Int)
    rw [← g]
    exact r
/-! ### fractions -/
theorem num_le (t b : Int) : (Rat.divInt t b).num.natAbs ≤ t.natAbs := by
  rw [Rat.num_divInt]
  by_cases hb : b = 0
  · subst hb; simp
  · have e : (b.sign * t).natAbs = t.natAbs := by rw [Int.natAbs_mul, Int.natAbs_sign_of_ne_zero hb, Nat.one_mul]
    rw [← e]
    exact Int.natAbs_ediv_le_natAbs _ _
theorem den_le (t b : Int) (h : b ≠ 0) : (Rat.divInt t b).den ≤ b.natAbs := by
  rw [Rat.den_divInt, if_neg h]
  exact Nat.div_le_self _ _
theorem bq_divInt {t b : Int} {n : Nat} (h1 : t.natAbs < 2 ^ n) (h2 : b.natAbs < 2 ^ n) (h : b ≠ 0) : Bq n (Rat.divInt t b) :=
  ⟨Nat.lt_of_le_of_lt (num_le t b) h1, Nat.lt_of_le_of_lt (den_le t b h) h2⟩
theorem frl_divInt {t b : Int} (h : 0 < b) : frl (Rat.divInt t b) = [t / (Int.gcd t b : Int), b / (Int.gcd t b : Int)] := by
  have e1 : (Rat.divInt t b).num = t / (Int.gcd t b : Int) := by
    rw [Rat.num_divInt, Int.sign_eq_one_of_pos h, Int.one_mul, Int.gcd_comm]
  have e2 : ((Rat.divInt t b).den : Int) = b / (Int.gcd t b : Int) := by
    rw [Rat.den_divInt, if_neg (by omega), Int.gcd_comm b t]
    rw [Int.natCast_ediv, Int.natAbs_of_nonneg (by omega)]
  unfold frl
  rw [e1, e2]
theorem gcd_pos {t b : Int} (h : b ≠ 0) : 0 < (Int.gcd t b : Int) := by
  have : Int.gcd t b ≠ 0 := fun z => h (Int.gcd_eq_zero_iff.mp z).2
  omega
theorem gcd_le {t b : Int} (h : b ≠ 0) : Int.gcd t b ≤ b.natAbs := Nat.le_of_dvd (by omega) (Int.gcd_dvd_natAbs_right t b)
theorem gcd_div {t b c : Int} (h : b ≠ 0) (hb : b.natAbs < 2 ^ 9000) : CDivW c (Int.gcd t b : Int) :=
  wide_div (b := 9000) (gcd_pos h) (by rw [Int.natAbs_natCast]; exact Nat.lt_of_le_of_lt (gcd_le h) hb) (by decide) (by decide)
def spFrac (K : PySem.W.Frag) : Sp := sp2 RI RI (RQ K) (fun _ b => b ≠ 0 ∧ b.natAbs < 2 ^ 9000) (fun t b => Rat.divInt t b)
theorem p_fraction (h : spFrac K vs H Q E) : t_fraction P w K spGcd (Enr Q) (start ["top", "bottom", "by"] vs) H := by
  obtain ⟨v, u, x, y, rfl, r1, r2, ⟨hy, hs⟩, k⟩ := h
  cases r1; cases r2
  have tail : ∀ (t b : Int) (z : Option V) (H1 : Hp), 0 < b → b.natAbs < 2 ^ 9000 → Rat.divInt t b = Rat.divInt x y → Ex H H1 →
      (tSeq (tAsg (tCall spGcd [] E0 (tCons (tVar 0) (tCons (tVar 1) tNil))) (gName 2))
        (tRet (tTup (tCons (tOp (rI CDivW fun i j => .int (i / j)) (tVar 0) (tVar 2)) (tCons (tOp (rI CDivW fun i j => .int (i / j)) (tVar 1) (tVar 2)) tNil))))) (Enr Q) [some (.int t), some (.int b), z] H1 := by
    intro t b z H1 hb hs e er
    refine q_seti (ev_call2 (f := fun a b => (Int.gcd a b : Int)) (ev_vi (i := t) rfl) (ev_vi (i := b) rfl) True.intro) fun H2 e2 => ?_
    refine s_ret (ev_tup2 (K := K) (ev_opC (ev_vi rfl) (ev_vi rfl) (gcd_div (by omega) hs)) (ev_opC (ev_vi rfl) (ev_vi rfl) (gcd_div (by omega) hs))) fun v H3 e3 r => k v H3 (er.trans (e2.trans e3)) ?_
    show RN K H3 v (frl (Rat.divInt x y))
    rw [← e, frl_divInt hb]
    exact r
  refine q_if (et_test (ev_opB (ev_vi rfl) ev_i)) (fun hb H1 e => ?_) (fun hb H1 e => ?_)
  · have hb : y < 0 := by simpa using hb
    refine s_pari (ev_neg (ev_vi rfl)) (ev_neg (ev_vi rfl)) fun H2 e2 => ?_
    refine tail (-x) (-y) none H2 (by omega) (by rw [Int.natAbs_neg]; exact hs) ?_ (e.trans e2)
    rw [Rat.neg_divInt_neg]
  · have hb : ¬ y < 0 := by simpa using hb
    exact tail x y none H1 (by omega) hs rfl e
section
variable {te ta tb : TE} {σ : L2.St} {x y : Int} {q r : Rat}
theorem e_isInt (h : EvR RI te σ H x) : EvR RB (tCall spIsInt [] E0 (tCons te tNil)) σ H true := ev_call1 (f := fun _ => true) h True.intro
theorem e_within {l m : Int} (h : EvR RI te σ H x) (h1 : EvR RI ta σ H l) (h2 : EvR RI tb σ H m) : EvR RB (tCall spWithin [] E0 (tCons te (tCons ta (tCons tb tNil)))) σ H (decide (l ≤ x) && decide (x ≤ m)) := ev_call3 (f := fun t l m => decide (l ≤ t) && decide (t ≤ m)) h h1 h2 True.intro
theorem e_gcd (h : EvR RI ta σ H x) (h1 : EvR RI tb σ H y) : EvR RI (tCall spGcd [] E0 (tCons ta (tCons tb tNil))) σ H (Int.gcd x y : Int) := ev_call2 (f := fun a b => (Int.gcd a b : Int)) h h1 True.intro
theorem e_frac (h : EvR RI ta σ H x) (h1 : EvR RI tb σ H y) (h2 : y ≠ 0) (h3 : y.natAbs < 2 ^ 9000) : EvR (RQ K) (tCall (spFrac K) [] E0 (tCons ta (tCons tb tNil))) σ H (Rat.divInt x y) := ev_call2 (f := fun t b => Rat.divInt t b) h h1 ⟨h2, h3⟩
theorem EvR.rn (h : EvR (RQ K) te σ H q) : EvR (RN K) te σ H (frl q) := h
end
def spIsFrac (K : PySem.W.Frag) : Sp := sp1 (RQ K) RB (fun _ => True) (fun _ => true)
theorem p_is_fraction (h : spIsFrac K vs H Q E) : t_is_fraction P w K spGcd spIsInt (Enr Q) (start ["thing"] vs) H := by
  obtain ⟨v, x, rfl, r, _, k⟩ := h
  have hv : ∀ {H1}, Ex H H1 → EvR (RQ K) (tVar 0) (start ["thing"] [v]) H1 x := fun e => ev_var (x := x) rfl (MonoE.ex e r)
  refine q_skip (et_or (a := false) (et_not (a := true) (et_B (ev_isT (hv (Ex.refl H)).rn))) fun _ => et_or (a := false) (et_test (EvR.is (ev_neI (ev_len (hv (Ex.refl H)).rn) ev_i) (by rfl))) fun _ =>
    et_or (a := false) (et_not (a := true) (et_B (e_isInt (ev_num (hv (Ex.refl H)))))) fun _ => et_not (a := true) (et_B (e_isInt (ev_den (hv (Ex.refl H)))))) fun H1 e => ?_
  refine s_ret (EvR.is (x' := true) (ev_and (ev_opB (ev_den (hv e)) ev_i) fun _ => ev_eqI (e_gcd (ev_num (hv e)) (ev_den (hv e))) ev_i) ?_) fun v H2 e2 r => k v H2 (e.trans e2) r
  have h1 : (0 : Int) < (x.den : Int) := by have := x.den_pos; omega
  have h2 : Int.gcd x.num (x.den : Int) = 1 := x.reduced
  rw [h2]
  simp [x.den_pos]
/-! ### + and * -/
theorem add_divInt (x y : Rat) : Rat.divInt (x.num * y.den + y.num * x.den) (x.den * y.den) = x + y := by
  have hx : (x.den : Int) ≠ 0 := by have := x.den_pos; omega
  have hy : (y.den : Int) ≠ 0 := by have := y.den_pos; omega
  rw [← Rat.divInt_add_divInt _ _ hx hy, Rat.num_divInt_den, Rat.num_divInt_den]
theorem mul_divInt (x y : Rat) : Rat.divInt (x.num * y.num) (x.den * y.den) = x * y := by
  rw [← Rat.divInt_mul_divInt, Rat.num_divInt_den, Rat.num_divInt_den]
theorem dd_ne (x y : Rat) : ((x.den : Int) * (y.den : Int)) ≠ 0 := by
  have hx : (x.den : Int) ≠ 0 := by have := x.den_pos; omega
  have hy : (y.den : Int) ≠ 0 := by have := y.den_pos; omega
  exact Int.mul_ne_zero hx hy
theorem Bq.pos {a : Nat} {x : Rat} (h : Bq a x) : 0 < a := by
  rcases Nat.eq_zero_or_pos a with h0 | h0
  · subst h0
    have := h.2
    have := x.den_pos
    omega
  · exact h0
theorem Bq.dd {a b : Nat} {x y : Rat} (hx : Bq a x) (hy : Bq b y) : ((x.den : Int) * (y.den : Int)).natAbs < 2 ^ (a + b) := wide_lt (by rw [Int.natAbs_natCast]; exact hx.2) (by rw [Int.natAbs_natCast]; exact hy.2)
theorem Bq.nn {a b : Nat} {x y : Rat} (hx : Bq a x) (hy : Bq b y) : (x.num * y.num).natAbs < 2 ^ (a + b) := wide_lt hx.1 hy.1
theorem Bq.nd {a b : Nat} {x y : Rat} (hx : Bq a x) (hy : Bq b y) : (x.num * (y.den : Int)).natAbs < 2 ^ (a + b) := wide_lt hx.1 (by rw [Int.natAbs_natCast]; exact hy.2)
theorem Bq.mul {a b : Nat} {x y : Rat} (hx : Bq a x) (hy : Bq b y) : Bq (a + b) (x * y) := by
  rw [← mul_divInt]
  exact bq_divInt (hx.nn hy) (hx.dd hy) (dd_ne x y)
theorem Bq.add {a b : Nat} {x y : Rat} (hx : Bq a x) (hy : Bq b y) : Bq (a + b + 1) (x + y) := by
  rw [← add_divInt]
  have h1 := hx.nd hy
  have h2 := hy.nd hx
  rw [Nat.add_comm b a] at h2
  refine bq_divInt ?_ (Nat.lt_of_lt_of_le (hx.dd hy) (Nat.pow_le_pow_right (by decide) (Nat.le_succ _))) (dd_ne x y)
  have h3 : (2 : Nat) ^ (a + b + 1) = 2 ^ (a + b) + 2 ^ (a + b) := by rw [Nat.pow_succ, Nat.mul_two]
  rw [h3]
  exact Nat.lt_of_le_of_lt (Int.natAbs_add_le _ _) (Nat.add_lt_add h1 h2)
theorem p9000 {n : Nat} (h : n ≤ 9000) {i : Int} (hi : i.natAbs < 2 ^ n) : i.natAbs < 2 ^ 9000 := Nat.lt_of_lt_of_le hi (Nat.pow_le_pow_right (by decide) h)
/-- together below 2^9000 -/
def Two (x y : Rat) : Prop := ∃ a b, Bq a x ∧ Bq b y ∧ x.den * y.den < 2 ^ 9000 ∧ a + b ≤ 400000
theorem Two.m {x y : Rat} {i j : Int} {a b : Nat} (ha : i.natAbs < 2 ^ a) (hb : j.natAbs < 2 ^ b) (h0 : 0 < a) (h1 : 0 < b) (h : a + b ≤ 400000) : CMulW i j := wide_mul ha hb h0 h1 (by omega)
def spAdd (K : PySem.W.Frag) : Sp := sp2 (RQ K) (RQ K) (RQ K) Two (· + ·)
def spMul (K : PySem.W.Frag) : Sp := sp2 (RQ K) (RQ K) (RQ K) Two (· * ·)
theorem nd9 {x y : Rat} (h : x.den * y.den < 2 ^ 9000) : ((x.den : Int) * (y.den : Int)).natAbs < 2 ^ 9000 := by
  rw [← Int.natCast_mul, Int.natAbs_natCast]; exact h
theorem p_added (h : spAdd K vs H Q E) : t_added P w K (spFrac K) (Enr Q) (start ["one", "other"] vs) H := by
  obtain ⟨v, u, x, y, rfl, r1, r2, ⟨a, b, hx, hy, h9, hl⟩, k⟩ := h
  have h1 : EvR (RQ K) (tVar 0) (start ["one", "other"] [v, u]) H x := ev_var (x := x) rfl r1
  have h2 : EvR (RQ K) (tVar 1) (start ["one", "other"] [v, u]) H y := ev_var (x := y) rfl r2
  have dx : ((x.den : Int)).natAbs < 2 ^ a := by rw [Int.natAbs_natCast]; exact hx.2
  have dy : ((y.den : Int)).natAbs < 2 ^ b := by rw [Int.natAbs_natCast]; exact hy.2
  refine s_ret (EvR.is (e_frac (ev_op0 (ev_opC (ev_num h1) (ev_den h2) (wide_mul hx.1 dy hx.pos hy.pos (by omega))) (ev_opC (ev_num h2) (ev_den h1) (wide_mul hy.1 dx hy.pos hx.pos (by omega)))) (ev_opC (ev_den h1) (ev_den h2) (wide_mul dx dy hx.pos hy.pos (by omega))) (dd_ne x y) (nd9 h9)) (add_divInt x y)) k
theorem p_multiplied (h : spMul K vs H Q E) : t_multiplied P w K (spFrac K) (Enr Q) (start ["one", "other"] vs) H := by
  obtain ⟨v, u, x, y, rfl, r1, r2, ⟨a, b, hx, hy, h9, hl⟩, k⟩ := h
  have h1 : EvR (RQ K) (tVar 0) (start ["one", "other"] [v, u]) H x := ev_var (x := x) rfl r1
  have h2 : EvR (RQ K) (tVar 1) (start ["one", "other"] [v, u]) H y := ev_var (x := y) rfl r2
  have dx : ((x.den : Int)).natAbs < 2 ^ a := by rw [Int.natAbs_natCast]; exact hx.2
  have dy : ((y.den : Int)).natAbs < 2 ^ b := by rw [Int.natAbs_natCast]; exact hy.2
  refine s_ret (EvR.is (e_frac (ev_opC (ev_num h1) (ev_num h2) (wide_mul hx.1 hy.1 hx.pos hy.pos (by omega))) (ev_opC (ev_den h1) (ev_den h2) (wide_mul dx dy hx.pos hy.pos (by omega))) (dd_ne x y) (nd9 h9)) (mul_divInt x y)) k
def spBelow (K : PySem.W.Frag) : Sp := sp2 (RQ K) (RQ K) RB Two (fun x y => decide (x < y))
theorem p_is_below (h : spBelow K vs H Q E) : t_is_below P w K (Enr Q) (start ["one", "other"] vs) H := by
  obtain ⟨v, u, x, y, rfl, r1, r2, ⟨a, b, hx, hy, _, hl⟩, k⟩ := h
  have h1 : EvR (RQ K) (tVar 0) (start ["one", "other"] [v, u]) H x := ev_var (x := x) rfl r1
  have h2 : EvR (RQ K) (tVar 1) (start ["one", "other"] [v, u]) H y := ev_var (x := y) rfl r2
  have dx : ((x.den : Int)).natAbs < 2 ^ a := by rw [Int.natAbs_natCast]; exact hx.2
  have dy : ((y.den : Int)).natAbs < 2 ^ b := by rw [Int.natAbs_natCast]; exact hy.2
  refine s_ret (EvR.is (ev_opB (ev_opC (ev_num h1) (ev_den h2) (wide_mul hx.1 dy hx.pos hy.pos (by omega))) (ev_opC (ev_num h2) (ev_den h1) (wide_mul hy.1 dx hy.pos hx.pos (by omega)))) ?_) k
  rw [decide_eq_decide]
  exact (Rat.lt_iff x y).symm
theorem e_mul {ta tb : TE} {σ : L2.St} {q r : Rat} (h : EvR (RQ K) ta σ H q) (h1 : EvR (RQ K) tb σ H r) (h2 : Two q r) : EvR (RQ K) (tCall (spMul K) [] E0 (tCons ta (tCons tb tNil))) σ H (q * r) := ev_call2 (f := (· * ·)) h h1 h2
theorem e_add {ta tb : TE} {σ : L2.St} {q r : Rat} (h : EvR (RQ K) ta σ H q) (h1 : EvR (RQ K) tb σ H r) (h2 : Two q r) : EvR (RQ K) (tCall (spAdd K) [] E0 (tCons ta (tCons tb tNil))) σ H (q + r) := ev_call2 (f := (· + ·)) h h1 h2
/-! ### powers -/
theorem den_mul_le (x y : Rat) : (x * y).den ≤ x.den * y.den := by
  rw [← mul_divInt]
  have h := den_le (x.num * y.num) (x.den * y.den) (dd_ne x y)
  rw [← Int.natCast_mul, Int.natAbs_natCast] at h
  exact h
theorem den_add_le (x y : Rat) : (x + y).den ≤ x.den * y.den := by
  rw [← add_divInt]
  have h := den_le (x.num * y.den + y.num * x.den) (x.den * y.den) (dd_ne x y)
  rw [← Int.natCast_mul, Int.natAbs_natCast] at h
  exact h
theorem den_pow_le (x : Rat) : ∀ n : Nat, (x ^ n).den ≤ x.den ^ n
  | 0 => by rw [Rat.pow_zero]; exact Nat.le_refl _
  | n + 1 => by
    rw [Rat.pow_succ, Nat.pow_succ]
    exact Nat.le_trans (den_mul_le _ _) (Nat.mul_le_mul_right _ (den_pow_le x n))
theorem Bq.one : Bq 1 1 := ⟨by decide, by decide⟩
theorem Bq.pow {a : Nat} {x : Rat} (h : Bq a x) : ∀ n : Nat, Bq (a * n + 1) (x ^ n)
  | 0 => by rw [Rat.pow_zero, Nat.mul_zero]; exact Bq.one
  | n + 1 => by
    rw [Rat.pow_succ, Nat.mul_succ]
    have := (h.pow n).mul h
    rw [show a * n + a + 1 = a * n + 1 + a by omega]
    exact this
/-- x^n stays small -/
def PowOk (x : Rat) (n : Int) : Prop := 0 ≤ n ∧ n ≤ 100 ∧ (∃ a, Bq a x ∧ a ≤ 3000) ∧ x.den ^ n.toNat < 2 ^ 9000
def spRaised (K : PySem.W.Frag) : Sp := sp2 (RQ K) RI (RQ K) PowOk (fun x n => x ^ n.toNat)
theorem rq_one {a : Addr} (h : ∀ H, SqT K H a [.int 1, .int 1]) : RQ K H (.ref a) 1 := rn_iff.mpr ⟨a, rfl, .inr h⟩
theorem rq_zero {a : Addr} (h : ∀ H, SqT K H a [.int 0, .int 1]) : RQ K H (.ref a) 0 := rn_iff.mpr ⟨a, rfl, .inr h⟩
theorem p_raised (hO : ∀ H, SqT K H (He.ga K "ONE") [.int 1, .int 1]) (h : spRaised K vs H Q E) : t_raised P w K (spMul K) (Enr Q) (start ["number", "many", "found", "turn"] vs) H := by
  obtain ⟨v, u, x, n, rfl, r1, r2, ⟨hn, hn2, ⟨a, hx, ha⟩, h9⟩, k⟩ := h
  cases r2
  refine q_set (R := RQ K) (x := 1) (ev_c (rq_one hO)) fun f H1 e1 rf => ?_
  refine q_forR (ev_vi (i := n) rfl) (by omega) fun H2 e2 => ⟨fun i σ' H' => ∃ z f, σ' = [some v, some (.int n), some f, z] ∧ Ex H H' ∧ RQ K H' f (x ^ i), ⟨none, f, rfl, e1.trans e2, ?_⟩, ?_, ?_⟩
  · rw [Rat.pow_zero]; exact MonoE.ex e2 rf
  · rintro i σ' H' hi ⟨z, f, rfl, e, rf⟩
    refine s_set (EvR.is (e_mul (q := x ^ i) (r := x) (ev_var rfl rf) (ev_var rfl (MonoE.ex e r1)) ⟨a * i + 1, a, hx.pow i, hx, ?_, ?_⟩) (Rat.pow_succ x i).symm) fun f' H3 e3 r3 => ⟨_, f', rfl, e.trans e3, r3⟩
    · have h1 := Nat.mul_le_mul_right x.den (den_pow_le x i)
      rw [← Nat.pow_succ] at h1
      refine Nat.lt_of_le_of_lt (Nat.le_trans h1 (Nat.pow_le_pow_right x.den_pos ?_)) h9
      omega
    · have : a * i ≤ 3000 * 100 := Nat.mul_le_mul ha (by omega)
      omega
  · rintro σ' H' ⟨z, f, rfl, e, rf⟩
    exact s_ret (ev_var rfl rf) fun v H3 e3 r => k v H3 (e.trans e3) r
end
end Bx

set_option Elab.async false
set_option linter.all false
set_option maxRecDepth 100000
set_option maxHeartbeats 2000000
namespace Bx
open PySem PySem.Spec PyProof.Rows L2
/-! ### polynomials -/
def polyOf (xs : Tms) : Tms := (srtK xs).filter (fun e => !decide (e.2 = 0))
abbrev noP : List Int := [0, 0, 0, 0]
def addT (acc : Tms) (k : List Int) (c : Int) : Tms := ptT acc k ((lkT acc k).getD 0 + c)
def sumD (a b : Tms) (m : Int) : Tms := b.foldl (fun acc t => addT acc t.1 (m * t.2)) (dictOf a)
def sumWith (a b : Tms) (m : Int) : Tms := polyOf (sumD a b m)
def gd (p : List Int) (i : Nat) : Int := p.getD i 0
def adk (p q : List Int) : List Int := [gd p 0 + gd q 0, gd p 1 + gd q 1, gd p 2 + gd q 2, gd p 3 + gd q 3]
def rowD (acc : Tms) (s : List Int × Int) (b : Tms) : Tms := b.foldl (fun acc t => addT acc (adk s.1 t.1) (s.2 * t.2)) acc
def timD (a b : Tms) : Tms := a.foldl (fun acc s => rowD acc s b) []
def timesP (a b : Tms) : Tms := polyOf (timD a b)
def powersOf (k n : Int) : List Int := (List.range 4).map fun (o : Nat) => if (o : Int) = k then n else 0
def mxI (ns : List Int) : Int := ns.foldr max 0
def degI (ts : Tms) (k : Nat) : Int := mxI (ts.map fun t => gd t.1 k)
theorem mxI_ge : ∀ {ns : List Int} {y : Int}, y ∈ ns → y ≤ mxI ns
  | n :: ns, y, h => by
    unfold mxI; rw [List.foldr_cons]
    rcases List.mem_cons.mp h with rfl | h
    · exact Int.le_max_left _ _
    · exact Int.le_trans (mxI_ge h) (Int.le_max_right _ _)
theorem mxI_0 : ∀ ns : List Int, 0 ≤ mxI ns
  | [] => Int.le_refl _
  | n :: ns => by unfold mxI; rw [List.foldr_cons]; exact Int.le_trans (mxI_0 ns) (Int.le_max_right _ _)
theorem mxI_mem : ∀ ns : List Int, mxI ns ∈ 0 :: ns
  | [] => List.mem_cons_self
  | n :: ns => by
    unfold mxI; rw [List.foldr_cons]
    rcases Int.le_total n (ns.foldr max 0) with h | h
    · rw [Int.max_eq_right h]
      rcases List.mem_cons.mp (mxI_mem ns) with e | e
      · exact List.mem_cons.mpr (.inl e)
      · exact List.mem_cons_of_mem _ (List.mem_cons_of_mem _ e)
    · rw [Int.max_eq_left h]; exact List.mem_cons_of_mem _ List.mem_cons_self
theorem gd_get {p : List Int} {n : Nat} (h : n < p.length) : p[n]? = some (gd p n) := by
  unfold gd
  rw [List.getD_eq_getElem?_getD, List.getElem?_eq_getElem h]; rfl
/-- the keys differ, each of length 4 -/
def Kys (ts : Tms) : Prop := (ts.map (·.1)).Nodup ∧ ∀ e ∈ ts, e.1.length = 4
/-- not too big -/
def Sml (ts : Tms) : Prop := ts.length ≤ 100000 ∧ ∀ e ∈ ts, e.2.natAbs < 2 ^ 400000
theorem Kys.ptT {ts : Tms} {k : List Int} {c : Int} (h : Kys ts) (hk : k.length = 4) : Kys (ptT ts k c) :=
  ⟨ptT_nodup h.1, fun e he => by
    rcases ptT_mem he with rfl | he
    · exact hk
    · exact h.2 e he⟩
theorem Kys.addT {ts : Tms} {k : List Int} {c : Int} (h : Kys ts) (hk : k.length = 4) : Kys (addT ts k c) := h.ptT hk
theorem Kys.nil : Kys [] := ⟨.nil, fun _ h => nomatch h⟩
theorem kys_foldl {γ : Type} {f : Tms → γ → Tms} (hf : ∀ acc t, Kys acc → Kys (f acc t)) : ∀ (b : List γ) (acc : Tms), Kys acc → Kys (b.foldl f acc)
  | [], _, h => h
  | t :: b, acc, h => kys_foldl hf b _ (hf acc t h)
theorem kys_foldlM {γ : Type} {f : Tms → γ → Tms} : ∀ (b : List γ) (acc : Tms), (∀ acc t, t ∈ b → Kys acc → Kys (f acc t)) → Kys acc → Kys (b.foldl f acc)
  | [], _, _, h => h
  | t :: b, acc, hf, h => kys_foldlM b _ (fun acc u hu => hf acc u (List.mem_cons_of_mem _ hu)) (hf acc t List.mem_cons_self h)
theorem dictOf_kys {a : Tms} (h : ∀ e ∈ a, e.1.length = 4) : Kys (dictOf a) := kys_foldlM a [] (fun acc t ht k => k.ptT (h t ht)) Kys.nil
theorem sumD_kys {a b : Tms} {m : Int} (ha : ∀ e ∈ a, e.1.length = 4) (hb : ∀ e ∈ b, e.1.length = 4) : Kys (sumD a b m) := kys_foldlM b _ (fun acc t ht k => k.addT (hb t ht)) (dictOf_kys ha)
theorem rowD_kys {acc b : Tms} {s : List Int × Int} (h : Kys acc) : Kys (rowD acc s b) := kys_foldl (fun acc t k => k.addT rfl) b acc h
theorem timD_kys (a b : Tms) : Kys (timD a b) := kys_foldl (fun acc t k => rowD_kys k) a [] Kys.nil
theorem polyOf_sub {xs : Tms} {e : List Int × Int} (h : e ∈ polyOf xs) : e ∈ xs ∧ e.2 ≠ 0 := by
  unfold polyOf at h
  obtain ⟨h1, h2⟩ := List.mem_filter.mp h
  exact ⟨(srtK_perm xs).mem_iff.mp h1, by simpa using h2⟩
theorem polyOf_kys {xs : Tms} (h : Kys xs) : Kys (polyOf xs) := by
  refine ⟨?_, fun e he => h.2 e (polyOf_sub he).1⟩
  have h1 : ((srtK xs).map (·.1)).Nodup := ((srtK_perm xs).map (·.1)).nodup_iff.mpr h.1
  exact h1.sublist ((List.filter_sublist).map _)
theorem foldl_len {γ : Type} {f : Tms → γ → Tms} {n : Nat} (hf : ∀ acc t, (f acc t).length ≤ acc.length + n) : ∀ (b : List γ) (acc : Tms), (b.foldl f acc).length ≤ acc.length + b.length * n
  | [], acc => by simp
  | t :: b, acc => by
    rw [List.foldl_cons, List.length_cons, Nat.succ_mul]
    have h1 := foldl_len hf b (f acc t)
    have h2 := hf acc t
    omega
theorem addT_len (acc : Tms) (k : List Int) (c : Int) : (addT acc k c).length ≤ acc.length + 1 := ptT_length acc k _
theorem dictOf_len (a : Tms) : (dictOf a).length ≤ a.length := by
  have := dictOf_length a ([] : Tms)
  simpa [dictOf] using this
theorem sumD_len (a b : Tms) (m : Int) : (sumD a b m).length ≤ a.length + b.length := by
  have h1 := foldl_len (f := fun acc t => addT acc t.1 (m * t.2)) (n := 1) (fun acc t => addT_len acc _ _) b (dictOf a)
  have h2 := dictOf_len a
  unfold sumD
  omega
theorem rowD_len (acc b : Tms) (s : List Int × Int) : (rowD acc s b).length ≤ acc.length + b.length := by
  have h1 := foldl_len (f := fun acc t => addT acc (adk s.1 t.1) (s.2 * t.2)) (n := 1) (fun acc t => addT_len acc _ _) b acc
  unfold rowD
  omega
theorem timD_len (a b : Tms) : (timD a b).length ≤ a.length * b.length := by
  have h1 := foldl_len (f := fun acc s => rowD acc s b) (n := b.length) (fun acc s => rowD_len acc b s) a []
  unfold timD
  simpa using h1
section
variable {P : Program} {w : World} {K : PySem.W.Frag} {vs : List V} {H : Hp} {Q : VK} {E : XK} {te ta tb tc : TE} {σ : L2.St}
/-! ### terms looked at -/
def GoodT (e : List Int × Int) : Prop := e.1.length = 4 ∧ e.2 ≠ 0 ∧ ∀ p ∈ e.1, 0 ≤ p ∧ p ≤ 60
def spTerm (K : PySem.W.Frag) : Sp := sp1 (RP K (RN K) RI) RB GoodT (fun _ => true)
theorem p_is_term (h : spTerm K vs H Q E) : t_is_term P w K spWithin spIsInt (Enr Q) (start ["thing", "power"] vs) H := by
  obtain ⟨v, ⟨p, c⟩, rfl, r, ⟨h4, hc, hp⟩, k⟩ := h
  have hv : ∀ {H1}, Ex H H1 → EvR (RP K (RN K) RI) (tVar 0) (start ["thing", "power"] [v]) H1 (p, c) := fun e => ev_var (x := (p, c)) rfl (MonoE.ex e r)
  have h4 : p.length = 4 := h4
  have hc : c ≠ 0 := hc
  have len2 : ∀ {H1}, Ex H H1 → EvR RI (tCB (fun xs H Q => ∃ p ys, xs = [.ref p] ∧ (SqL K H p ys ∨ SqT K H p ys) ∧ Q (.int ys.length) H) (tCons (tVar 0) tNil)) (start ["thing", "power"] [v]) H1 2 := fun e => fun H2 e2 Q q =>
    (hv e) H2 e2 _ fun u H3 e3 ⟨a, z1, z2, ev, t, _, _⟩ => ⟨a, [z1, z2], by rw [ev], .inr t.sq, q _ H3 e3 rfl⟩
  refine q_skip (et_or (a := false) (et_not (a := true) (et_B (ev_isP (hv (Ex.refl H))))) fun _ => et_or (a := false) (et_test (EvR.is (ev_neI (len2 (Ex.refl H)) ev_i) rfl)) fun _ =>
    et_or (a := false) (et_not (a := true) (et_B (e_isInt (ev_snd (hv (Ex.refl H)))))) fun _ => et_test (EvR.is (ev_eqI (ev_snd (hv (Ex.refl H))) ev_i) (by simp [hc]))) fun H1 e => ?_
  refine q_skip (et_or (a := false) (et_not (a := true) (et_B (ev_isT (ev_fst (hv e))))) fun _ => et_test (EvR.is (ev_neI (ev_len (ev_fst (hv e))) ev_i) (by simp [h4]))) fun H2 e2 => ?_
  refine s_ret (EvR.is (x' := true) (ev_all (ev_lcT (S := RB) (R := RI) (xs := p) (ev_fst (hv (e.trans e2))) (by omega) (fun _ => rfl) (fun _ => true) (fun x => decide ((0 : Int) ≤ x) && decide (x ≤ 60)) (fun v x H3 e3 m rx => et_yes)
    (fun v x H3 e3 m rx _ => e_within (ev_var (x := x) rfl rx) ev_i ev_i))) ?_) fun v H3 e3 r => k v H3 (e.trans (e2.trans e3)) r
  rw [List.all_map, List.all_eq_true]
  intro x hx
  have := hp x ((List.mem_filter.mp hx).1)
  simp [this.1, this.2]
theorem e_term {e : List Int × Int} (h : EvR (RP K (RN K) RI) te σ H e) (g : GoodT e) : EvR RB (tCall (spTerm K) [] E0 (tCons te tNil)) σ H true := ev_call1 (f := fun _ => true) h g
/-! ### instances -/
theorem p_RawPoly_init (h : spRaw K (fun _ => True) vs H Q E) : t_RawPoly_init P w K (Enr Q) (start ["self", "terms"] vs) H := by
  obtain ⟨a, C, dx, t, ts, rfl, ha, hc, hn, r, _, k⟩ := h
  exact ⟨t, rfl, .ref a, rfl, a, C, dx, [], rfl, ha, hc, hn, by decide, k _ (Ex.refl _)⟩
def Good (ts : Tms) : Prop := ts.length ≤ 300 ∧ ts.Pairwise KLt ∧ ∀ e ∈ ts, GoodT e
theorem ev_lenRT {α : Type} {R : Rp α} [MonoE R] {xs : List α} (ha : EvR (RT K R) ta σ H xs) : EvR RI (tCB (fun vs H Q => ∃ p ys, vs = [.ref p] ∧ (SqL K H p ys ∨ SqT K H p ys) ∧ Q (.int ys.length) H) (tCons ta tNil)) σ H (xs.length : Int) := ev_len ha
theorem p_Poly_init (h : spRaw K Good vs H Q E) : t_Poly_init P w K (spTerm K) (Enr Q) (start ["self", "terms", "index", "term"] vs) H := by
  obtain ⟨a, C, dx, t, ts, rfl, ha, hc, hn, r, ⟨hl, hs, hg⟩, k⟩ := h
  have hv : ∀ {H1 y z}, Ex H H1 → EvR (RTm K) (tVar 1) [some (.ref a), some t, y, z] H1 ts := fun e => ev_var (x := ts) rfl (MonoE.ex e r)
  refine q_skip (et_or (a := false) (et_not (a := true) (et_B (ev_isT (hv (y := none) (z := none) (Ex.refl H))))) fun _ => et_test (EvR.is (ev_opB (ev_len (hv (y := none) (z := none) (Ex.refl H))) ev_i) (by simp; omega))) fun H1 e => ?_
  refine q_forE (R := RP K (RN K) RI) (xs := ts) (hv (y := none) (z := none) e) fun H2 e2 => ⟨fun i σ' H' => ∃ y z, σ' = [some (.ref a), some t, y, z] ∧ Ex H H' ∧ Ex H2 H', ⟨none, none, rfl, e.trans e2, Ex.refl _⟩, fun i σ' H' ⟨y, z, _, _, e3⟩ => e3.im, ?_, ?_⟩
  · rintro i u x σ' H' H3 hx ru ⟨y, z, rfl, e3, e4⟩ e5
    have m := List.mem_of_getElem? hx
    refine s_if (b := false) (et_or (a := false) (et_not (a := true) (et_B (e_term (ev_var (x := x) rfl ru) (hg x m)))) fun _ => EvT.is (et_and (et_test (ev_opB (ev_vi rfl) ev_i)) (b := false) fun hi => ?_) (by simp)) (fun z => nomatch z) fun _ H4 e6 => ⟨_, _, rfl, e3.trans (e5.trans e6), e4.trans (e5.trans e6)⟩
    have hi : 0 < i := by simpa using hi
    have hlt : i < ts.length := (List.getElem?_eq_some_iff.mp hx).1
    have h1 : ts[i - 1]? = some ts[i - 1] := List.getElem?_eq_getElem (by omega)
    refine EvT.is (et_not (et_test (ev_ltN (ev_fst (p := ts[i - 1]) (ev_ixT (n := i - 1) (EvR.mono e5 (ev_var (x := ts) rfl (MonoE.ex e3 r))) (EvR.is (ev_op0 (ev_vi rfl) ev_i) (by omega)) h1)) (ev_fst (ev_var (x := x) rfl ru))))) ?_
    obtain ⟨_, ex⟩ := List.getElem?_eq_some_iff.mp hx
    have h2 : ts[i - 1].1 < x.1 := by
      rw [← ex]
      exact List.pairwise_iff_getElem.mp hs (i - 1) i (by omega) hlt (by omega)
    simp [h2]
  · rintro σ' H' ⟨y, z, rfl, e3, _⟩
    refine ⟨t, rfl, .ref a, rfl, a, C, dx, [], rfl, e3 _ _ ha, hc, hn, by decide, k _ ?_⟩
    intro b o hb
    by_cases z : b = a
    · subst z; rw [upd_same] at hb ⊢; exact hb
    · rw [upd_ne z] at hb ⊢; exact e3 _ _ hb
/-! ### poly_from -/
theorem poly_list {xs : Tms} (h : (xs.map (·.1)).Nodup) : (((srtK xs).map (·.1)).filter (fun k => !decide ((lkT xs k).getD 0 = 0))).map (fun k => (k, (lkT xs k).getD 0)) = polyOf xs := by
  unfold polyOf
  have h1 : ∀ e ∈ srtK xs, (lkT xs e.1).getD 0 = e.2 := fun e he => by
    rw [lkT_mem h ((srtK_perm xs).mem_iff.mp he)]; rfl
  rw [List.filter_map, List.map_map]
  have h2 : (srtK xs).filter ((fun k => !decide ((lkT xs k).getD 0 = 0)) ∘ fun e => e.1) = (srtK xs).filter fun e => !decide (e.2 = 0) := by
    apply List.filter_congr
    intro e he
    show (!decide ((lkT xs e.1).getD 0 = 0)) = _
    rw [h1 e he]
  rw [h2]
  conv => rhs; rw [← List.map_id ((srtK xs).filter fun e => !decide (e.2 = 0))]
  apply List.map_congr_left
  intro e he
  show (e.1, (lkT xs e.1).getD 0) = e
  rw [h1 e ((List.mem_filter.mp he).1)]
def spFrom (P : Program) (w : World) (K : PySem.W.Frag) : Sp := sp1 (RD P w K RI) (RPo K) (fun xs => Kys xs ∧ xs.length ≤ 1000000) polyOf
theorem srtK_len {α : Type} (xs : List (List Int × α)) : (srtK xs).length = xs.length := (srtK_perm xs).length_eq
/-- the list of terms, as poly_from and _law_poly make it -/
theorem ev_terms {x : Str} {σ : L2.St} {v : V} {xs : Tms} (hv : σ = [some v, none]) (r : RD P w K RI H v xs) (hk : Kys xs) (hl : xs.length ≤ 1000000) :
    EvR (RTm K) (tCB (fun xs H Q => ∃ p ys, xs = [.ref p] ∧ ((SqL K H p ys ∧ ∀ l, H l = none → Q (.ref l) (upd H l (.tup ys))) ∨ (SqT K H p ys ∧ Q (.ref p) H))) (tCons (tLc (iList K (tCB (rXSorted P w K) (tCons (tVar 0) tNil))) (gName 1) (tTest (tOp rNe (tXGet P w K (tVar 0) (tVar 1)) (tC (.int 0)))) (tTup (tCons (tVar 1) (tCons (tXGet P w K (tVar 0) (tVar 1)) tNil))) [1]) tNil)) σ H (polyOf xs) := by
  subst hv
  have hd : ∀ {H1 z}, Ex H H1 → EvR (RD P w K RI) (tVar 0) [some v, z] H1 xs := fun e => ev_var (x := xs) rfl (MonoE.ex e r)
  have hm : ∀ k ∈ (srtK xs).map (·.1), lkT xs k = some ((lkT xs k).getD 0) := fun k hk' => by
    obtain ⟨e, he, rfl⟩ := List.mem_map.mp hk'
    rw [lkT_mem hk.1 ((srtK_perm xs).mem_iff.mp he)]; rfl
  refine ev_tupleOf (EvR.is (ev_lcL (R := RN K) (S := RP K (RN K) RI) (ev_sorted (hd (Ex.refl H)) hk.1 fun e he z => by have := hk.2 e he; rw [z] at this; cases this) (by rw [List.length_map, srtK_len]; exact hl) (fun _ => rfl)
    (fun k => !decide ((lkT xs k).getD 0 = 0)) (fun k => (k, (lkT xs k).getD 0)) (fun u k H1 e m ru => ?_) (fun u k H1 e m ru _ => ?_)) (poly_list hk.1))
  · exact et_test (ev_neI (ev_xget (hd e) (ev_var (x := k) rfl ru) (hm k m)) ev_i)
  · exact ev_pair (ev_var (x := k) rfl ru) (ev_xget (hd e) (ev_var (x := k) rfl ru) (hm k m))
theorem p_poly_from (hc : Cls K (He.ga K "RawPoly")) (hn : NoAttr K (He.ga K "RawPoly") "terms") (h : spFrom P w K vs H Q E) : t_poly_from P w K (spRaw K fun _ => True) (Enr Q) (start ["parts", "powers"] vs) H := by
  obtain ⟨v, xs, rfl, r, ⟨hk, hl⟩, k⟩ := h
  exact s_ret (ev_make (ev_terms (x := "x") rfl r hk hl) hc hn True.intro) k
theorem e_from {xs : Tms} (h : EvR (RD P w K RI) te σ H xs) (hk : Kys xs) (hl : xs.length ≤ 1000000) : EvR (RPo K) (tCall (spFrom P w K) [] E0 (tCons te tNil)) σ H (polyOf xs) := ev_call1 (f := polyOf) h ⟨hk, hl⟩
/-! ### constant, powers_of, unknown_power -/
def constP (n : Int) : Tms := polyOf [(noP, n)]
def spConst (K : PySem.W.Frag) : Sp := sp1 RI (RPo K) (fun _ => True) constP
theorem kys_one {k : List Int} {c : Int} (h : k.length = 4) : Kys [(k, c)] := ⟨by simp, fun e he => by rw [List.mem_singleton] at he; subst he; exact h⟩
theorem p_constant (hN : ∀ H, SqT K H (He.ga K "NO_POWERS") [.int 0, .int 0, .int 0, .int 0]) (h : spConst K vs H Q E) : t_constant P w K (spFrom P w K) (Enr Q) (start ["number"] vs) H := by
  obtain ⟨v, n, rfl, r, _, k⟩ := h
  cases r
  exact s_ret (e_from (EvR.rd (ev_disp1 (R := RI) (k := noP) (ev_c (rn_iff.mpr ⟨_, rfl, .inr hN⟩)) (ev_vi rfl))) (kys_one rfl) (by simp)) k
theorem e_const {n : Int} (h : EvR RI te σ H n) : EvR (RPo K) (tCall (spConst K) [] E0 (tCons te tNil)) σ H (constP n) := ev_call1 (f := constP) h True.intro
def spPowersOf (K : PySem.W.Frag) : Sp := sp2 RI RI (RN K) (fun _ _ => True) powersOf
theorem p_powers_of (h : spPowersOf K vs H Q E) : t_powers_of P w K (Enr Q) (start ["k", "many", "other"] vs) H := by
  obtain ⟨v, u, x, n, rfl, r1, r2, _, k⟩ := h
  cases r1; cases r2
  refine s_ret (ev_tupleOf (ev_lcR (S := RI) (n := 4) ev_i (by decide) (fun _ => rfl) (fun o => if (o : Int) = x then n else 0) (fun i H1 e hi => et_yes) (fun i H1 e hi => ?_))) k
  by_cases c : (i : Int) = x
  · rw [if_pos c]
    exact ev_if (b := true) (et_test (EvR.is (ev_eqI (ev_vi rfl) (ev_vi rfl)) (by simp [c]))) (fun _ => ev_vi rfl) (fun z => nomatch z)
  · rw [if_neg c]
    exact ev_if (b := false) (et_test (EvR.is (ev_eqI (ev_vi rfl) (ev_vi rfl)) (by simp [c]))) (fun z => nomatch z) (fun _ => ev_i)
theorem powersOf_len (k n : Int) : (powersOf k n).length = 4 := by unfold powersOf; rw [List.length_map, List.length_range]
def unkP (k n : Int) : Tms := polyOf [(powersOf k n, 1)]
def spUnk (K : PySem.W.Frag) : Sp := sp2 RI RI (RPo K) (fun _ _ => True) unkP
theorem e_powersOf {x n : Int} (h : EvR RI ta σ H x) (h1 : EvR RI tb σ H n) : EvR (RN K) (tCall (spPowersOf K) [] E0 (tCons ta (tCons tb tNil))) σ H (powersOf x n) := ev_call2 (f := powersOf) h h1 True.intro
theorem p_unknown_power (h : spUnk K vs H Q E) : t_unknown_power P w K (spPowersOf K) (spFrom P w K) (Enr Q) (start ["k", "many"] vs) H := by
  obtain ⟨v, u, x, n, rfl, r1, r2, _, k⟩ := h
  cases r1; cases r2
  exact s_ret (e_from (EvR.rd (ev_disp1 (R := RI) (e_powersOf (ev_vi (i := x) rfl) (ev_vi (i := n) rfl)) ev_i)) (kys_one (powersOf_len x n)) (by simp)) k
theorem e_unk {x n : Int} (h : EvR RI ta σ H x) (h1 : EvR RI tb σ H n) : EvR (RPo K) (tCall (spUnk K) [] E0 (tCons ta (tCons tb tNil))) σ H (unkP x n) := ev_call2 (f := unkP) h h1 True.intro
end
end Bx

set_option Elab.async false
set_option linter.all false
set_option maxRecDepth 100000
set_option maxHeartbeats 2000000
namespace Bx
open PySem PySem.Spec PyProof.Rows L2
section
variable {P : Program} {w : World} {K : PySem.W.Frag} {vs : List V} {H : Hp} {Q : VK} {E : XK} {te ta tb tc tk tv : TE} {σ : L2.St} {D : Ends}
/-- d[k] = v, the dict by an expression -/
theorem s_xput {α : Type} {R : Rp α} [Mono R] {d : Addr} {es : List En} {xs : List (List Int × α)} {k : List Int} {x : α} (hv : ∀ H1, Ex H H1 → ∀ Q : VK, (∀ H2, Ex H1 H2 → Q (.ref d) H2) → ta σ H1 Q) (hd : H d = some (DO P w d es)) (s : EnS K R H es xs) (hl : xs.length < 10000000) (h1 : EvR R tv σ H x) (h2 : EvR (RN K) tk σ H k)
    (kk : ∀ es' H', Sb d H H' → Im H H' → H' d = some (DO P w d es') → EnS K R H' es' (ptT xs k x) → D.nx σ H') : sXPut P w K ta tk tv D σ H :=
  h1 H (Ex.refl H) _ fun v H1 e1 r1 => hv H1 e1 _ fun H1' e1' => h2 H1' (e1.trans e1') _ fun u H2 e2 r2 => by
    obtain ⟨b, rfl, tb⟩ := rn_iff.mp r2
    have e := (e1.trans e1').trans e2
    have im2 : Im H2 (upd H2 d (DO P w d (ptE es k b v))) := Im.upd (e _ _ hd) rfl
    have s2 := s.im e.im
    refine ⟨d, es, b, k, rfl, e _ _ hd, ?_, s2.keyS, rfl, tb.sq, kk _ _ ?_ ?_ upd_same ?_⟩
    · rw [s.length]; exact Nat.lt_of_lt_of_le hl (by decide)
    · exact e.sb.trans Sb.upd
    · exact e.im.trans im2
    · exact EnS.im im2 (s2.put tb (MonoE.ex (e1'.trans e2) r1))
theorem var_ref {n : Nat} {d : Addr} (hv : σ[n]? = some (some (.ref d))) : ∀ H1, Ex H H1 → ∀ Q : VK, (∀ H2, Ex H1 H2 → Q (.ref d) H2) → tVar n σ H1 Q := fun H1 _ Q q => ⟨.ref d, hv, q H1 (Ex.refl H1)⟩
/-! ### sum_with -/
def spSum (K : PySem.W.Frag) : Sp := sp3 (RPo K) (RPo K) RI (RPo K) (fun a b m => Kys a ∧ Kys b ∧ Sml a ∧ Sml b ∧ m.natAbs < 2 ^ 400000) sumWith
theorem ev_fldP {ts : Tms} {n : Nat} {v : V} (hv : σ[n]? = some (some v)) (r : RPo K H v ts) : EvR (RTm K) (tFld K (tVar n) "terms") σ H ts := ev_fld (ev_var (x := ts) hv r)
theorem p_sum_with (h : spSum K vs H Q E) : t_sum_with P w K (spFrom P w K) (Enr Q) (start ["one", "other", "by", "parts", "powers", "count"] vs) H := by
  obtain ⟨v, u, t, a, b, m, rfl, ra, rb, r3, ⟨ka, kb, sa, sb, hm⟩, k⟩ := h
  cases r3
  refine q_dcP (R := RI) (xs := a) (ev_fldP rfl ra) (Nat.le_trans sa.1 (by decide)) (fun _ _ => rfl) (fun _ _ => rfl) (fun _ _ => rfl) fun d es H1 e1 hd0 hd s1 => ?_
  refine q_forP (R := RN K) (R2 := RI) (xs := b) (ev_fldP rfl (MonoE.ex e1 rb)) fun H2 e2 => ⟨fun i σ' H' => ∃ y z es', σ' = [some v, some u, some (.int m), some (.ref d), y, z] ∧ Sb d H2 H' ∧ Im H2 H' ∧ H' d = some (DO P w d es') ∧ EnS K RI H' es' ((b.take i).foldl (fun acc t => addT acc t.1 (m * t.2)) (dictOf a)), ?_, ?_, ?_, ?_⟩
  · exact ⟨none, none, es, rfl, Sb.refl _ _, Im.refl _, e2 _ _ hd, s1.im e2.im⟩
  · rintro i σ' H' ⟨_, _, _, _, _, im, _⟩
    exact im
  · rintro i v4 v5 p c σ' H' hx r4 r5 ⟨y, z, es', rfl, sb', im, hd', s'⟩
    cases r5
    have hlen : ((b.take i).foldl (fun acc t => addT acc t.1 (m * t.2)) (dictOf a)).length < 10000000 := by
      have h1 := sumD_len a (b.take i) m
      have h2 := sa.1
      have h3 := sb.1
      have h4 : (b.take i).length ≤ b.length := by rw [List.length_take]; omega
      unfold sumD at h1
      omega
    have hc := sb.2 _ (List.mem_of_getElem? hx)
    have hk : EvR (RN K) (tVar 4) [some v, some u, some (.int m), some (.ref d), some v4, some (.int c)] H' p := ev_var rfl r4
    refine s_xput (R := RI) (var_ref rfl) hd' s' hlen (ev_op0 (ev_get2 (R := RI) (ev_var (R := RD P w K RI) rfl ⟨d, es', rfl, .inl hd', s'⟩) hk ev_i) (ev_opC (ev_vi rfl) (ev_vi rfl) (wide_mul hm hc (by decide) (by decide) (by decide)))) hk fun es2 H3 sb3 im3 hd3 s3 => ?_
    refine ⟨_, _, es2, rfl, sb'.trans sb3, im.trans im3, hd3, ?_⟩
    rw [foldl_take hx]
    exact s3
  · rintro σ' H' ⟨y, z, es', rfl, sb', im, hd', s'⟩
    rw [List.take_of_length_le (Nat.le_refl _)] at s'
    refine s_ret (e_from (xs := sumD a b m) (ev_var (R := RD P w K RI) rfl ⟨d, es', rfl, .inl hd', s'⟩) (sumD_kys ka.2 kb.2) (by have := sumD_len a b m; have := sa.1; have := sb.1; omega)) fun v H3 e3 r => k v H3 ?_ r
    exact (Ex.sbm (e1.trans e2) hd0 sb').trans e3
theorem e_sum {a b : Tms} {m : Int} (h1 : EvR (RPo K) ta σ H a) (h2 : EvR (RPo K) tb σ H b) (h3 : EvR RI tc σ H m) (ka : Kys a) (kb : Kys b) (sa : Sml a) (sb : Sml b) (hm : m.natAbs < 2 ^ 400000) : EvR (RPo K) (tCall (spSum K) [] E0 (tCons ta (tCons tb (tCons tc tNil)))) σ H (sumWith a b m) := ev_call3 (f := sumWith) h1 h2 h3 ⟨ka, kb, sa, sb, hm⟩
def spPlus (K : PySem.W.Frag) : Sp := sp2 (RPo K) (RPo K) (RPo K) (fun a b => Kys a ∧ Kys b ∧ Sml a ∧ Sml b) (fun a b => sumWith a b 1)
theorem one_lt_wide : (1 : Int).natAbs < 2 ^ 400000 := Nat.one_lt_two_pow (by decide)
theorem p_plus (h : spPlus K vs H Q E) : t_plus P w K (spSum K) (Enr Q) (start ["one", "other"] vs) H := by
  obtain ⟨v, u, a, b, rfl, ra, rb, ⟨ka, kb, sa, sb⟩, k⟩ := h
  exact s_ret (e_sum (ev_var (x := a) rfl ra) (ev_var (x := b) rfl rb) ev_i ka kb sa sb one_lt_wide) k
theorem e_plus {a b : Tms} (h1 : EvR (RPo K) ta σ H a) (h2 : EvR (RPo K) tb σ H b) (ka : Kys a) (kb : Kys b) (sa : Sml a) (sb : Sml b) : EvR (RPo K) (tCall (spPlus K) [] E0 (tCons ta (tCons tb tNil))) σ H (sumWith a b 1) := ev_call2 (f := fun a b => sumWith a b 1) h1 h2 ⟨ka, kb, sa, sb⟩
/-! ### times -/
def spTimes (K : PySem.W.Frag) : Sp := sp2 (RPo K) (RPo K) (RPo K) (fun a b => Kys a ∧ Kys b ∧ Sml a ∧ Sml b ∧ a.length * b.length ≤ 100000) timesP
theorem ev_at4 {p : List Int} {n : Nat} (ha : EvR (RN K) ta σ H p) (h4 : p.length = 4) (hn : n < 4) : EvR RI (tOp (rIxT K) ta (tC (.int (n : Int)))) σ H (gd p n) := ev_ixT (K := K) (R := RI) (n := n) ha ev_i (gd_get (by omega))
theorem q_new {i : Nat} {tz : TS} (k : ∀ d, H d = none → tz D (σ.set i (some (.ref d))) (upd H d (DO P w d []))) : tSeq (tAsg (tXNew P w) (gName i)) tz D σ H := k
theorem s_of_q {t : TS} (h : tSeq t tNext D σ H) : t D σ H := h
theorem p_times (h : spTimes K vs H Q E) : t_times P w K (spFrom P w K) (Enr Q) (start ["one", "other", "parts", "here", "count", "there", "many", "powers"] vs) H := by
  obtain ⟨v, u, a, b, rfl, ra, rb, ⟨ka, kb, sa, sb, hab⟩, k⟩ := h
  refine q_new fun d hd0 => ?_
  have e1 : Ex H (upd H d (DO P w d [])) := Ex.new hd0
  refine q_forP (R := RN K) (R2 := RI) (xs := a) (ev_fldP rfl (MonoE.ex e1 ra)) fun H2 e2 => ⟨fun i σ' H' => ∃ y3 y4 y5 y6 y7 es', σ' = [some v, some u, some (.ref d), y3, y4, y5, y6, y7] ∧ Sb d H2 H' ∧ Im H2 H' ∧ H' d = some (DO P w d es') ∧ EnS K RI H' es' ((a.take i).foldl (fun acc s => rowD acc s b) []), ?_, ?_, ?_, ?_⟩
  · exact ⟨none, none, none, none, none, [], rfl, Sb.refl _ _, Im.refl _, e2 _ _ upd_same, .nil⟩
  · rintro i σ' H' ⟨_, _, _, _, _, _, _, _, im, _⟩
    exact im
  · rintro i v3 v4 p c σ' H' hx r3 r4 ⟨y3, y4, y5, y6, y7, es', rfl, sb', im, hd', s'⟩
    cases r4
    have hi : i < a.length := (List.getElem?_eq_some_iff.mp hx).1
    refine s_of_q (q_forP (R := RN K) (R2 := RI) (xs := b) (ev_fldP rfl (Mono.im ((e1.trans e2).im.trans im) rb)) fun H3 e3 => ⟨fun j σ3 H3' => ∃ y5 y6 y7 es3, σ3 = [some v, some u, some (.ref d), some v3, some (.int c), y5, y6, y7] ∧ Sb d H2 H3' ∧ Im H3 H3' ∧ Im H' H3' ∧ H3' d = some (DO P w d es3) ∧ EnS K RI H3' es3 (rowD ((a.take i).foldl (fun acc s => rowD acc s b) []) (p, c) (b.take j)), ?_, ?_, ?_, ?_⟩)
    · exact ⟨_, _, _, es', rfl, sb'.trans e3.sb, Im.refl _, e3.im, e3 _ _ hd', s'.im e3.im⟩
    · rintro j σ3 H3' ⟨_, _, _, _, _, _, im, _⟩
      exact im
    · rintro j v5 v6 q c2 σ3 H3' hx2 r5 r6 ⟨y5, y6, y7, es3, rfl, sb3, im3, im3', hd3, s3⟩
      cases r6
      have h4p : p.length = 4 := ka.2 _ (List.mem_of_getElem? hx)
      have h4q : q.length = 4 := kb.2 _ (List.mem_of_getElem? hx2)
      have ep : ∀ {y z w'}, EvR (RN K) (tVar 3) [some v, some u, some (.ref d), some v3, some (.int c), y, z, w'] H3' p := ev_var rfl (Mono.im im3' r3)
      have eq : ∀ {z w'}, EvR (RN K) (tVar 5) [some v, some u, some (.ref d), some v3, some (.int c), some v5, z, w'] H3' q := ev_var rfl r5
      refine q_set (R := RN K) (x := adk p q) (ev_tup4 (ev_op0 (ev_at4 ep h4p (n := 0) (by decide)) (ev_at4 eq h4q (n := 0) (by decide))) (ev_op0 (ev_at4 ep h4p (n := 1) (by decide)) (ev_at4 eq h4q (n := 1) (by decide)))
        (ev_op0 (ev_at4 ep h4p (n := 2) (by decide)) (ev_at4 eq h4q (n := 2) (by decide))) (ev_op0 (ev_at4 ep h4p (n := 3) (by decide)) (ev_at4 eq h4q (n := 3) (by decide)))) fun v7 H4 e4 r7 => ?_
      have hc1 := sa.2 _ (List.mem_of_getElem? hx)
      have hc2 := sb.2 _ (List.mem_of_getElem? hx2)
      have hlen : (rowD ((a.take i).foldl (fun acc s => rowD acc s b) []) (p, c) (b.take j)).length < 10000000 := by
        have h1 := rowD_len ((a.take i).foldl (fun acc s => rowD acc s b) []) (b.take j) (p, c)
        have h2 := timD_len (a.take i) b
        unfold timD at h2
        have h3 : (a.take i).length * b.length ≤ a.length * b.length := Nat.mul_le_mul_right _ (by rw [List.length_take]; omega)
        have h4 : (b.take j).length ≤ b.length := by rw [List.length_take]; omega
        have h5 := sb.1
        omega
      have hk : EvR (RN K) (tVar 7) [some v, some u, some (.ref d), some v3, some (.int c), some v5, some (.int c2), some v7] H4 (adk p q) := ev_var rfl r7
      refine s_xput (R := RI) (var_ref rfl) (e4 _ _ hd3) (s3.im e4.im) hlen (ev_op0 (ev_get2 (R := RI) (ev_var (R := RD P w K RI) rfl ⟨d, es3, rfl, .inl (e4 _ _ hd3), s3.im e4.im⟩) hk ev_i) (ev_opC (ev_vi rfl) (ev_vi rfl) (wide_mul hc1 hc2 (by decide) (by decide) (by decide)))) hk fun es4 H5 sb5 im5 hd5 s5 => ?_
      refine ⟨_, _, _, es4, rfl, sb3.trans (e4.sb.trans sb5), im3.trans (e4.im.trans im5), im3'.trans (e4.im.trans im5), hd5, ?_⟩
      have e9 : rowD ((a.take i).foldl (fun acc s => rowD acc s b) []) (p, c) (b.take (j + 1)) = addT (rowD ((a.take i).foldl (fun acc s => rowD acc s b) []) (p, c) (b.take j)) (adk p q) (c * c2) := by
        unfold rowD
        rw [foldl_take hx2]
      rw [e9]
      exact s5
    · rintro σ3 H3' ⟨y5, y6, y7, es3, rfl, sb3, im3, im3', hd3, s3⟩
      rw [List.take_of_length_le (Nat.le_refl _)] at s3
      refine ⟨_, _, _, _, _, es3, rfl, sb3, im.trans im3', hd3, ?_⟩
      rw [foldl_take hx]
      exact s3
  · rintro σ' H' ⟨y3, y4, y5, y6, y7, es', rfl, sb', im, hd', s'⟩
    rw [List.take_of_length_le (Nat.le_refl _)] at s'
    refine s_ret (e_from (xs := timD a b) (ev_var (R := RD P w K RI) rfl ⟨d, es', rfl, .inl hd', s'⟩) (timD_kys a b) (by have := timD_len a b; omega)) fun v H3 e3 r => k v H3 ?_ r
    exact (Ex.sbm (H := H2) (fun x o h => e2 _ _ (e1 _ _ h)) hd0 sb').trans e3
end
end Bx

set_option Elab.async false
set_option linter.all false
set_option maxRecDepth 100000
set_option maxHeartbeats 2000000
namespace Bx
open PySem PySem.Spec PyProof.Rows L2
def partD (ts : Tms) (k : Nat) (j : Nat) : Tms := ts.foldl (fun acc t => if gd t.1 k = (j : Int) then ptT acc (t.1.set k 0) t.2 else acc) []
def countsBy (ts : Tms) (k : Nat) : List Tms := (List.range ((degI ts k).toNat + 1)).map fun j => polyOf (partD ts k j)
theorem partD_kys {ts : Tms} {k j : Nat} (h : ∀ e ∈ ts, e.1.length = 4) : Kys (partD ts k j) := kys_foldlM ts [] (fun acc t ht ka => by
  show Kys (if gd t.1 k = (j : Int) then _ else _)
  split
  · exact ka.ptT (by rw [List.length_set]; exact h t ht)
  · exact ka) Kys.nil
theorem partD_len (ts : Tms) (k j : Nat) : (partD ts k j).length ≤ ts.length := by
  have h := foldl_len (f := fun acc t => if gd t.1 k = (j : Int) then ptT acc (t.1.set k 0) t.2 else acc) (n := 1) (fun acc t => by
    show (if gd t.1 k = (j : Int) then _ else _ : Tms).length ≤ _
    split
    · exact ptT_length _ _ _
    · omega) ts []
  unfold partD
  simpa using h
def fct : Nat → Nat
  | 0 => 1
  | n + 1 => (n + 1) * fct n
theorem fct_le : ∀ n : Nat, n ≤ 100 → fct n ≤ 128 ^ n
  | 0, _ => Nat.le_refl _
  | n + 1, h => by
    unfold fct
    rw [Nat.pow_succ, Nat.mul_comm]
    exact Nat.mul_le_mul (fct_le n (by omega)) (by omega)
theorem fct_lt {n : Nat} (h : n ≤ 100) : fct n < 2 ^ 701 := by
  have h1 := fct_le n h
  have h2 : (128 : Nat) ^ n ≤ 2 ^ 700 := by
    rw [show (128 : Nat) = 2 ^ 7 from rfl, ← Nat.pow_mul]
    exact Nat.pow_le_pow_right (by decide) (by omega)
  have h3 : (2 : Nat) ^ 700 < 2 ^ 701 := Nat.pow_lt_pow_right (by decide) (by decide)
  omega
section
variable {P : Program} {w : World} {K : PySem.W.Frag} {vs : List V} {H : Hp} {Q : VK} {E : XK} {te ta tb tc tk tv : TE} {σ : L2.St} {D : Ends} {tz : TS}
/-! ### degree_by, without -/
def spDeg (K : PySem.W.Frag) : Sp := sp2 (RPo K) RI RI (fun ts k => Kys ts ∧ ts.length ≤ 100000 ∧ 0 ≤ k ∧ k < 4) (fun ts k => degI ts k.toNat)
theorem degI_list (ts : Tms) (k : Nat) : [0] ++ (ts.filter fun _ => true).map (fun t => gd t.1 k) = 0 :: ts.map fun t => gd t.1 k := by
  rw [List.filter_eq_self.mpr (fun _ _ => rfl)]; rfl
theorem p_degree_by (h : spDeg K vs H Q E) : t_degree_by P w K (Enr Q) (start ["poly", "k", "powers", "count"] vs) H := by
  obtain ⟨v, u, ts, k, rfl, r, rk, ⟨hk, hl, k0, k4⟩, kk⟩ := h
  obtain ⟨n, rfl⟩ := Int.eq_ofNat_of_zero_le k0
  cases rk
  refine s_ret (ev_max (EvR.is (ev_catL (R := RI) (ys := (ts.filter fun _ => true).map fun t => gd t.1 n) (ev_list (el_cons ev_i el_nil) (by simp)) (ev_lcP (R := RN K) (R2 := RI) (S := RI) (xs := ts) (ev_fldP rfl r) (Nat.le_trans hl (by decide)) (fun _ _ => rfl) (fun _ => true) (fun t => gd t.1 n)
    (fun a b p c H1 e m rp rc => et_yes) (fun a b p c H1 e m rp rc _ => ?_)) ?_) (degI_list ts n)) ?_ ?_) kk
  · exact ev_ixT (R := RI) (n := n) (ev_var (R := RN K) (x := p) rfl rp) (ev_vi rfl) (gd_get (by have := hk.2 _ m; have h : p.length = 4 := this; omega))
  · rw [List.filter_eq_self.mpr (fun _ _ => rfl), List.length_map]
    simp; omega
  · exact mxI_mem _
  · intro y hy
    rcases List.mem_cons.mp hy with rfl | hy
    · exact mxI_0 _
    · exact mxI_ge hy
theorem e_deg {ts : Tms} {k : Nat} (h1 : EvR (RPo K) ta σ H ts) (h2 : EvR RI tb σ H (k : Int)) (hk : Kys ts) (hl : ts.length ≤ 100000) (h4 : k < 4) : EvR RI (tCall (spDeg K) [] E0 (tCons ta (tCons tb tNil))) σ H (degI ts k) := ev_call2 (f := fun ts k => degI ts k.toNat) h1 h2 ⟨hk, hl, by omega, by omega⟩
def spWithout (K : PySem.W.Frag) : Sp := sp2 (RN K) RI (RN K) (fun p k => p.length = 4 ∧ 0 ≤ k ∧ k < 4) (fun p k => p.set k.toNat 0)
theorem p_without (h : spWithout K vs H Q E) : t_without P w K (Enr Q) (start ["powers", "k"] vs) H := by
  obtain ⟨v, u, p, k, rfl, r, rk, ⟨h4, k0, k4⟩, kk⟩ := h
  obtain ⟨n, rfl⟩ := Int.eq_ofNat_of_zero_le k0
  cases rk
  have hn : n < p.length := by omega
  have hp : EvR (RN K) (tVar 0) (start ["powers", "k"] [v, .int n]) H p := ev_var rfl r
  refine s_ret (EvR.is (ev_cat (ev_cat (ev_slT hp eo_none (eo_some (ev_vi (i := (n : Int)) rfl)) (sl_to p n (by omega))) (ev_tup1 ev_i) ?_) (ev_slT hp (eo_some (i := ((n + 1 : Nat) : Int)) (EvR.is (ev_op0 (ev_vi (i := (n : Int)) rfl) ev_i) (by omega))) eo_none (sl_from p (n + 1) (by omega))) ?_) ?_) kk
  · rw [List.length_take]; simp; omega
  · rw [List.length_append, List.length_take, List.length_drop]; simp; omega
  · show p.take n ++ [0] ++ p.drop (n + 1) = p.set n 0
    rw [List.set_eq_take_append_cons_drop, if_pos hn]
    simp
theorem e_without {p : List Int} {k : Nat} (h1 : EvR (RN K) ta σ H p) (h2 : EvR RI tb σ H (k : Int)) (h4 : p.length = 4) (hk : k < 4) : EvR (RN K) (tCall (spWithout K) [] E0 (tCons ta (tCons tb tNil))) σ H (p.set k 0) := ev_call2 (f := fun p k => p.set k.toNat 0) h1 h2 ⟨h4, by omega, by omega⟩
/-! ### counts_by -/
theorem q_newL {i j : Nat} {ws : List Nat} {n : Int} (h : EvR RI te σ H n) (hn : 0 ≤ n ∧ n ≤ 100000) (hw : ∀ x, wipe ((wipe σ ws).set j (some x)) ws = wipe σ ws)
    (k : ∀ (l : Addr) (ds : List Addr) H1, Ex H H1 → H l = none → H1 l = some (.lst (ds.map V.ref)) → ds.length = n.toNat → ds.Nodup → (∀ d ∈ ds, H d = none ∧ H1 d = some (DO P w d [])) → tz D (σ.set i (some (.ref l))) H1) :
    tSeq (tAsg (tLc (iRng1 (tCons te tNil)) (gName j) tYes (tXNew P w) ws) (gName i)) tz D σ H :=
  h H (Ex.refl H) _ fun v H1 e1 r => ⟨n, by cases r; rfl, by omega, by omega, fun l hl => by
    refine lc_it (walk_range (lo := 0) (n := n.toNat)) (fun i H' => Ex H1 H' ∧ ∃ ds : List Addr, H' l = some (.lst (ds.map V.ref)) ∧ ds.length = i ∧ ds.Nodup ∧ ∀ d ∈ ds, H1 d = none ∧ d ≠ l ∧ H' d = some (DO P w d [])) ⟨Ex.new hl, [], upd_same, rfl, .nil, fun _ h => nomatch h⟩ (fun _ _ _ _ => True.intro) ?_ ?_
    · rintro i x H' H'' hi ⟨e, ds, h1, h2, h3, h4⟩ ⟨rfl, rfl⟩
      refine ⟨hw _, yes_if ?_⟩
      intro d hd
      have hdl : d ≠ l := fun z => by subst z; rw [h1] at hd; cases hd
      have hdn : d ∉ ds := fun z => by have := (h4 d z).2.2; rw [hd] at this; cases this
      refine ⟨ds.map V.ref, by rw [upd_ne (Ne.symm hdl)]; exact h1, by rw [List.length_map, h2]; exact Nat.lt_of_lt_of_le hi (Nat.le_trans (show n.toNat ≤ 100000 by omega) (by decide)), ?_, ds ++ [d], ?_, by rw [List.length_append, h2]; rfl, ?_, ?_⟩
      · exact (e.mut (e.back hd)).mut hl
      · rw [upd_same, List.map_append]; rfl
      · rw [List.nodup_append]
        exact ⟨h3, by simp, fun a ha b hb z => by rw [List.mem_singleton] at hb; subst hb; exact hdn (z ▸ ha)⟩
      · intro c hc
        rcases List.mem_append.mp hc with hc | hc
        · obtain ⟨q1, q2, q3⟩ := h4 c hc
          refine ⟨q1, q2, ?_⟩
          rw [upd_ne q2, upd_ne (fun z : c = d => hdn (by rw [← z]; exact hc))]; exact q3
        · rw [List.mem_singleton] at hc
          subst hc
          refine ⟨e.back hd, hdl, ?_⟩
          rw [upd_ne hdl, upd_same]
    · rintro H' ⟨e, ds, h1, h2, h3, h4⟩
      exact k l ds H' (e1.trans e) (e1.back hl) h1 h2 h3 fun d hd => ⟨e1.back (h4 d hd).1, (h4 d hd).2.2⟩⟩
def spBy (K : PySem.W.Frag) : Sp := sp2 (RPo K) RI (RL (RPo K)) (fun ts k => Kys ts ∧ ts.length ≤ 100000 ∧ 0 ≤ k ∧ k < 4 ∧ degI ts k.toNat ≤ 1000 ∧ ∀ e ∈ ts, 0 ≤ gd e.1 k.toNat) (fun ts k => countsBy ts k.toNat)
theorem p_counts_by (h : spBy K vs H Q E) : t_counts_by P w K (spFrom P w K) (spWithout K) (spDeg K) (Enr Q) (start ["poly", "k", "found", "powers", "count", "power_here", "parts"] vs) H := by
  obtain ⟨v, u, ts, k, rfl, r, rk, ⟨hk, hl, k0, k4, hd, hp⟩, kk⟩ := h
  obtain ⟨n, rfl⟩ := Int.eq_ofNat_of_zero_le k0
  cases rk
  have hn4 : n < 4 := by omega
  have hp : ∀ e ∈ ts, 0 ≤ gd e.1 n := hp
  have hd : degI ts n ≤ 1000 := hd
  have d0 : 0 ≤ degI ts n := mxI_0 _
  refine q_newL (n := degI ts n + 1) (EvR.is (ev_op0 (e_deg (k := n) (ev_var (x := ts) rfl r) (ev_vi rfl) hk hl hn4) ev_i) rfl) (by omega) (fun _ => rfl) fun l ds H1 e1 hl0 hl1 hdl hnd hds => ?_
  have hdl : ds.length = (degI ts n).toNat + 1 := by rw [hdl]; omega
  refine q_forP (R := RN K) (R2 := RI) (xs := ts) (ev_fldP rfl (MonoE.ex e1 r)) fun H2 e2 => ⟨fun i σ' H' => ∃ y3 y4 y5 y6, σ' = [some v, some (.int n), some (.ref l), y3, y4, y5, y6] ∧ Ex H H' ∧ Im H2 H' ∧ H' l = some (.lst (ds.map V.ref)) ∧ ∀ (j : Nat) (d : Addr), ds[j]? = some d → ∃ es, H' d = some (DO P w d es) ∧ EnS K RI H' es (partD (ts.take i) n j), ?_, ?_, ?_, ?_⟩
  · exact ⟨none, none, none, none, rfl, e1.trans e2, Im.refl _, e2 _ _ hl1, fun j d hj => ⟨[], e2 _ _ (hds d (List.mem_of_getElem? hj)).2, .nil⟩⟩
  · rintro i σ' H' ⟨_, _, _, _, _, _, im, _⟩
    exact im
  · rintro i v3 v4 p c σ' H' hx r3 r4 ⟨y3, y4, y5, y6, rfl, e, im, hl', hds'⟩
    cases r4
    have m := List.mem_of_getElem? hx
    have h4p : p.length = 4 := hk.2 _ m
    have g0 : 0 ≤ gd p n := hp _ m
    have gm : gd p n ≤ degI ts n := mxI_ge (List.mem_map_of_mem (f := fun t : List Int × Int => gd t.1 n) m)
    obtain ⟨j, hj⟩ := Int.eq_ofNat_of_zero_le g0
    have hjl : j < ds.length := by omega
    have hdj : ds[j]? = some ds[j] := List.getElem?_eq_getElem hjl
    obtain ⟨es, hdd, s⟩ := hds' j _ hdj
    have epk : EvR RI (tOp (rIxT K) (tVar 3) (tVar 1)) [some v, some (.int n), some (.ref l), some v3, some (.int c), y5, y6] H' (j : Int) := EvR.is (ev_ixT (R := RI) (n := n) (ev_var (R := RN K) (x := p) rfl r3) (ev_vi rfl) (gd_get (by omega))) hj
    have hlen : (partD (ts.take i) n j).length < 10000000 := by
      have h1 := partD_len (ts.take i) n j
      have h2 : (ts.take i).length ≤ ts.length := by rw [List.length_take]; omega
      omega
    refine s_xput (R := RI) (d := ds[j]) (fun H3 e3 Q q => ⟨.ref l, rfl, epk H3 e3 _ fun x H4 e4 rx => ⟨l, _, (j : Int), _, rfl, rx, .inl (.inl (e4 _ _ (e3 _ _ hl'))), atI_nat (by rw [List.getElem?_map, hdj]; rfl), q H4 e4⟩⟩) hdd s hlen (ev_vi rfl) (e_without (k := n) (ev_var (R := RN K) (x := p) rfl r3) (ev_vi rfl) h4p hn4) fun es2 H5 sb5 im5 hd5 s5 => ?_
    have hmem : ds[j] ∈ ds := List.getElem_mem hjl
    have hdn := (hds _ hmem).1
    refine ⟨_, _, _, _, rfl, Ex.sbm e hdn sb5, im.trans im5, sb5 _ _ (ne_of hl' hdd (fun z => nomatch z)) hl', fun j2 d2 hj2 => ?_⟩
    by_cases ej : j2 = j
    · subst ej
      rw [hdj] at hj2
      cases hj2
      refine ⟨es2, hd5, ?_⟩
      unfold partD
      rw [foldl_take hx]
      show EnS K RI H5 es2 (if gd p n = (j2 : Int) then _ else _)
      rw [if_pos hj]
      exact s5
    · obtain ⟨es3, hd3, s3⟩ := hds' j2 d2 hj2
      have ne : d2 ≠ ds[j] := fun z => by
        obtain ⟨h2, e2⟩ := List.getElem?_eq_some_iff.mp hj2
        exact ej ((List.getElem_inj hnd).mp (e2.trans z))
      refine ⟨es3, sb5 _ _ ne hd3, ?_⟩
      unfold partD
      rw [foldl_take hx]
      show EnS K RI H5 es3 (if gd p n = (j2 : Int) then _ else _)
      rw [if_neg (by rw [hj]; omega)]
      exact s3.im im5
  · rintro σ' H' ⟨y3, y4, y5, y6, rfl, e, im, hl', hds'⟩
    rw [List.take_of_length_le (Nat.le_refl _)] at hds'
    have hpair : Paired (RDX P w K RI H') (ds.map V.ref) ((List.range ds.length).map fun j => partD ts n j) := by
      clear hdl hl' hl1 hds hnd
      have : ∀ (ds : List Addr) (b : Nat), (∀ (j : Nat) (d : Addr), ds[j]? = some d → ∃ es, H' d = some (DO P w d es) ∧ EnS K RI H' es (partD ts n (b + j))) → Paired (RDX P w K RI H') (ds.map V.ref) ((List.range' b ds.length).map fun j => partD ts n j) := by
        intro ds
        induction ds with
        | nil => intro b _; exact .nil
        | cons d ds ih =>
          intro b h
          rw [List.length_cons, List.range'_succ, List.map_cons, List.map_cons]
          obtain ⟨es, h1, h2⟩ := h 0 d rfl
          refine .cons ⟨d, es, rfl, h1, h2⟩ (ih (b + 1) fun j d' hj => ?_)
          have := h (j + 1) d' (by simpa using hj)
          rw [show b + 1 + j = b + (j + 1) by omega]
          exact this
      have z := this ds 0 (fun j d hj => by rw [Nat.zero_add]; exact hds' j d hj)
      rw [List.range_eq_range']
      exact z
    have hL : EvR (RL (RDX P w K RI)) (tVar 2) [some v, some (.int n), some (.ref l), y3, y4, y5, y6] H' ((List.range ds.length).map fun j => partD ts n j) := fun H3 e3 Q q => ⟨.ref l, rfl, q _ _ (Ex.refl _) ⟨l, _, rfl, e3 _ _ hl', Paired.imp hpair fun _ _ z => MonoE.ex e3 z⟩⟩
    refine s_ret (EvR.is (ev_lcL (R := RDX P w K RI) (S := RPo K) hL (by rw [List.length_map, List.length_range, hdl]; omega) (fun _ => rfl) (fun _ => true) polyOf (fun v x H1 e m r => et_yes) (fun v x H3 e3 m rx _ => e_from (EvR.rd (ev_var (R := RDX P w K RI) (x := x) rfl rx)) ?_ ?_)) ?_) fun v H3 e3 r => kk v H3 (e.trans e3) r
    · obtain ⟨j, _, rfl⟩ := List.mem_map.mp m
      exact partD_kys hk.2
    · obtain ⟨j, _, rfl⟩ := List.mem_map.mp m
      have := partD_len ts n j
      omega
    · rw [List.filter_eq_self.mpr (fun _ _ => rfl), List.map_map, hdl]
      rfl
theorem e_by {ts : Tms} {k : Nat} (h1 : EvR (RPo K) ta σ H ts) (h2 : EvR RI tb σ H (k : Int)) (hk : Kys ts) (hl : ts.length ≤ 100000) (h4 : k < 4) (hd : degI ts k ≤ 1000) (hp : ∀ e ∈ ts, 0 ≤ gd e.1 k) : EvR (RL (RPo K)) (tCall (spBy K) [] E0 (tCons ta (tCons tb tNil))) σ H (countsBy ts k) := ev_call2 (f := fun ts k => countsBy ts k.toNat) h1 h2 ⟨hk, hl, by omega, by omega, hd, hp⟩
/-! ### product_to -/
def spFct : Sp := sp1 RI RI (fun n => 0 ≤ n ∧ n ≤ 100) (fun n => (fct n.toNat : Int))
theorem p_product_to (h : spFct vs H Q E) : t_product_to P w K (Enr Q) (start ["many", "found", "by"] vs) H := by
  obtain ⟨v, n, rfl, r, ⟨h0, h1⟩, k⟩ := h
  cases r
  refine q_seti ev_i fun H1 e1 => ?_
  refine q_forR2 ev_i (ev_op0 (ev_vi (i := n) rfl) ev_i) (by omega) fun H2 e2 => ⟨fun i σ' H' => ∃ z, σ' = [some (.int n), some (.int (fct (i + 1) : Int)), z] ∧ Ex H H', ⟨none, rfl, e1.trans e2⟩, ?_, ?_⟩
  · rintro i σ' H' hi ⟨z, rfl, e⟩
    have hb : ((fct (i + 1) : Nat) : Int).natAbs < 2 ^ 701 := by rw [Int.natAbs_natCast]; exact fct_lt (by omega)
    have hc : ((2 : Int) + (i : Int)).natAbs < 2 ^ 7 := by
      have : (2 : Nat) ^ 7 = 128 := rfl
      omega
    refine s_augC (g := fun i j => i * j) rfl (ev_vi (i := 2 + (i : Int)) rfl) (wide_mul hb hc (by decide) (by decide) (by decide)) fun H3 e3 => ⟨some (.int (2 + (i : Int))), ?_, e.trans e3⟩
    have e4 : ((fct (i + 1) : Nat) : Int) * (2 + (i : Int)) = ((fct (i + 1 + 1) : Nat) : Int) := by
      rw [show fct (i + 1 + 1) = (i + 1 + 1) * fct (i + 1) from rfl, Int.natCast_mul, Int.mul_comm]
      congr 1
      omega
    rw [← e4]
    rfl
  · rintro σ' H' ⟨z, rfl, e⟩
    refine s_ret (ev_vi rfl) fun v H3 e3 r => k v H3 (e.trans e3) ?_
    have e4 : fct ((n + 1 - 2).toNat + 1) = fct n.toNat := by
      by_cases c : n = 0
      · subst c; rfl
      · congr 1; omega
    rw [e4] at r
    exact r
theorem e_fct {n : Int} {m : Nat} (h : EvR RI te σ H n) (e : n = (m : Int)) (hm : m ≤ 100) : EvR RI (tCall spFct [] E0 (tCons te tNil)) σ H (fct m : Int) := by
  subst e
  exact ev_call1 (pre := fun n => 0 ≤ n ∧ n ≤ 100) (f := fun n => (fct n.toNat : Int)) h ⟨by omega, by omega⟩
end
end Bx

set_option Elab.async false
set_option linter.all false
set_option maxRecDepth 100000
set_option maxHeartbeats 2000000
namespace Bx
open PySem PySem.Spec PyProof.Rows L2
abbrev Stretch := Rat × Rat
abbrev RS (K : PySem.W.Frag) : Rp Stretch := RP K (RQ K) (RQ K)
def idxs (ds : List Nat) : List (List Int) := ds.foldl (fun found m => found.flatMap fun ix => (List.range (m + 1)).map fun (h : Nat) => ix ++ [(h : Int)]) [[]]
def RU : Rp Unit := fun _ _ _ => True
section
variable {P : Program} {w : World} {K : PySem.W.Frag} {vs : List V} {H : Hp} {Q : VK} {E : XK} {te ta tb tc tk tv : TE} {σ : L2.St} {D : Ends} {tz : TS}
/-! ### the looks at a box -/
def spIsIn (K : PySem.W.Frag) : Sp := sp2 (RPo K) RI RB (fun ts n => Kys ts ∧ ts.length ≤ 100000 ∧ 0 ≤ n ∧ n ≤ 4 ∧ ∀ e ∈ ts, e.1.drop n.toNat = noP.drop n.toNat) (fun _ _ => true)
theorem p_is_in (hN : ∀ H, SqT K H (He.ga K "NO_POWERS") [.int 0, .int 0, .int 0, .int 0]) (h : spIsIn K vs H Q E) : t_is_in P w K (Enr Q) (start ["poly", "many", "powers", "count"] vs) H := by
  obtain ⟨v, u, ts, n, rfl, r, rk, ⟨hk, hl, k0, k4, hz⟩, kk⟩ := h
  obtain ⟨n, rfl⟩ := Int.eq_ofNat_of_zero_le k0
  cases rk
  have hn : n ≤ 4 := by omega
  have hz : ∀ e ∈ ts, e.1.drop n = noP.drop n := hz
  have eN : ∀ {σ H}, EvR (RN K) (tC (.ref (He.ga K "NO_POWERS"))) σ H noP := ev_c (rn_iff.mpr ⟨_, rfl, .inr hN⟩)
  refine s_ret (EvR.is (x' := true) (ev_all (ev_lcP (R := RN K) (R2 := RI) (S := RB) (xs := ts) (ev_fldP rfl r) (Nat.le_trans hl (by decide)) (fun _ _ => rfl) (fun _ => true) (fun t => decide (t.1.drop n = noP.drop n))
    (fun a b p c H1 e m rp rc => et_yes) (fun a b p c H1 e m rp rc _ => ev_eqN (ev_slT (ev_var (R := RN K) (x := p) rfl rp) (eo_some (ev_vi rfl)) eo_none (sl_from p n (by have h : p.length = 4 := hk.2 _ m; omega)))
      (ev_slT eN (eo_some (ev_vi rfl)) eo_none (sl_from noP n (by simpa using hn)))))) ?_) kk
  rw [List.all_map, List.all_eq_true]
  intro e he
  have := hz e (List.mem_filter.mp he).1
  simp [this]
def spIsStretch (K : PySem.W.Frag) : Sp := sp1 (RS K) RB (fun s => s.1 < s.2 ∧ Two s.1 s.2) (fun _ => true)
theorem ev_len2 {α β : Type} {R : Rp α} {S : Rp β} {p : α × β} (h : EvR (RP K R S) ta σ H p) : EvR RI (tCB (fun xs H Q => ∃ p ys, xs = [.ref p] ∧ (SqL K H p ys ∨ SqT K H p ys) ∧ Q (.int ys.length) H) (tCons ta tNil)) σ H 2 := fun H2 e2 Q q =>
  h H2 e2 _ fun u H3 e3 ⟨a, z1, z2, ev, t, _, _⟩ => ⟨a, [z1, z2], by rw [ev], .inr t.sq, q _ H3 e3 rfl⟩
theorem e_isFrac {q : Rat} (h : EvR (RQ K) te σ H q) : EvR RB (tCall (spIsFrac K) [] E0 (tCons te tNil)) σ H true := ev_call1 (f := fun _ => true) h True.intro
theorem p_is_stretch (h : spIsStretch K vs H Q E) : t_is_stretch P w K (spBelow K) (spIsFrac K) (Enr Q) (start ["thing"] vs) H := by
  obtain ⟨v, s, rfl, r, ⟨hlt, h2⟩, k⟩ := h
  have hv : ∀ {H1}, Ex H H1 → EvR (RS K) (tVar 0) (start ["thing"] [v]) H1 s := fun e => ev_var (x := s) rfl (MonoE.ex e r)
  refine q_skip (et_or (a := false) (et_not (a := true) (et_B (ev_isP (hv (Ex.refl H))))) fun _ => et_or (a := false) (et_test (EvR.is (ev_neI (ev_len2 (hv (Ex.refl H))) ev_i) rfl)) fun _ =>
    et_or (a := false) (et_not (a := true) (et_B (e_isFrac (ev_fst (hv (Ex.refl H)))))) fun _ => et_not (a := true) (et_B (e_isFrac (ev_snd (hv (Ex.refl H)))))) fun H1 e => ?_
  refine s_ret (EvR.is (x' := true) (ev_call2 (pre := Two) (f := fun x y => decide (x < y)) (ev_fst (hv e)) (ev_snd (hv e)) h2) ?_) fun v H2 e2 r => k v H2 (e.trans e2) r
  exact decide_eq_true hlt
def BoxOk (b : List Stretch) : Prop := b.length ≤ 3 ∧ ∀ s ∈ b, s.1 < s.2 ∧ Two s.1 s.2
def spIsBox (K : PySem.W.Frag) : Sp := sp1 (RT K (RS K)) RB BoxOk (fun _ => true)
theorem p_is_box (h : spIsBox K vs H Q E) : t_is_box P w K (spIsStretch K) (Enr Q) (start ["thing", "one"] vs) H := by
  obtain ⟨v, b, rfl, r, ⟨hl, hs⟩, k⟩ := h
  have hv : EvR (RT K (RS K)) (tVar 0) (start ["thing", "one"] [v]) H b := ev_var (x := b) rfl r
  refine s_ret (EvR.is (x' := true) (ev_and (a := true) (ev_isT hv) fun _ => ev_and (ev_opB (ev_len hv) ev_i) fun _ => ev_all (ev_lcT (R := RS K) (S := RB) hv (by omega) (fun _ => rfl) (fun _ => true) (fun _ => true) (fun v x H1 e m r => et_yes)
    (fun v x H1 e m r _ => ev_call1 (pre := fun s : Stretch => s.1 < s.2 ∧ Two s.1 s.2) (f := fun _ => true) (ev_var (x := x) rfl r) (hs x m)))) ?_) k
  have h1 : ((b.length : Nat) : Int) ≤ 3 := by omega
  simp [h1]
def spCheck (K : PySem.W.Frag) : Sp := sp2 (RPo K) (RT K (RS K)) RU (fun ts b => Kys ts ∧ ts.length ≤ 100000 ∧ BoxOk b ∧ ∀ e ∈ ts, e.1.drop b.length = noP.drop b.length) (fun _ _ => ())
theorem p_check_box (h : spCheck K vs H Q E) : t_check_box P w K (spIsIn K) (spIsBox K) (Enr Q) (start ["poly", "box"] vs) H := by
  obtain ⟨v, u, ts, b, rfl, r, rb, ⟨hk, hl, hb, hz⟩, k⟩ := h
  have hv : EvR (RPo K) (tVar 0) (start ["poly", "box"] [v, u]) H ts := ev_var (x := ts) rfl r
  have hb' : EvR (RT K (RS K)) (tVar 1) (start ["poly", "box"] [v, u]) H b := ev_var (x := b) rfl rb
  exact s_if (b := false) (et_or (a := false) (et_not (a := true) (et_B (ev_call1 (pre := BoxOk) (f := fun _ => true) hb' hb))) fun _ => et_not (a := true) (et_B (ev_call2 (pre := fun ts n => Kys ts ∧ ts.length ≤ 100000 ∧ 0 ≤ n ∧ n ≤ 4 ∧ ∀ e ∈ ts, e.1.drop n.toNat = noP.drop n.toNat) (f := fun _ _ => true) hv (ev_len hb') ⟨hk, hl, by omega, by have := hb.1; omega, hz⟩)))
    (fun z => nomatch z) fun _ H1 e => k .non H1 e True.intro
/-! ### indexes -/
theorem q_lst0 {i : Nat} (k : ∀ l, H l = none → tz D (σ.set i (some (.ref l))) (upd H l (.lst []))) : tSeq (tAsg (tLst tNil) (gName i)) tz D σ H := ⟨Nat.zero_le _, k⟩
def IdxOk (ds : List Nat) : Prop := ds.length ≤ 10 ∧ (ds.map (· + 1)).foldr (· * ·) 1 ≤ 100000
theorem flat_len {m : Nat} : ∀ xs : List (List Int), (xs.flatMap fun ix => (List.range (m + 1)).map fun (h : Nat) => ix ++ [(h : Int)]).length = xs.length * (m + 1)
  | [] => by simp
  | x :: xs => by rw [List.flatMap_cons, List.length_append, flat_len xs, List.length_map, List.length_range, List.length_cons, Nat.succ_mul]; omega
theorem idxs_len_from : ∀ (ds : List Nat) (a : List (List Int)), (ds.foldl (fun found m => found.flatMap fun ix => (List.range (m + 1)).map fun (h : Nat) => ix ++ [(h : Int)]) a).length = a.length * (ds.map (· + 1)).foldr (· * ·) 1
  | [], a => by simp
  | d :: ds, a => by
    rw [List.foldl_cons, idxs_len_from ds, flat_len, List.map_cons, List.foldr_cons, Nat.mul_assoc]
theorem idxs_len (ds : List Nat) : (idxs ds).length = (ds.map (· + 1)).foldr (· * ·) 1 := by unfold idxs; rw [idxs_len_from]; simp
theorem prod_take : ∀ (ds : List Nat) (i : Nat), ((ds.take i).map (· + 1)).foldr (· * ·) 1 ≤ (ds.map (· + 1)).foldr (· * ·) 1
  | [], i => by simp
  | d :: ds, 0 => by
    rw [List.take_zero]
    show 1 ≤ (d + 1) * (ds.map (· + 1)).foldr (· * ·) 1
    have := prod_take ds 0
    rw [List.take_zero] at this
    have h1 : 1 ≤ (ds.map (· + 1)).foldr (· * ·) 1 := this
    exact Nat.le_trans h1 (Nat.le_mul_of_pos_left _ (Nat.succ_pos d))
  | d :: ds, i + 1 => by
    rw [List.take_succ_cons]
    exact Nat.mul_le_mul_left _ (prod_take ds i)
theorem idxs_ix_len : ∀ (ds : List Nat) (a : List (List Int)) (n : Nat), (∀ ix ∈ a, ix.length = n) → ∀ ix ∈ ds.foldl (fun found m => found.flatMap fun ix => (List.range (m + 1)).map fun (h : Nat) => ix ++ [(h : Int)]) a, ix.length = n + ds.length
  | [], a, n, h, ix, hi => by simpa using h ix hi
  | d :: ds, a, n, h, ix, hi => by
    rw [List.foldl_cons] at hi
    have := idxs_ix_len ds _ (n + 1) (fun iy hy => by
      obtain ⟨z, hz, hy⟩ := List.mem_flatMap.mp hy
      obtain ⟨j, _, rfl⟩ := List.mem_map.mp hy
      rw [List.length_append, h z hz]; rfl) ix hi
    rw [this, List.length_cons]; omega
theorem idxs_length {ds : List Nat} {ix : List Int} (h : ix ∈ idxs ds) : ix.length = ds.length := by
  have := idxs_ix_len ds [[]] 0 (fun iy hy => by rw [List.mem_singleton] at hy; subst hy; rfl) ix h
  omega
def RIs : Rp (List Nat) := fun H v ds => RL RI H v (ds.map fun (n : Nat) => (n : Int))
instance : MonoE RIs := ⟨fun e r => MonoE.ex (R := RL RI) e r⟩
def spIdx (K : PySem.W.Frag) : Sp := sp1 RIs (RL (RN K)) IdxOk idxs
/-- the two defs of one text -/
def t_idx (K : PySem.W.Frag) : TS := (tSeq (tAsg (tLst (tCons (tTup tNil) tNil)) (gName 1))
    (tSeq (tFor (iList K (tVar 0)) (gName 2) (tSeq (tAsg (tLst tNil) (gName 3))
    (tSeq (tFor (iList K (tVar 1)) (gName 4) (tDrop (tBM K "list" rExtend (tVar 3) (tCons (tLc (iRng1 (tCons (tOp (rI0 fun i j => .int (i + j)) (tVar 2) (tC (.int 1))) tNil)) (gName 5) tYes (tOp (rCatA K) (tVar 4) (tTup (tCons (tVar 5) tNil))) [5]) tNil))))
    (tAsg (tVar 3) (gName 1)))))
    (tRet (tVar 1))))
theorem p_idx {a b c d e f : Str} (h : spIdx K vs H Q E) : t_idx K (Enr Q) (start [a, b, c, d, e, f] vs) H := by
  obtain ⟨v, ds, rfl, r, ⟨h10, hp⟩, k⟩ := h
  refine q_set (R := RL (RN K)) (x := [[]]) ?_ fun f0 H1 e1 r1 => ?_
  · intro H1 e1 Q q
    refine ⟨by show 0 ≤ sizeLine; decide, fun p hp => ⟨by show 1 ≤ sizeLine; decide, fun l hl => q _ _ ((Ex.new hp).trans (Ex.new hl)) ⟨l, _, rfl, upd_same, .cons (rn_iff.mpr ⟨p, rfl, .inl ?_⟩) .nil⟩⟩⟩
    rw [upd_ne (ne_of_none (o := .tup []) upd_same hl), upd_same]; rfl
  refine q_forL (R := RI) (ev_var (R := RL RI) (x := ds.map fun (n : Nat) => (n : Int)) rfl (MonoE.ex (R := RL RI) e1 r)) fun a0 us H2 e2 hl2 p2 => ⟨fun i σ' H' => ∃ f y2 y3 y4 y5, σ' = [some v, some f, y2, y3, y4, y5] ∧ Ex H H' ∧ Ex H2 H' ∧ RL (RN K) H' f (idxs (ds.take i)), ?_, ?_, ?_, ?_⟩
  · exact ⟨f0, none, none, none, none, rfl, e1.trans e2, Ex.refl _, MonoE.ex e2 r1⟩
  · rintro i σ' H' ⟨_, _, _, _, _, _, _, e, _⟩
    exact ⟨e.im, e _ _ hl2⟩
  · rintro i v2 x σ' H' hx rx ⟨f, y2, y3, y4, y5, rfl, e, e2', rf⟩
    cases rx
    rw [List.getElem?_map] at hx
    cases hm : ds[i]? with
    | none => rw [hm] at hx; cases hx
    | some m =>
    rw [hm] at hx
    cases hx
    refine q_lst0 fun l hl => ?_
    have hpre : (idxs (ds.take (i + 1))).length ≤ 100000 := by rw [idxs_len]; exact Nat.le_trans (prod_take ds (i + 1)) hp
    have estep : idxs (ds.take (i + 1)) = (idxs (ds.take i)).flatMap fun ix => (List.range (m + 1)).map fun (h : Nat) => ix ++ [(h : Int)] := by
      unfold idxs
      rw [foldl_take hm]
    rw [estep] at hpre
    have el : Ex H' (upd H' l (.lst [])) := Ex.new hl
    refine q_forL (R := RN K) (ev_var (R := RL (RN K)) (x := idxs (ds.take i)) rfl (MonoE.ex el rf)) fun a1 us1 H3 e3 hl3 p3 => ⟨fun j σ3 H3' => ∃ y4 y5 us, σ3 = [some v, some f, some (.int m), some (.ref l), y4, y5] ∧ Ex H' H3' ∧ Im H3 H3' ∧ H3' a1 = some (.lst us1) ∧ H3' l = some (.lst us) ∧ Paired (RN K H3') us (((idxs (ds.take i)).take j).flatMap fun ix => (List.range (m + 1)).map fun (h : Nat) => ix ++ [(h : Int)]), ?_, ?_, ?_, ?_⟩
    · exact ⟨y4, y5, [], rfl, el.trans e3, Im.refl _, hl3, e3 _ _ upd_same, .nil⟩
    · rintro j σ3 H3' ⟨_, _, _, _, _, im, h1, _⟩
      exact ⟨im, h1⟩
    · rintro j v4 ix σ3 H3' hj rj ⟨y4, y5, us, rfl, e4, im4, ha1, hl4, pl⟩
      have hmem := List.mem_of_getElem? hj
      have hlx : ix.length ≤ 10 := by
        rw [idxs_length hmem, List.length_take]; omega
      have hm10 : m < 100000 := by
        have h1 := List.length_pos_of_mem hmem
        rw [flat_len] at hpre
        have h2 : 1 * (m + 1) ≤ (idxs (ds.take i)).length * (m + 1) := Nat.mul_le_mul_right _ h1
        omega
      have hne : l ≠ a1 := fun z => by
        have h1 : RL (RN K) (upd H' l (.lst [])) f (idxs (ds.take i)) := MonoE.ex el rf
        subst z
        rw [e3 _ _ upd_same] at hl3
        cases hl3
        have := Paired.length p3
        have h2 := List.length_pos_of_mem hmem
        simp at this
        omega
      have eq9 : ((idxs (ds.take i)).take (j + 1)).flatMap (fun ix => (List.range (m + 1)).map fun (h : Nat) => ix ++ [(h : Int)]) = ((idxs (ds.take i)).take j).flatMap (fun ix => (List.range (m + 1)).map fun (h : Nat) => ix ++ [(h : Int)]) ++ (List.range (m + 1)).map fun (h : Nat) => ix ++ [(h : Int)] := by
        rw [List.take_add_one, hj, List.flatMap_append]
        simp
      refine s_extend (R := RN K) (ys := (List.range (m + 1)).map fun (h : Nat) => ix ++ [(h : Int)]) rfl hl4 (ev_lcR (S := RN K) (n := (m : Int) + 1) (ev_op0 (ev_vi rfl) ev_i) (by omega) (fun _ => rfl) (fun h => ix ++ [(h : Int)]) (fun i H1 e hi => et_yes)
        (fun i H1 e hi => ev_cat (ev_var (R := RN K) (x := ix) rfl (MonoE.ex e rj)) (ev_tup1 (ev_vi rfl)) (by simp; omega)) |> fun z => EvR.is z (by rw [show ((m : Int) + 1).toNat = m + 1 by omega])) ?_ fun zs H5 e5 pz => ?_
      · rw [Paired.length pl, ← List.length_append, ← eq9]
        have h1 := flat_len (m := m) ((idxs (ds.take i)).take (j + 1))
        rw [h1]
        rw [flat_len] at hpre
        have h2 : ((idxs (ds.take i)).take (j + 1)).length * (m + 1) ≤ (idxs (ds.take i)).length * (m + 1) := Nat.mul_le_mul_right _ (by rw [List.length_take]; omega)
        omega
      · have im5 : Im H5 (upd H5 l (.lst (us ++ zs))) := Im.upd (e5 _ _ hl4) rfl
        refine ⟨_, _, us ++ zs, rfl, ?_, im4.trans (e5.im.trans im5), ?_, upd_same, ?_⟩
        · exact (e4.trans e5).mut hl
        · rw [upd_ne (Ne.symm hne)]; exact e5 _ _ ha1
        · rw [eq9]
          exact Paired.app (Paired.imp pl fun _ _ z => Mono.im (e5.im.trans im5) z) (Paired.imp pz fun _ _ z => Mono.im im5 z)
    · rintro σ3 H3' ⟨y4, y5, us, rfl, e4, im4, ha1, hl4, pl⟩
      rw [List.take_of_length_le (Nat.le_refl _), ← estep] at pl
      refine s_set (R := RL (RN K)) (x := idxs (ds.take (i + 1))) (ev_var rfl ⟨l, us, rfl, hl4, pl⟩) fun f' H5 e5 r5 => ⟨f', _, _, _, _, rfl, e.trans (e4.trans e5), e2'.trans (e4.trans e5), r5⟩
  · rintro σ' H' ⟨f, y2, y3, y4, y5, rfl, e, e2', rf⟩
    rw [List.take_of_length_le (by rw [List.length_map]; exact Nat.le_refl _)] at rf
    exact s_ret (ev_var (R := RL (RN K)) (x := idxs ds) rfl rf) fun v H3 e3 r => k v H3 (e.trans e3) r
theorem p_indexes (h : spIdx K vs H Q E) : t_indexes P w K (Enr Q) (start ["many", "found", "most", "longer", "index", "here"] vs) H := p_idx h
theorem p_law_indexes (h : spIdx K vs H Q E) : t__law_indexes P w K (Enr Q) (start ["_law_degrees_here", "_law_found", "_law_most", "_law_longer", "_law_index", "_law_k"] vs) H := p_idx h
end
end Bx

set_option Elab.async false
set_option linter.all false
set_option maxRecDepth 100000
set_option maxHeartbeats 2000000
namespace Bx
open PySem PySem.Spec PyProof.Rows L2
/-! ### worth -/
def termW (pt : List Rat) (t : List Int × Int) : Rat := (pt.zip t.1).foldl (fun m (x : Rat × Int) => m * x.1 ^ x.2.toNat) (t.2 : Rat)
def worthP (ts : Tms) (pt : List Rat) : Rat := ts.foldl (fun acc t => acc + termW pt t) 0
def pr (l : List Nat) : Nat := l.foldr (· * ·) 1
theorem pr_take (l : List Nat) (h : ∀ x ∈ l, 0 < x) : ∀ i, pr (l.take i) ≤ pr l := by
  induction l with
  | nil => intro i; simp
  | cons a l ih =>
    intro i
    have hp : 0 < pr l := by
      clear ih
      induction l with
      | nil => exact Nat.one_pos
      | cons b l ih2 => exact Nat.mul_pos (h b (by simp)) (ih2 fun x hx => h x (by rcases List.mem_cons.mp hx with e | e <;> simp [e]))
    cases i with
    | zero => exact Nat.le_trans hp (Nat.le_mul_of_pos_left _ (h a List.mem_cons_self))
    | succ i => rw [List.take_succ_cons]; exact Nat.mul_le_mul_left _ (ih (fun x hx => h x (List.mem_cons_of_mem _ hx)) i)
theorem pr_app : ∀ a b : List Nat, pr (a ++ b) = pr a * pr b
  | [], b => by show pr b = 1 * pr b; omega
  | x :: a, b => by
    show x * pr (a ++ b) = x * pr a * pr b
    rw [pr_app a b, Nat.mul_assoc]
theorem pr_pos {l : List Nat} (h : ∀ x ∈ l, 0 < x) : 0 < pr l := by have := pr_take l h 0; rw [List.take_zero] at this; exact this
theorem pr_take1 {l : List Nat} {i x : Nat} (h : l[i]? = some x) : pr (l.take (i + 1)) = pr (l.take i) * x := by
  rw [List.take_add_one, h, pr_app]
  show _ * (x * 1) = _
  rw [Nat.mul_one]
def dts (pt : List Rat) (p : List Int) : List Nat := (pt.zip p).map fun (x : Rat × Int) => x.1.den ^ x.2.toNat
def dtm (pt : List Rat) (t : List Int × Int) : Nat := pr (dts pt t.1)
theorem dts_pos {pt : List Rat} {p : List Int} : ∀ x ∈ dts pt p, 0 < x := fun x h => by
  obtain ⟨y, _, rfl⟩ := List.mem_map.mp h
  exact Nat.pow_pos y.1.den_pos
theorem Bq.mono {a b : Nat} {x : Rat} (h : Bq a x) (l : a ≤ b) : Bq b x := ⟨Nat.lt_of_lt_of_le h.1 (Nat.pow_le_pow_right (by decide) l), Nat.lt_of_lt_of_le h.2 (Nat.pow_le_pow_right (by decide) l)⟩
structure WOk (ts : Tms) (pt : List Rat) : Prop where
  l4 : pt.length = 4
  kys : Kys ts
  len : ts.length ≤ 10
  bq : ∀ x ∈ pt, Bq 100 x
  cs : ∀ e ∈ ts, e.2.natAbs < 2 ^ 100
  pw : ∀ e ∈ ts, ∀ p ∈ e.1, 0 ≤ p ∧ p ≤ 60
  den : pr (ts.map (dtm pt)) < 2 ^ 9000
theorem frl_int (c : Int) : frl (c : Rat) = [c, 1] := by
  unfold frl
  rw [Rat.num_intCast, Rat.den_intCast]; rfl
theorem rat_den_int (c : Int) : (c : Rat).den = 1 := Rat.den_intCast c
section
variable {P : Program} {w : World} {K : PySem.W.Frag} {vs : List V} {H : Hp} {Q : VK} {E : XK} {te ta tb tc tk tv : TE} {σ : L2.St} {D : Ends} {tz : TS}
def spWorthAt (K : PySem.W.Frag) : Sp := sp2 (RPo K) (RT K (RQ K)) (RQ K) WOk worthP
theorem e_raised {x : Rat} {n : Int} (h1 : EvR (RQ K) ta σ H x) (h2 : EvR RI tb σ H n) (h : PowOk x n) : EvR (RQ K) (tCall (spRaised K) [] E0 (tCons ta (tCons tb tNil))) σ H (x ^ n.toNat) := ev_call2 (f := fun (x : Rat) (n : Int) => x ^ n.toNat) h1 h2 h
theorem p_worth_at (hZ : ∀ H, SqT K H (He.ga K "ZERO") [.int 0, .int 1]) (h : spWorthAt K vs H Q E) : t_worth_at P w K (spAdd K) (spRaised K) (spMul K) (Enr Q) (start ["poly", "point", "found", "powers", "count", "term", "place", "many"] vs) H := by
  obtain ⟨v, u, ts, pt, rfl, r, rp, W, k⟩ := h
  have hposd : ∀ x ∈ ts.map (dtm pt), 0 < x := fun x hx => by
    obtain ⟨t, _, rfl⟩ := List.mem_map.mp hx
    exact pr_pos dts_pos
  have hb : ∀ (i : Nat) x n t, pt[i]? = some x → t ∈ ts → t.1[i]? = some n → Bq 6001 (x ^ n.toNat) ∧ 0 ≤ n ∧ n ≤ 60 ∧ Bq 100 x := fun i x n t hx ht hn => by
    have h1 := W.bq x (List.mem_of_getElem? hx)
    have h2 := W.pw t ht n (List.mem_of_getElem? hn)
    refine ⟨(h1.pow n.toNat).mono (by omega), h2.1, h2.2, h1⟩
  -- what a term's first factors come to
  have hm : ∀ t ∈ ts, ∀ i, i ≤ 4 → Bq (100 + 6001 * i) (((pt.zip t.1).take i).foldl (fun m (x : Rat × Int) => m * x.1 ^ x.2.toNat) (t.2 : Rat)) ∧ (((pt.zip t.1).take i).foldl (fun m (x : Rat × Int) => m * x.1 ^ x.2.toNat) (t.2 : Rat)).den ≤ pr ((dts pt t.1).take i) := by
    intro t ht i
    induction i with
    | zero =>
      intro _
      rw [List.take_zero, List.take_zero]
      refine ⟨⟨?_, ?_⟩, ?_⟩
      · show (t.2 : Rat).num.natAbs < _
        rw [Rat.num_intCast]; exact W.cs t ht
      · show (t.2 : Rat).den < _
        rw [rat_den_int]; decide
      · show (t.2 : Rat).den ≤ _
        rw [rat_den_int]; exact Nat.le_refl _
    | succ i ih =>
      intro hi
      obtain ⟨h1, h2⟩ := ih (by omega)
      have l4 : t.1.length = 4 := W.kys.2 t ht
      have hx : pt[i]? = some (pt[i]'(by have := W.l4; omega)) := List.getElem?_eq_getElem _
      have hn : t.1[i]? = some (t.1[i]'(by omega)) := List.getElem?_eq_getElem _
      have hz : (pt.zip t.1)[i]? = some (pt[i]'(by have := W.l4; omega), t.1[i]'(by omega)) := by
        rw [List.getElem?_zip_eq_some]; exact ⟨hx, hn⟩
      rw [foldl_take hz]
      obtain ⟨b1, b2, b3, b4⟩ := hb i _ _ t hx ht hn
      refine ⟨(h1.mul b1).mono (by omega), ?_⟩
      have hd : (dts pt t.1)[i]? = some ((pt[i]'(by have := W.l4; omega)).den ^ (t.1[i]'(by omega)).toNat) := by
        unfold dts
        rw [List.getElem?_map, hz]; rfl
      rw [pr_take1 hd]
      exact Nat.le_trans (den_mul_le _ _) (Nat.mul_le_mul h2 (den_pow_le _ _))
  have hfull : ∀ t ∈ ts, (pt.zip t.1).length = 4 := fun t ht => by
    have h1 : t.1.length = 4 := W.kys.2 t ht
    rw [List.length_zip, W.l4, h1]; rfl
  have hdl : ∀ t ∈ ts, (dts pt t.1).length = 4 := fun t ht => by
    unfold dts; rw [List.length_map]; exact hfull t ht
  have htw : ∀ t ∈ ts, Bq 24104 (termW pt t) ∧ (termW pt t).den ≤ dtm pt t := fun t ht => by
    have z := hm t ht 4 (Nat.le_refl _)
    rw [List.take_of_length_le (Nat.le_of_eq (hfull t ht)), List.take_of_length_le (Nat.le_of_eq (hdl t ht))] at z
    exact z
  have hacc : ∀ i, i ≤ ts.length → Bq (1 + 25000 * i) (worthP (ts.take i) pt) ∧ (worthP (ts.take i) pt).den ≤ pr ((ts.map (dtm pt)).take i) := by
    intro i
    induction i with
    | zero => intro _; rw [List.take_zero, List.take_zero]; exact ⟨⟨(show (0 : Rat).num.natAbs < 2 ^ 1 by decide), (show (0 : Rat).den < 2 ^ 1 by decide)⟩, Nat.le_refl _⟩
    | succ i ih =>
      intro hi
      obtain ⟨h1, h2⟩ := ih (by omega)
      have hx : ts[i]? = some (ts[i]'(by omega)) := List.getElem?_eq_getElem _
      obtain ⟨b1, b2⟩ := htw _ (List.mem_of_getElem? hx)
      have e : worthP (ts.take (i + 1)) pt = worthP (ts.take i) pt + termW pt (ts[i]'(by omega)) := by unfold worthP; rw [foldl_take hx]
      rw [e]
      refine ⟨(h1.add b1).mono (by omega), ?_⟩
      rw [pr_take1 (x := dtm pt (ts[i]'(by omega))) (by rw [List.getElem?_map, hx]; rfl)]
      exact Nat.le_trans (den_add_le _ _) (Nat.mul_le_mul h2 b2)
  have hlen := W.len
  refine q_set (R := RQ K) (x := 0) (ev_c (rq_zero hZ)) fun f0 H1 e1 rf => ?_
  refine q_forP (R := RN K) (R2 := RI) (xs := ts) (ev_fldP rfl (MonoE.ex e1 r)) fun H2 e2 => ⟨fun i σ' H' => ∃ f y3 y4 y5 y6 y7, σ' = [some v, some u, some f, y3, y4, y5, y6, y7] ∧ Ex H H' ∧ Ex H2 H' ∧ RQ K H' f (worthP (ts.take i) pt), ⟨f0, none, none, none, none, none, rfl, e1.trans e2, Ex.refl _, MonoE.ex e2 rf⟩, fun i σ' H' ⟨_, _, _, _, _, _, _, _, e, _⟩ => e.im, ?_, ?_⟩
  · rintro i v3 v4 p c σ' H' hx r3 r4 ⟨f, y3, y4, y5, y6, y7, rfl, e, e2', rf⟩
    cases r4
    have m := List.mem_of_getElem? hx
    have hi : i < ts.length := (List.getElem?_eq_some_iff.mp hx).1
    refine q_set (R := RQ K) (x := (c : Rat)) (fun H3 e3 Q q => ev_tup2 (K := K) (ev_vi (i := c) rfl) ev_i H3 e3 Q fun v H4 e4 r4 => q v H4 e4 ?_) fun v5 H3 e3 r5 => ?_
    · show RN K H4 v (frl (c : Rat))
      rw [frl_int]; exact r4
    have l4 : p.length = 4 := W.kys.2 _ m
    refine q_forZ (R := RQ K) (R2 := RI) (xs := pt) (ys := p) (ev_var (R := RT K (RQ K)) (x := pt) rfl (MonoE.ex (e.trans e3) rp)) (ev_var (R := RN K) (x := p) rfl (MonoE.ex e3 r3)) (by rw [W.l4, l4]) fun H4 e4 => ⟨fun j σ3 H3' => ∃ g y6 y7, σ3 = [some v, some u, some f, some v3, some (.int c), some g, y6, y7] ∧ Ex H' H3' ∧ Ex H4 H3' ∧ RQ K H3' g (((pt.zip p).take j).foldl (fun m (x : Rat × Int) => m * x.1 ^ x.2.toNat) (c : Rat)), ⟨v5, y6, y7, rfl, e3.trans e4, Ex.refl _, MonoE.ex e4 r5⟩, fun j σ3 H3' ⟨_, _, _, _, _, e, _⟩ => e.im, ?_, ?_⟩
    · rintro j v6 v7 x n σ3 H3' H5 hxj hnj r6 r7 ⟨g, y6, y7, rfl, e5, e5', rg⟩ e6
      cases r7
      obtain ⟨b1, b2, b3, b4⟩ := hb j x n (p, c) hxj m hnj
      have hj4 : j < 4 := by have := (List.getElem?_eq_some_iff.mp hxj).1; have := W.l4; omega
      obtain ⟨c1, c2⟩ := hm _ m j (by omega)
      have hz : (pt.zip p)[j]? = some (x, n) := by rw [List.getElem?_zip_eq_some]; exact ⟨hxj, hnj⟩
      have hd : (dts pt p)[j]? = some (x.den ^ n.toNat) := by unfold dts; rw [List.getElem?_map, hz]; rfl
      have hle : pr ((dts pt p).take (j + 1)) < 2 ^ 9000 := by
        have h1 := pr_take (dts pt p) dts_pos (j + 1)
        have h2 := pr_take1 (l := ts.map (dtm pt)) (i := i) (x := dtm pt (p, c)) (by rw [List.getElem?_map, hx]; rfl)
        have h3 := pr_take (ts.map (dtm pt)) hposd (i + 1)
        have h4 : 0 < pr ((ts.map (dtm pt)).take i) := pr_pos fun x hx => hposd x (List.mem_of_mem_take hx)
        have h5 : dtm pt (p, c) ≤ pr ((ts.map (dtm pt)).take i) * dtm pt (p, c) := Nat.le_mul_of_pos_left _ h4
        have h6 := W.den
        have h7 : dtm pt (p, c) = pr (dts pt p) := rfl
        omega
      rw [pr_take1 hd] at hle
      have hpow : x.den ^ n.toNat < 2 ^ 9000 := by
        have h4 : 0 < pr ((dts pt p).take j) := pr_pos fun x hx => dts_pos x (List.mem_of_mem_take hx)
        exact Nat.lt_of_le_of_lt (Nat.le_mul_of_pos_left _ h4) hle
      refine s_set (R := RQ K) (e_mul (ev_var (x := ((pt.zip p).take j).foldl (fun m (x : Rat × Int) => m * x.1 ^ x.2.toNat) (c : Rat)) rfl (MonoE.ex e6 rg)) (e_raised (ev_var (x := x) rfl r6) (ev_vi rfl) ⟨b2, by omega, ⟨100, b4, by decide⟩, hpow⟩) ⟨_, _, c1, b1, ?_, by omega⟩) fun g' H7 e7 r7 => ⟨g', _, _, rfl, e5.trans (e6.trans e7), e5'.trans (e6.trans e7), ?_⟩
      · exact Nat.lt_of_le_of_lt (Nat.mul_le_mul c2 (den_pow_le x n.toNat)) hle
      · rw [foldl_take hz]; exact r7
    · rintro σ3 H3' ⟨g, y6, y7, rfl, e5, e5', rg⟩
      rw [show pt.length = (pt.zip p).length by rw [hfull _ m, W.l4], List.take_of_length_le (Nat.le_refl _)] at rg
      obtain ⟨a1, a2⟩ := hacc i (by omega)
      obtain ⟨b1, b2⟩ := htw _ m
      refine s_set (R := RQ K) (e_add (ev_var (x := worthP (ts.take i) pt) rfl (MonoE.ex e5 rf)) (ev_var (x := termW pt (p, c)) rfl rg) ⟨_, _, a1, b1, ?_, by omega⟩) fun f' H7 e7 r7 => ⟨f', _, _, _, _, _, rfl, e.trans (e5.trans e7), e2'.trans (e5.trans e7), ?_⟩
      · have h2 := pr_take1 (l := ts.map (dtm pt)) (i := i) (x := dtm pt (p, c)) (by rw [List.getElem?_map, hx]; rfl)
        have h3 := pr_take (ts.map (dtm pt)) hposd (i + 1)
        have h6 := W.den
        have h7 := Nat.mul_le_mul a2 b2
        omega
      · have e9 : worthP (ts.take (i + 1)) pt = worthP (ts.take i) pt + termW pt (p, c) := by unfold worthP; rw [foldl_take hx]
        rw [e9]; exact r7
  · rintro σ' H' ⟨f, y3, y4, y5, y6, y7, rfl, e, e2', rf⟩
    rw [List.take_of_length_le (Nat.le_refl _)] at rf
    exact s_ret (ev_var (x := worthP ts pt) rfl rf) fun v H3 e3 r => k v H3 (e.trans e3) r
theorem p_worth (h : spWorthAt K vs H Q E) : t_worth P w K (spWorthAt K) (spIsFrac K) (Enr Q) (start ["poly", "point", "place"] vs) H := by
  obtain ⟨v, u, ts, pt, rfl, r, rp, W, k⟩ := h
  have hp : ∀ {H1 z}, Ex H H1 → EvR (RT K (RQ K)) (tVar 1) [some v, some u, z] H1 pt := fun e => ev_var (x := pt) rfl (MonoE.ex e rp)
  have h4 := W.l4
  refine q_skip (et_or (a := false) (et_not (a := true) (et_B (ev_isT (hp (z := none) (Ex.refl H))))) fun _ => et_or (a := false) (et_test (EvR.is (ev_neI (ev_len (hp (z := none) (Ex.refl H))) ev_i) (by simp [h4]))) fun _ => EvT.is (et_not (et_B (ev_all (ev_lcT (R := RQ K) (S := RB) (hp (z := none) (Ex.refl H)) (by omega) (fun _ => rfl) (fun _ => true) (fun _ => true) (fun v x H1 e m r => et_yes)
    (fun v x H1 e m r _ => e_isFrac (ev_var (x := x) rfl r)))))) (by simp)) fun H1 e1 => ?_
  exact s_ret (ev_call2 (pre := WOk) (f := worthP) (ev_var (R := RPo K) (x := ts) rfl (MonoE.ex e1 r)) (hp (z := none) e1) W) fun v H2 e2 r => k v H2 (e1.trans e2) r
end
end Bx

set_option Elab.async false
set_option linter.all false
set_option maxRecDepth 100000
set_option maxHeartbeats 2000000
namespace Bx
open PySem PySem.Spec PyProof.Rows L2
/-! ### the counts' sizes together -/
def nm (ts : Tms) : Nat := (ts.map fun t => t.2.natAbs).sum
theorem nm_cons (t : List Int × Int) (ts : Tms) : nm (t :: ts) = t.2.natAbs + nm ts := rfl
theorem nm_app (a b : Tms) : nm (a ++ b) = nm a + nm b := by unfold nm; rw [List.map_append, List.sum_append]
theorem nm_perm {a b : Tms} (h : a.Perm b) : nm a = nm b := by unfold nm; exact (h.map _).sum_nat
theorem nm_mem : ∀ {ts : Tms} {t : List Int × Int}, t ∈ ts → t.2.natAbs ≤ nm ts
  | u :: ts, t, h => by
    rw [nm_cons]
    rcases List.mem_cons.mp h with rfl | h
    · omega
    · have := nm_mem h; omega
theorem nm_filter (f : List Int × Int → Bool) : ∀ ts : Tms, nm (ts.filter f) ≤ nm ts
  | [] => Nat.le_refl _
  | t :: ts => by
    have ih := nm_filter f ts
    rw [List.filter_cons]
    split
    · rw [nm_cons, nm_cons]; omega
    · rw [nm_cons]; omega
theorem nm_polyOf (xs : Tms) : nm (polyOf xs) ≤ nm xs := by
  unfold polyOf
  exact Nat.le_trans (nm_filter _ _) (Nat.le_of_eq (nm_perm (srtK_perm xs)))
theorem len_polyOf (xs : Tms) : (polyOf xs).length ≤ xs.length := by
  unfold polyOf
  exact Nat.le_trans (List.length_filter_le _ _) (Nat.le_of_eq (srtK_len xs))
theorem lkT_cons {α : Type} (x : List Int × α) (xs : List (List Int × α)) (k : List Int) : lkT (x :: xs) k = if x.1 = k then some x.2 else lkT xs k := by
  by_cases e : x.1 = k
  · rw [if_pos e]; simp [lkT, List.find?_cons, e]
  · rw [if_neg e]; simp [lkT, List.find?_cons, e]
/-- a store changes one entry -/
theorem ptT_cons_ne {α : Type} {x : List Int × α} {xs : List (List Int × α)} {k : List Int} {v : α} (h : ¬ x.1 = k) : ptT (x :: xs) k v = x :: ptT xs k v := by
  unfold ptT
  rw [lkT_cons, if_neg h]
  split
  · rw [List.map_cons, if_neg h]
  · rfl
theorem map_id_of {α : Type} {k : List Int} {v : α} : ∀ {xs : List (List Int × α)}, k ∉ xs.map (·.1) → (xs.map fun e => if e.1 = k then (e.1, v) else e) = xs
  | [], _ => rfl
  | x :: xs, h => by
    rw [List.map_cons, List.mem_cons, not_or] at h
    rw [List.map_cons, if_neg (fun z => h.1 z.symm), map_id_of h.2]
theorem ptT_cons_eq {α : Type} {x : List Int × α} {xs : List (List Int × α)} {v : α} (h : x.1 ∉ xs.map (·.1)) : ptT (x :: xs) x.1 v = (x.1, v) :: xs := by
  unfold ptT
  rw [lkT_cons, if_pos rfl, if_pos (by rfl), List.map_cons, if_pos rfl, map_id_of h]
theorem nm_addT : ∀ {acc : Tms} (_ : (acc.map (·.1)).Nodup) (k : List Int) (c : Int), nm (addT acc k c) ≤ nm acc + c.natAbs
  | [], _, k, c => by
    show nm [(k, 0 + c)] ≤ _
    rw [nm_cons, Int.zero_add]
    show c.natAbs + 0 ≤ 0 + c.natAbs
    omega
  | x :: xs, h, k, c => by
    rw [List.map_cons] at h
    obtain ⟨h1, h2⟩ := List.nodup_cons.mp h
    by_cases e : x.1 = k
    · subst e
      unfold addT
      rw [ptT_cons_eq h1, lkT_cons, if_pos rfl, nm_cons, nm_cons]
      show (x.2 + c).natAbs + nm xs ≤ _
      have := Int.natAbs_add_le x.2 c
      omega
    · unfold addT
      rw [ptT_cons_ne e, lkT_cons, if_neg e, nm_cons, nm_cons]
      have := nm_addT h2 k c
      unfold addT at this
      omega
theorem nm_fold {γ : Type} {f : Tms → γ → Tms} {g : γ → Nat} : ∀ (b : List γ) (acc : Tms), Kys acc → (∀ acc t, t ∈ b → Kys acc → Kys (f acc t) ∧ nm (f acc t) ≤ nm acc + g t) → nm (b.foldl f acc) ≤ nm acc + (b.map g).sum
  | [], acc, _, _ => by simp
  | t :: b, acc, k, h => by
    obtain ⟨h1, h2⟩ := h acc t List.mem_cons_self k
    have ih := nm_fold b (f acc t) h1 fun acc u hu => h acc u (List.mem_cons_of_mem _ hu)
    rw [List.foldl_cons, List.map_cons, List.sum_cons]
    omega
theorem nm_ptT_new {acc : Tms} (h : (acc.map (·.1)).Nodup) (k : List Int) (c : Int) : nm (ptT acc k c) ≤ nm acc + c.natAbs := by
  induction acc with
  | nil =>
    show nm [(k, c)] ≤ _
    rw [nm_cons]; exact Nat.le_of_eq (Nat.add_comm _ _)
  | cons x xs ih =>
    rw [List.map_cons] at h
    obtain ⟨h1, h2⟩ := List.nodup_cons.mp h
    by_cases e : x.1 = k
    · subst e
      rw [ptT_cons_eq h1, nm_cons, nm_cons]
      show c.natAbs + nm xs ≤ _
      omega
    · rw [ptT_cons_ne e, nm_cons, nm_cons]
      have := ih h2
      omega
theorem nm_dictOf {a : Tms} (h : ∀ e ∈ a, e.1.length = 4) : nm (dictOf a) ≤ nm a := by
  have := nm_fold (f := fun acc (p : List Int × Int) => ptT acc p.1 p.2) (g := fun t : List Int × Int => t.2.natAbs) a [] Kys.nil fun acc t ht k => ⟨k.ptT (h t ht), nm_ptT_new k.1 _ _⟩
  show nm (a.foldl _ []) ≤ nm a
  exact Nat.le_trans this (by show 0 + nm a ≤ nm a; omega)
theorem sum_mul_left (m : Nat) : ∀ l : Tms, (l.map fun t => m * t.2.natAbs).sum = m * nm l
  | [] => rfl
  | t :: l => by rw [List.map_cons, List.sum_cons, sum_mul_left m l, nm_cons, Nat.mul_add]
theorem nm_sumD {a b : Tms} {m : Int} (ha : ∀ e ∈ a, e.1.length = 4) (hb : ∀ e ∈ b, e.1.length = 4) : nm (sumD a b m) ≤ nm a + m.natAbs * nm b := by
  have := nm_fold (f := fun acc (t : List Int × Int) => addT acc t.1 (m * t.2)) (g := fun t : List Int × Int => m.natAbs * t.2.natAbs) b (dictOf a) (dictOf_kys ha) fun acc t ht k => ⟨k.addT (hb t ht), by have := nm_addT k.1 t.1 (m * t.2); rw [Int.natAbs_mul] at this; exact this⟩
  rw [sum_mul_left] at this
  have h2 := nm_dictOf ha
  unfold sumD
  omega
theorem nm_rowD {acc b : Tms} {s : List Int × Int} (k : Kys acc) : nm (rowD acc s b) ≤ nm acc + s.2.natAbs * nm b := by
  have := nm_fold (f := fun acc (t : List Int × Int) => addT acc (adk s.1 t.1) (s.2 * t.2)) (g := fun t : List Int × Int => s.2.natAbs * t.2.natAbs) b acc k fun acc t ht k => ⟨k.addT rfl, by have := nm_addT k.1 (adk s.1 t.1) (s.2 * t.2); rw [Int.natAbs_mul] at this; exact this⟩
  rw [sum_mul_left] at this
  exact this
theorem nm_timD (a b : Tms) : nm (timD a b) ≤ nm a * nm b := by
  have := nm_fold (f := fun acc s => rowD acc s b) (g := fun s : List Int × Int => s.2.natAbs * nm b) a [] Kys.nil fun acc t ht k => ⟨rowD_kys k, nm_rowD k⟩
  have e : ∀ l : Tms, (l.map fun s => s.2.natAbs * nm b).sum = nm l * nm b := by
    intro l
    induction l with
    | nil => simp [nm]
    | cons t l ih => rw [List.map_cons, List.sum_cons, ih, nm_cons, Nat.add_mul]
  rw [e] at this
  unfold timD
  exact Nat.le_trans this (by show 0 + nm a * nm b ≤ nm a * nm b; omega)
theorem nm_sumWith {a b : Tms} {m : Int} (ha : ∀ e ∈ a, e.1.length = 4) (hb : ∀ e ∈ b, e.1.length = 4) : nm (sumWith a b m) ≤ nm a + m.natAbs * nm b := Nat.le_trans (nm_polyOf _) (nm_sumD ha hb)
theorem nm_timesP (a b : Tms) : nm (timesP a b) ≤ nm a * nm b := Nat.le_trans (nm_polyOf _) (nm_timD a b)
theorem len_sumWith (a b : Tms) (m : Int) : (sumWith a b m).length ≤ a.length + b.length := Nat.le_trans (len_polyOf _) (sumD_len a b m)
theorem len_timesP (a b : Tms) : (timesP a b).length ≤ a.length * b.length := Nat.le_trans (len_polyOf _) (timD_len a b)
theorem kys_sumWith {a b : Tms} {m : Int} (ha : ∀ e ∈ a, e.1.length = 4) (hb : ∀ e ∈ b, e.1.length = 4) : Kys (sumWith a b m) := polyOf_kys (sumD_kys ha hb)
theorem kys_timesP (a b : Tms) : Kys (timesP a b) := polyOf_kys (timD_kys a b)
theorem kys_constP (n : Int) : Kys (constP n) := polyOf_kys (kys_one rfl)
theorem kys_unkP (k n : Int) : Kys (unkP k n) := polyOf_kys (kys_one (powersOf_len k n))
theorem nm_constP (n : Int) : nm (constP n) ≤ n.natAbs := Nat.le_trans (nm_polyOf _) (by show n.natAbs + 0 ≤ _; omega)
theorem nm_unkP (k n : Int) : nm (unkP k n) ≤ 1 := Nat.le_trans (nm_polyOf _) (by show 1 + 0 ≤ 1; omega)
theorem len_constP (n : Int) : (constP n).length ≤ 1 := Nat.le_trans (len_polyOf _) (Nat.le_refl _)
theorem len_unkP (k n : Int) : (unkP k n).length ≤ 1 := Nat.le_trans (len_polyOf _) (Nat.le_refl _)
theorem sml_of {ts : Tms} (h1 : ts.length ≤ 100000) (h2 : nm ts < 2 ^ 400000) : Sml ts := ⟨h1, fun e he => Nat.lt_of_le_of_lt (nm_mem he) h2⟩
theorem partD_sub {ts : Tms} {k j : Nat} {e : List Int × Int} : e ∈ partD ts k j → ∃ t ∈ ts, e.2 = t.2 := by
  have : ∀ (b acc : Tms), (∀ e ∈ acc, ∃ t ∈ ts, e.2 = t.2) → (∀ t ∈ b, t ∈ ts) → ∀ e ∈ b.foldl (fun acc t => if gd t.1 k = (j : Int) then ptT acc (t.1.set k 0) t.2 else acc) acc, ∃ t ∈ ts, e.2 = t.2 := by
    intro b
    induction b with
    | nil => intro acc h _; exact h
    | cons t b ih =>
      intro acc h hb
      refine ih _ (fun e he => ?_) fun u hu => hb u (List.mem_cons_of_mem _ hu)
      have he : e ∈ (if gd t.1 k = (j : Int) then ptT acc (t.1.set k 0) t.2 else acc) := he
      split at he
      · rcases ptT_mem he with rfl | he
        · exact ⟨t, hb t List.mem_cons_self, rfl⟩
        · exact h e he
      · exact h e he
  exact this ts [] (fun _ h => nomatch h) (fun _ h => h) e
theorem nm_partD {ts : Tms} {k j : Nat} (h : ∀ e ∈ ts, e.1.length = 4) : nm (partD ts k j) ≤ nm ts := by
  have := nm_fold (f := fun acc (t : List Int × Int) => if gd t.1 k = (j : Int) then ptT acc (t.1.set k 0) t.2 else acc) (g := fun t : List Int × Int => t.2.natAbs) ts [] Kys.nil fun acc t ht ka => by
    show Kys (if gd t.1 k = (j : Int) then _ else _) ∧ nm (if gd t.1 k = (j : Int) then _ else _) ≤ _
    split
    · exact ⟨ka.ptT (by rw [List.length_set]; exact h t ht), nm_ptT_new ka.1 _ _⟩
    · exact ⟨ka, by omega⟩
  unfold partD
  exact Nat.le_trans this (by show 0 + nm ts ≤ nm ts; omega)
theorem by_kys {ts : Tms} {k : Nat} (h : ∀ e ∈ ts, e.1.length = 4) : ∀ c ∈ countsBy ts k, Kys c := fun c hc => by
  obtain ⟨j, _, rfl⟩ := List.mem_map.mp hc
  exact polyOf_kys (partD_kys h)
theorem by_nm {ts : Tms} {k : Nat} (h : ∀ e ∈ ts, e.1.length = 4) : ∀ c ∈ countsBy ts k, nm c ≤ nm ts := fun c hc => by
  obtain ⟨j, _, rfl⟩ := List.mem_map.mp hc
  exact Nat.le_trans (nm_polyOf _) (nm_partD h)
theorem by_len {ts : Tms} {k : Nat} : ∀ c ∈ countsBy ts k, c.length ≤ ts.length := fun c hc => by
  obtain ⟨j, _, rfl⟩ := List.mem_map.mp hc
  exact Nat.le_trans (len_polyOf _) (partD_len _ _ _)
theorem by_sml {ts : Tms} {k : Nat} (hs : Sml ts) : ∀ c ∈ countsBy ts k, Sml c := fun c hc => by
  refine ⟨Nat.le_trans (by_len c hc) hs.1, fun e he => ?_⟩
  obtain ⟨j, _, rfl⟩ := List.mem_map.mp hc
  obtain ⟨t, ht, e2⟩ := partD_sub (polyOf_sub he).1
  rw [e2]; exact hs.2 t ht
/-! ### moved -/
def comS (s : Stretch) : Int := (Int.gcd (s.1.den : Int) (s.2.den : Int) : Int)
def begS (s : Stretch) : Int := s.1.num * ((s.2.den : Int) / comS s)
def sloS (s : Stretch) : Int := s.2.num * ((s.1.den : Int) / comS s) - begS s
def botS (s : Stretch) : Int := (s.1.den : Int) * ((s.2.den : Int) / comS s)
def lineP (k : Nat) (s : Stretch) : Tms := sumWith (constP (begS s)) (timesP (constP (sloS s)) (unkP k 1)) 1
def hStep (line : Tms) (bot : Int) (st : Tms × Int) (c : Tms) : Tms × Int := (sumWith (timesP st.1 line) c st.2, st.2 * bot)
def hornS (ts : Tms) (k : Nat) (s : Stretch) (i : Nat) : Tms × Int := ((countsBy ts k).reverse.take i).foldl (hStep (lineP k s) (botS s)) (constP 0, 1)
def hornE (ts : Tms) (k : Nat) (s : Stretch) : Tms × Int := (countsBy ts k).reverse.foldl (hStep (lineP k s) (botS s)) (constP 0, 1)
def movedP (ts : Tms) (k : Nat) (s : Stretch) : Tms × Int := ((hornE ts k s).1, (hornE ts k s).2 / botS s)
structure MvOk (ts : Tms) (k : Nat) (s : Stretch) : Prop where
  kys : Kys ts
  sml : Sml ts
  k4 : k < 4
  deg : degI ts k ≤ 1000
  pos : ∀ e ∈ ts, 0 ≤ gd e.1 k
  b1 : Bq 1000 s.1
  b2 : Bq 1000 s.2
  st : ∀ i, i ≤ (countsBy ts k).length → (hornS ts k s i).1.length ≤ 40000 ∧ nm (hornS ts k s i).1 < 2 ^ 390000 ∧ (hornS ts k s i).2.natAbs < 2 ^ 390000
theorem bot_pos (s : Stretch) : 0 < botS s := by
  unfold botS
  have h1 : (0 : Int) < (s.1.den : Int) := by have := s.1.den_pos; omega
  have h2 : (0 : Int) < (s.2.den : Int) := by have := s.2.den_pos; omega
  have h3 : 0 < comS s := gcd_pos (by omega)
  have h4 : comS s ∣ (s.2.den : Int) := Int.gcd_dvd_right _ _
  exact Int.mul_pos h1 (Int.ediv_pos_of_pos_of_dvd h2 (by omega) h4)
theorem div_abs {a b : Int} {n : Nat} (h : a.natAbs < 2 ^ n) : (a / b).natAbs < 2 ^ n := Nat.lt_of_le_of_lt (Int.natAbs_ediv_le_natAbs a b) h
theorem den_abs {n : Nat} {q : Rat} (h : Bq n q) : ((q.den : Int)).natAbs < 2 ^ n := by rw [Int.natAbs_natCast]; exact h.2
theorem beg_lt {s : Stretch} {n : Nat} (h1 : Bq n s.1) (h2 : Bq n s.2) : (begS s).natAbs < 2 ^ (n + n) := wide_lt h1.1 (div_abs (den_abs h2))
theorem bot_lt {s : Stretch} {n : Nat} (h1 : Bq n s.1) (h2 : Bq n s.2) : (botS s).natAbs < 2 ^ (n + n) := wide_lt (den_abs h1) (div_abs (den_abs h2))
theorem slo_lt {s : Stretch} {n : Nat} (h1 : Bq n s.1) (h2 : Bq n s.2) : (sloS s).natAbs < 2 ^ (n + n + 1) := by
  have a := beg_lt h1 h2
  have b : (s.2.num * ((s.1.den : Int) / comS s)).natAbs < 2 ^ (n + n) := wide_lt h2.1 (div_abs (den_abs h1))
  have e : (2 : Nat) ^ (n + n + 1) = 2 ^ (n + n) + 2 ^ (n + n) := by rw [Nat.pow_succ, Nat.mul_two]
  unfold sloS
  rw [e]
  omega
theorem line_kys (k : Nat) (s : Stretch) : Kys (lineP k s) := kys_sumWith (kys_constP _).2 (kys_timesP _ _).2
theorem line_len (k : Nat) (s : Stretch) : (lineP k s).length ≤ 2 := by
  unfold lineP
  have h1 := len_sumWith (constP (begS s)) (timesP (constP (sloS s)) (unkP k 1)) 1
  have h2 := len_constP (begS s)
  have h3 := len_timesP (constP (sloS s)) (unkP k 1)
  have h4 := Nat.mul_le_mul (len_constP (sloS s)) (len_unkP k 1)
  omega
theorem line_nm (k : Nat) (s : Stretch) : nm (lineP k s) ≤ (begS s).natAbs + (sloS s).natAbs := by
  unfold lineP
  have h1 := nm_sumWith (m := 1) (kys_constP (begS s)).2 (kys_timesP (constP (sloS s)) (unkP k 1)).2
  have h2 := nm_constP (begS s)
  have h3 := nm_timesP (constP (sloS s)) (unkP k 1)
  have h4 := Nat.mul_le_mul (nm_constP (sloS s)) (nm_unkP k 1)
  have e : (1 : Int).natAbs = 1 := rfl
  rw [e, Nat.one_mul] at h1
  omega
theorem p4e5 {n : Nat} (h : n ≤ 400000) {m : Nat} (hm : m < 2 ^ n) : m < 2 ^ 400000 := Nat.lt_of_lt_of_le hm (Nat.pow_le_pow_right (by decide) h)
theorem line_nm_lt {k : Nat} {s : Stretch} (h1 : Bq 1000 s.1) (h2 : Bq 1000 s.2) : nm (lineP k s) < 2 ^ 2002 := by
  have a := line_nm k s
  have b := beg_lt h1 h2
  have c := slo_lt h1 h2
  have e : (2 : Nat) ^ 2002 = 2 ^ (1000 + 1000) + 2 ^ (1000 + 1000) + 2 ^ (1000 + 1000 + 1) := by
    rw [show (2002 : Nat) = 1000 + 1000 + 1 + 1 from rfl, Nat.pow_succ, Nat.pow_succ]; omega
  rw [e]
  omega
section
variable {P : Program} {w : World} {K : PySem.W.Frag} {vs : List V} {H : Hp} {Q : VK} {E : XK} {te ta tb tc tk tv : TE} {σ : L2.St} {D : Ends} {tz : TS}
theorem e_times {a b : Tms} (h1 : EvR (RPo K) ta σ H a) (h2 : EvR (RPo K) tb σ H b) (ka : Kys a) (kb : Kys b) (sa : Sml a) (sb : Sml b) (hl : a.length * b.length ≤ 100000) : EvR (RPo K) (tCall (spTimes K) [] E0 (tCons ta (tCons tb tNil))) σ H (timesP a b) := ev_call2 (f := timesP) h1 h2 ⟨ka, kb, sa, sb, hl⟩
def spMoved (K : PySem.W.Frag) : Sp := sp3 (RPo K) RI (RS K) (RP K (RPo K) RI) (fun ts k s => 0 ≤ k ∧ MvOk ts k.toNat s) (fun ts k s => movedP ts k.toNat s)
theorem sml_const {n : Int} (h : n.natAbs < 2 ^ 400000) : Sml (constP n) := sml_of (Nat.le_trans (len_constP n) (by decide)) (Nat.lt_of_le_of_lt (nm_constP n) h)
theorem sml_unk (k n : Int) : Sml (unkP k n) := sml_of (Nat.le_trans (len_unkP k n) (by decide)) (Nat.lt_of_le_of_lt (nm_unkP k n) one_lt_wide)
theorem p_moved (h : spMoved K vs H Q E) : t_moved P w K (spTimes K) (spSum K) (spBy K) (spConst K) (spUnk K) (spPlus K) spGcd (Enr Q) (start ["poly", "k", "stretch", "low", "by", "high", "other", "common", "begin", "line", "bottom", "found", "factor", "counts", "count"] vs) H := by
  obtain ⟨v, u, t, ts, k, s, rfl, r, rk, rs, ⟨k0, M⟩, kk⟩ := h
  obtain ⟨n, rfl⟩ := Int.eq_ofNat_of_zero_le k0
  have M : MvOk ts n s := M
  cases rk
  obtain ⟨ky, sm, k4, dg, po, b1, b2, hst⟩ := M
  have hd0 : ((s.2.den : Int)) ≠ 0 := by have := s.2.den_pos; omega
  have hdiv : ∀ c, CDivW c (comS s) := fun c => gcd_div hd0 (p9000 (n := 1000) (by decide) (den_abs b2))
  have w1 := beg_lt b1 b2
  have w2 := slo_lt b1 b2
  have w3 := bot_lt b1 b2
  refine q_unpS (p := s) (ev_var (R := RS K) (x := s) rfl rs) fun H1 e1 => ?_
  refine q_seti (n := comS s) (e_gcd (ev_vi rfl) (ev_vi rfl)) fun H2 e2 => ?_
  refine q_seti (n := begS s) (ev_opC (ev_vi rfl) (ev_opC (ev_vi rfl) (ev_vi rfl) (hdiv _)) (wide_mul b1.1 (div_abs (den_abs b2)) (by decide) (by decide) (by decide))) fun H3 e3 => ?_
  have sc : Sml (constP (sloS s)) := sml_const (p4e5 (by decide) w2)
  have lt1 : (timesP (constP (sloS s)) (unkP (n : Int) 1)).length ≤ 1 := Nat.le_trans (len_timesP _ _) (Nat.mul_le_mul (len_constP _) (len_unkP _ _))
  have st : Sml (timesP (constP (sloS s)) (unkP (n : Int) 1)) := by
    refine sml_of (Nat.le_trans lt1 (by decide)) (p4e5 (n := 1000 + 1000 + 1) (by decide) (Nat.lt_of_le_of_lt (Nat.le_trans (nm_timesP _ _) (Nat.mul_le_mul (nm_constP _) (nm_unkP _ _))) ?_))
    rw [Nat.mul_one]; exact w2
  refine q_set (R := RPo K) (x := lineP n s) (e_plus (e_const (ev_vi (i := begS s) rfl)) (e_times (e_const (n := sloS s) (ev_op0 (ev_opC (ev_vi rfl) (ev_opC (ev_vi rfl) (ev_vi rfl) (hdiv _)) (wide_mul b2.1 (div_abs (den_abs b1)) (by decide) (by decide) (by decide))) (ev_vi rfl)))
    (e_unk (ev_vi rfl) ev_i) (kys_constP _) (kys_unkP _ _) sc (sml_unk _ _) (by have := Nat.mul_le_mul (len_constP (sloS s)) (len_unkP (n : Int) 1); omega)) (kys_constP _) (kys_timesP _ _) (sml_const (p4e5 (by decide) w1)) st) fun vl H4 e4 rl => ?_
  refine q_seti (n := botS s) (ev_opC (ev_vi rfl) (ev_opC (ev_vi rfl) (ev_vi rfl) (hdiv _)) (wide_mul (den_abs b1) (div_abs (den_abs b2)) (by decide) (by decide) (by decide))) fun H5 e5 => ?_
  refine q_par (R := RPo K) (R2 := RI) (x := constP 0) (y := 1) (e_const ev_i) ev_i fun vf vfac H6 e6 rf rfac => ?_
  cases rfac
  have E6 : Ex H H6 := e1.trans (e2.trans (e3.trans (e4.trans (e5.trans e6))))
  refine q_set (R := RL (RPo K)) (x := countsBy ts n) (e_by (k := n) (ev_var (R := RPo K) (x := ts) rfl (MonoE.ex E6 r)) (ev_vi rfl) ky sm.1 k4 dg po) fun vc H7 e7 rc => ?_
  have lk := line_kys n s
  have ll := line_len n s
  have ln := line_nm_lt (k := n) b1 b2
  have ls : Sml (lineP n s) := sml_of (by omega) (p4e5 (by decide) ln)
  refine q_forL (R := RPo K) (ev_revL (ev_var (R := RL (RPo K)) (x := countsBy ts n) rfl rc)) fun a us H8 e8 hl8 p8 => ⟨fun i σ' H' => ∃ f y, σ' = [some v, some (.int n), some t, some (.int s.1.num), some (.int (s.1.den : Int)), some (.int s.2.num), some (.int (s.2.den : Int)), some (.int (comS s)), some (.int (begS s)), some vl, some (.int (botS s)), some f, some (.int (hornS ts n s i).2), some vc, y] ∧ Ex H H' ∧ Ex H8 H' ∧ RPo K H' f (hornS ts n s i).1, ?_, ?_, ?_, ?_⟩
  · exact ⟨vf, none, rfl, E6.trans (e7.trans e8), Ex.refl _, MonoE.ex (e7.trans e8) rf⟩
  · rintro i σ' H' ⟨_, _, _, _, e, _⟩
    exact ⟨e.im, e _ _ hl8⟩
  · rintro i vcc c σ' H' hx rcc ⟨f, y, rfl, e, e', rf'⟩
    have hi : i < (countsBy ts n).length := by
      have := (List.getElem?_eq_some_iff.mp hx).1
      rw [List.length_reverse] at this; exact this
    have hc : c ∈ countsBy ts n := List.mem_reverse.mp (List.mem_of_getElem? hx)
    obtain ⟨s1, s2, s3⟩ := hst i (by omega)
    have kh : Kys (hornS ts n s i).1 := by
      unfold hornS
      cases i with
      | zero => rw [List.take_zero]; exact kys_constP 0
      | succ j =>
        have hj : (countsBy ts n).reverse[j]? = some ((countsBy ts n).reverse[j]'(by rw [List.length_reverse]; omega)) := List.getElem?_eq_getElem _
        rw [foldl_take hj]
        exact kys_sumWith (kys_timesP _ _).2 (by_kys ky.2 _ (List.mem_reverse.mp (List.getElem_mem _))).2
    have sh : Sml (hornS ts n s i).1 := sml_of (by omega) (p4e5 (by decide) s2)
    have hll : (hornS ts n s i).1.length * (lineP n s).length ≤ 40000 * 2 := Nat.mul_le_mul s1 ll
    have stt : Sml (timesP (hornS ts n s i).1 (lineP n s)) := by
      refine sml_of (Nat.le_trans (len_timesP _ _) (by omega)) (p4e5 (n := 390000 + 2002) (by decide) (Nat.lt_of_le_of_lt (nm_timesP _ _) ?_))
      rw [Nat.pow_add]
      exact Nat.mul_lt_mul'' s2 ln
    refine q_set (R := RPo K) (x := sumWith (timesP (hornS ts n s i).1 (lineP n s)) c (hornS ts n s i).2) (e_sum (e_times (ev_var (R := RPo K) (x := (hornS ts n s i).1) rfl rf') (ev_var (R := RPo K) (x := lineP n s) rfl (MonoE.ex (e5.trans (e6.trans (e7.trans (e8.trans e')))) rl)) kh lk sh ls (by omega)) (ev_var (R := RPo K) (x := c) rfl rcc) (ev_vi rfl) (kys_timesP _ _) (by_kys ky.2 c hc) stt (by_sml sm c hc) (p4e5 (by decide) s3)) fun f' H9 e9 r9 => ?_
    have estep : hornS ts n s (i + 1) = hStep (lineP n s) (botS s) (hornS ts n s i) c := by
      unfold hornS
      rw [foldl_take hx]
    refine s_augC (g := fun i j => i * j) rfl (ev_vi (i := botS s) rfl) (wide_mul s3 w3 (by decide) (by decide) (by decide)) fun H10 e10 => ⟨f', some vcc, ?_, e.trans (e9.trans e10), e'.trans (e9.trans e10), ?_⟩
    · rw [estep]; rfl
    · rw [estep]; exact MonoE.ex e10 r9
  · rintro σ' H' ⟨f, y, rfl, e, e', rf'⟩
    have e9 : hornS ts n s (countsBy ts n).reverse.length = hornE ts n s := by
      unfold hornS hornE
      rw [List.take_of_length_le (Nat.le_refl _)]
    rw [e9] at rf'
    have hfac : ∀ {H''}, EvR RI (tVar 12) [some v, some (.int n), some t, some (.int s.1.num), some (.int (s.1.den : Int)), some (.int s.2.num), some (.int (s.2.den : Int)), some (.int (comS s)), some (.int (begS s)), some vl, some (.int (botS s)), some f, some (.int (hornS ts n s (countsBy ts n).reverse.length).2), some vc, y] H'' (hornE ts n s).2 := by
      rw [e9]
      exact ev_vi rfl
    refine s_ret (ev_pair (R := RPo K) (S := RI) (x := (hornE ts n s).1) (y := (hornE ts n s).2 / botS s) (ev_var rfl rf') (ev_opC hfac (ev_vi rfl) (wide_div (b := 1000 + 1000) (bot_pos s) w3 (by decide) (by decide)))) fun v H9 e9 r9 => kk v H9 (e.trans e9) r9
end
end Bx

set_option Elab.async false
set_option linter.all false
set_option maxRecDepth 100000
set_option maxHeartbeats 2000000
namespace Bx
open PySem PySem.Spec PyProof.Rows L2
/-! ### told_by_counts -/
def tc (D i j : Nat) : Int := (fct i : Int) / (fct (i - j) : Int) * (fct (D - j) : Int)
def hereP (cs : List Tms) (D i n : Nat) : Tms := (List.range n).foldl (fun h j => sumWith h (cs.getD j []) (tc D i j)) (constP 0)
def toldS (cs : List Tms) (D k n : Nat) : Tms := (List.range n).foldl (fun f i => sumWith f (timesP (hereP cs D i (i + 1)) (unkP k i)) 1) (constP 0)
def toldP (ts : Tms) (k : Nat) : Tms := toldS (countsBy ts k) (degI ts k).toNat k ((degI ts k).toNat + 1)
structure TdOk (ts : Tms) (k : Nat) : Prop where
  kys : Kys ts
  sml : Sml ts
  k4 : k < 4
  deg : degI ts k ≤ 100
  pos : ∀ e ∈ ts, 0 ≤ gd e.1 k
  hs : ∀ i n, i ≤ (degI ts k).toNat → n ≤ i + 1 → (hereP (countsBy ts k) (degI ts k).toNat i n).length ≤ 40000 ∧ nm (hereP (countsBy ts k) (degI ts k).toNat i n) < 2 ^ 390000
  ts : ∀ n, n ≤ (degI ts k).toNat + 1 → (toldS (countsBy ts k) (degI ts k).toNat k n).length ≤ 40000 ∧ nm (toldS (countsBy ts k) (degI ts k).toNat k n) < 2 ^ 390000
theorem range_foldl {α : Type} (f : α → Nat → α) (a : α) (n : Nat) : (List.range (n + 1)).foldl f a = f ((List.range n).foldl f a) n := by
  rw [List.range_succ, List.foldl_append]; rfl
theorem fct_pos : ∀ n, 0 < fct n
  | 0 => Nat.one_pos
  | n + 1 => Nat.mul_pos (Nat.succ_pos n) (fct_pos n)
theorem fct_abs {n : Nat} (h : n ≤ 100) : ((fct n : Nat) : Int).natAbs < 2 ^ 701 := by rw [Int.natAbs_natCast]; exact fct_lt h
theorem tc_lt {D i j : Nat} (h1 : D ≤ 100) (h2 : i ≤ 100) : (tc D i j).natAbs < 2 ^ (701 + 701) := wide_lt (div_abs (fct_abs h2)) (fct_abs (by omega))
theorem hereP_kys (cs : List Tms) (h : ∀ c ∈ cs, Kys c) (D i n : Nat) : Kys (hereP cs D i n) := by
  induction n with
  | zero => exact kys_constP 0
  | succ n ih =>
    unfold hereP
    rw [range_foldl]
    refine kys_sumWith ih.2 ?_
    rw [List.getD_eq_getElem?_getD]
    cases e : cs[n]? with
    | none => exact Kys.nil.2
    | some c => exact (h c (List.mem_of_getElem? e)).2
theorem toldS_kys (cs : List Tms) (D k n : Nat) : Kys (toldS cs D k n) := by
  induction n with
  | zero => exact kys_constP 0
  | succ n ih =>
    unfold toldS
    rw [range_foldl]
    exact kys_sumWith ih.2 (kys_timesP _ _).2
section
variable {P : Program} {w : World} {K : PySem.W.Frag} {vs : List V} {H : Hp} {Q : VK} {E : XK} {te ta tb tk tv : TE} {σ : L2.St} {D : Ends} {tz : TS}
def spTold (K : PySem.W.Frag) : Sp := sp2 (RPo K) RI (RPo K) (fun ts k => 0 ≤ k ∧ TdOk ts k.toNat) (fun ts k => toldP ts k.toNat)
theorem by_get {ts : Tms} {k j : Nat} (h : j ≤ (degI ts k).toNat) : (countsBy ts k)[j]? = some ((countsBy ts k).getD j []) ∧ (countsBy ts k).getD j [] ∈ countsBy ts k := by
  have hl : (countsBy ts k).length = (degI ts k).toNat + 1 := by unfold countsBy; rw [List.length_map, List.length_range]
  have e : (countsBy ts k)[j]? = some ((countsBy ts k)[j]'(by omega)) := List.getElem?_eq_getElem _
  have e2 : (countsBy ts k).getD j [] = (countsBy ts k)[j]'(by omega) := by rw [List.getD_eq_getElem?_getD, e]; rfl
  rw [e2]
  exact ⟨e, List.getElem_mem _⟩
theorem s_forR {tu : TS} {j : Nat} {n : Int} (h : EvR RI te σ H n) (hn : -1000000 ≤ n ∧ n ≤ 1000000) (k : ∀ H1, Ex H H1 → ∃ Pv : Nat → L2.St → Hp → Prop, Pv 0 σ H1 ∧
    (∀ (i : Nat) σ' H', (i : Int) < n → Pv i σ' H' → tu { D with nx := Pv (i + 1), ct := Pv (i + 1), bk := tNext D } (σ'.set j (some (.int (i : Int)))) H') ∧ (∀ σ' H', Pv n.toNat σ' H' → D.nx σ' H')) : tFor (iRng1 (tCons te tNil)) (gName j) tu D σ H := s_of_q (q_forR h hn k)
theorem p_told (h : spTold K vs H Q E) : t_told_by_counts P w K (spUnk K) (spTimes K) (spPlus K) spFct (spSum K) (spConst K) (spBy K) (spDeg K) (Enr Q) (start ["poly", "k", "many", "counts", "found", "i", "here", "j"] vs) H := by
  obtain ⟨v, u, ts, k, rfl, r, rk, ⟨k0, M⟩, kk⟩ := h
  obtain ⟨n, rfl⟩ := Int.eq_ofNat_of_zero_le k0
  have M : TdOk ts n := M
  cases rk
  obtain ⟨ky, sm, k4, dg, po, hs, hts⟩ := M
  have d0 : 0 ≤ degI ts n := mxI_0 _
  obtain ⟨d, hd⟩ := Int.eq_ofNat_of_zero_le d0
  have hdn : (degI ts n).toNat = d := by rw [hd]; exact Int.toNat_natCast d
  rw [hdn] at hs hts
  have hd100 : d ≤ 100 := by omega
  have bk := by_kys (k := n) ky.2
  refine q_seti (n := (d : Int)) (EvR.is (e_deg (k := n) (ev_var (R := RPo K) (x := ts) rfl r) (ev_vi rfl) ky sm.1 k4) hd) fun H1 e1 => ?_
  refine q_set (R := RL (RPo K)) (x := countsBy ts n) (e_by (k := n) (ev_var (R := RPo K) (x := ts) rfl (MonoE.ex e1 r)) (ev_vi rfl) ky sm.1 k4 (by omega) po) fun vc H2 e2 rc => ?_
  refine q_set (R := RPo K) (x := constP 0) (e_const ev_i) fun vf H3 e3 rf => ?_
  have E3 := e1.trans (e2.trans e3)
  refine q_forR (ev_op0 (ev_vi (i := (d : Int)) rfl) ev_i) (by omega) fun H4 e4 => ⟨fun i σ' H' => ∃ f y5 y6 y7, σ' = [some v, some (.int n), some (.int d), some vc, some f, y5, y6, y7] ∧ Ex H H' ∧ Ex H2 H' ∧ RPo K H' f (toldS (countsBy ts n) d n i), ?_, ?_, ?_⟩
  · exact ⟨vf, none, none, none, rfl, E3.trans e4, e3.trans e4, MonoE.ex e4 rf⟩
  · rintro i σ' H' hi ⟨f, y5, y6, y7, rfl, e, e', rf'⟩
    have hid : i ≤ d := by omega
    refine q_set (R := RPo K) (x := constP 0) (e_const ev_i) fun vh H5 e5 rh => ?_
    refine q_forR (ev_op0 (ev_vi (i := (i : Int)) rfl) ev_i) (by omega) fun H6 e6 => ⟨fun j σ3 H3' => ∃ h y7, σ3 = [some v, some (.int n), some (.int d), some vc, some f, some (.int i), some h, y7] ∧ Ex H' H3' ∧ RPo K H3' h (hereP (countsBy ts n) d i j), ?_, ?_, ?_⟩
    · exact ⟨vh, y7, rfl, e5.trans e6, MonoE.ex e6 rh⟩
    · rintro j σ3 H3' hj ⟨hv, y7, rfl, e7, rh'⟩
      have hji : j ≤ i := by omega
      obtain ⟨g1, g2⟩ := by_get (ts := ts) (k := n) (j := j) (by omega)
      obtain ⟨q1, q2⟩ := hs i j hid (by omega)
      have f1 := fct_abs (n := i) (by omega)
      refine s_set (R := RPo K) (x := hereP (countsBy ts n) d i (j + 1)) (EvR.is (e_sum (m := tc d i j) (ev_var (R := RPo K) (x := hereP (countsBy ts n) d i j) rfl rh') (ev_ixL (R := RPo K) (n := j) (ev_var (R := RL (RPo K)) (x := countsBy ts n) rfl (MonoE.ex (e'.trans e7) rc)) (ev_vi rfl) g1)
        (ev_opC (ev_opC (e_fct (m := i) (ev_vi rfl) rfl (by omega)) (e_fct (m := i - j) (ev_op0 (ev_vi (i := (i : Int)) rfl) (ev_vi (i := (j : Int)) rfl)) (by omega) (by omega)) (wide_div (b := 701) (by have := fct_pos (i - j); omega) (fct_abs (by omega)) (by decide) (by decide)))
          (e_fct (m := d - j) (ev_op0 (ev_vi (i := (d : Int)) rfl) (ev_vi (i := (j : Int)) rfl)) (by omega) (by omega)) (wide_mul (div_abs f1) (fct_abs (n := d - j) (by omega)) (by decide) (by decide) (by decide)))
        (hereP_kys _ bk _ _ _) (bk _ g2) (sml_of (by omega) (p4e5 (by decide) q2)) (by_sml sm _ g2) (p4e5 (by decide) (tc_lt hd100 (by omega)))) ?_) fun h' H8 e8 r8 => ⟨h', _, rfl, e7.trans e8, r8⟩
      unfold hereP
      rw [range_foldl]
    · rintro σ3 H3' ⟨hv, y7, rfl, e7, rh'⟩
      rw [show ((i : Int) + 1).toNat = i + 1 by omega] at rh'
      obtain ⟨q1, q2⟩ := hs i (i + 1) hid (Nat.le_refl _)
      obtain ⟨q3, q4⟩ := hts i (by omega)
      have kh := hereP_kys _ bk d i (i + 1)
      have sh : Sml (hereP (countsBy ts n) d i (i + 1)) := sml_of (by omega) (p4e5 (by decide) q2)
      have hll : (hereP (countsBy ts n) d i (i + 1)).length * (unkP (n : Int) (i : Int)).length ≤ 40000 * 1 := Nat.mul_le_mul q1 (len_unkP _ _)
      have stt : Sml (timesP (hereP (countsBy ts n) d i (i + 1)) (unkP (n : Int) (i : Int))) := by
        refine sml_of (Nat.le_trans (len_timesP _ _) (by omega)) (p4e5 (n := 390000) (by decide) (Nat.lt_of_le_of_lt (Nat.le_trans (nm_timesP _ _) (Nat.mul_le_mul_left _ (nm_unkP _ _))) ?_))
        rw [Nat.mul_one]; exact q2
      refine s_set (R := RPo K) (x := toldS (countsBy ts n) d n (i + 1)) (EvR.is (e_plus (ev_var (R := RPo K) (x := toldS (countsBy ts n) d n i) rfl (MonoE.ex e7 rf')) (e_times (ev_var (R := RPo K) (x := hereP (countsBy ts n) d i (i + 1)) rfl rh') (e_unk (x := (n : Int)) (n := (i : Int)) (ev_vi rfl) (ev_vi rfl)) kh (kys_unkP _ _) sh (sml_unk _ _) (by omega))
        (toldS_kys _ _ _ _) (kys_timesP _ _) (sml_of (by omega) (p4e5 (by decide) q4)) stt) ?_) fun f' H8 e8 r8 => ⟨f', _, _, _, rfl, e.trans (e7.trans e8), e'.trans (e7.trans e8), r8⟩
      unfold toldS
      rw [range_foldl]
  · rintro σ' H' ⟨f, y5, y6, y7, rfl, e, e', rf'⟩
    rw [show ((d : Int) + 1).toNat = d + 1 by omega] at rf'
    refine s_ret (R := RPo K) (x := toldP ts n) (ev_var rfl ?_) fun v H3 e3 r => kk v H3 (e.trans e3) r
    unfold toldP
    rw [hdn]; exact rf'
/-! ### whole_counts -/
def wStep (st : Tms × Int) (x : Stretch × Nat) : Tms × Int := (toldP (movedP st.1 x.2 x.1).1 x.2, st.2 * ((movedP st.1 x.2 x.1).2 * (fct (degI (movedP st.1 x.2 x.1).1 x.2).toNat : Int)))
def wSt (box : List Stretch) (ts : Tms) (i : Nat) : Tms × Int := (box.zipIdx.take i).foldl wStep (ts, 1)
structure WhOk (ts : Tms) (box : List Stretch) : Prop where
  len : box.length ≤ 3
  mv : ∀ i s, box[i]? = some s → MvOk (wSt box ts i).1 i s
  td : ∀ i s, box[i]? = some s → TdOk (movedP (wSt box ts i).1 i s).1 i
  fac : ∀ i s, box[i]? = some s → (wSt box ts i).2.natAbs < 2 ^ 100000 ∧ (movedP (wSt box ts i).1 i s).2.natAbs < 2 ^ 100000
def spWhole (K : PySem.W.Frag) : Sp := sp2 (RPo K) (RT K (RS K)) (RP K (RPo K) RI) WhOk (fun ts box => wSt box ts box.length)
theorem p_whole (h : spWhole K vs H Q E) : t_whole_counts P w K (spTold K) (spDeg K) spFct (spMoved K) (Enr Q) (start ["poly", "box", "factor", "k", "stretch", "by"] vs) H := by
  obtain ⟨v, u, ts, box, rfl, r, rb, W, kk⟩ := h
  refine q_seti (n := 1) ev_i fun H1 e1 => ?_
  refine q_forE (R := RS K) (xs := box) (ev_var (R := RT K (RS K)) (x := box) rfl (MonoE.ex e1 rb)) fun H2 e2 => ⟨fun i σ' H' => ∃ p y3 y4 y5, σ' = [some p, some u, some (.int (wSt box ts i).2), y3, y4, y5] ∧ Ex H H' ∧ Ex H2 H' ∧ RPo K H' p (wSt box ts i).1, ⟨v, none, none, none, rfl, e1.trans e2, Ex.refl _, MonoE.ex (e1.trans e2) r⟩, fun i σ' H' ⟨_, _, _, _, _, _, e, _⟩ => e.im, ?_, ?_⟩
  · rintro i vs' s σ' H' H3 hx rs ⟨p, y3, y4, y5, rfl, e, e', rp⟩ e3
    have M := W.mv i s hx
    have T := W.td i s hx
    obtain ⟨f1, f2⟩ := W.fac i s hx
    refine q_unp (R := RPo K) (S := RI) (p := movedP (wSt box ts i).1 i s) (ev_call3 (pre := fun ts k s => 0 ≤ k ∧ MvOk ts k.toNat s) (f := fun ts (k : Int) s => movedP ts k.toNat s) (y := (i : Int)) (ev_var (R := RPo K) (x := (wSt box ts i).1) rfl (MonoE.ex e3 rp)) (ev_vi rfl) (ev_var (R := RS K) (x := s) rfl rs) ⟨by omega, M⟩) fun vp vb H4 e4 r4 rb4 => ?_
    have rb4 : vb = .int (movedP (wSt box ts i).1 i s).2 := rb4
    subst rb4
    have hz : box.zipIdx[i]? = some (s, i) := by rw [List.getElem?_zipIdx, hx]; simp
    have estep : wSt box ts (i + 1) = wStep (wSt box ts i) (s, i) := by unfold wSt; rw [foldl_take hz]
    have d0 : 0 ≤ degI (movedP (wSt box ts i).1 i s).1 i := mxI_0 _
    have hdeg := T.deg
    have hfct : ((fct (degI (movedP (wSt box ts i).1 i s).1 i).toNat : Nat) : Int).natAbs < 2 ^ 701 := fct_abs (by omega)
    refine q_augC (g := fun i j => i * j) (n := (wSt box ts i).2) (m := (movedP (wSt box ts i).1 i s).2 * (fct (degI (movedP (wSt box ts i).1 i s).1 i).toNat : Int)) rfl
      (ev_opC (ev_vi rfl) (e_fct (m := (degI (movedP (wSt box ts i).1 i s).1 i).toNat) (e_deg (k := i) (ev_var (R := RPo K) (x := (movedP (wSt box ts i).1 i s).1) rfl r4) (ev_vi rfl) T.kys T.sml.1 T.k4) (by omega) (by omega)) (wide_mul f2 hfct (by decide) (by decide) (by decide)))
      (wide_mul f1 (wide_lt f2 hfct) (by decide) (by decide) (by decide)) fun H5 e5 => ?_
    refine s_set (R := RPo K) (x := toldP (movedP (wSt box ts i).1 i s).1 i) (ev_call2 (pre := fun ts k => 0 ≤ k ∧ TdOk ts k.toNat) (f := fun ts (k : Int) => toldP ts k.toNat) (y := (i : Int)) (ev_var (R := RPo K) (x := (movedP (wSt box ts i).1 i s).1) rfl (MonoE.ex e5 r4)) (ev_vi rfl) ⟨by omega, T⟩) fun p' H6 e6 r6 => ?_
    refine ⟨p', some (.int (i : Int)), some vs', some (.int (movedP (wSt box ts i).1 i s).2), ?_, e.trans (e3.trans (e4.trans (e5.trans e6))), e'.trans (e3.trans (e4.trans (e5.trans e6))), ?_⟩
    · rw [estep]; rfl
    · rw [estep]; exact r6
  · rintro σ' H' ⟨p, y3, y4, y5, rfl, e, e', rp⟩
    exact s_ret (ev_pair (R := RPo K) (S := RI) (ev_var (x := (wSt box ts box.length).1) rfl rp) (ev_vi rfl)) fun v H3 e3 r => kk v H3 (e.trans e3) r
/-! ### counts_over -/
def degsP (ts : Tms) (n : Nat) : List Nat := (List.range n).map fun k => (degI ts k).toNat
def cnt (told : Tms) (F : Int) (ix : List Int) : Rat := Rat.divInt ((lkT (dictOf told) (ix ++ noP.drop ix.length)).getD 0) F
def tabR (f : List Int → Rat) (l : List (List Int)) : List (List Int × Rat) := l.foldl (fun acc ix => ptT acc ix (f ix)) []
def countsOver (ts : Tms) (box : List Stretch) : List (List Int × Rat) := tabR (cnt (wSt box ts box.length).1 (wSt box ts box.length).2) (idxs (degsP ts box.length))
structure CoOk (ts : Tms) (box : List Stretch) : Prop where
  kys : Kys ts
  len : ts.length ≤ 100000
  bx : BoxOk box
  drop : ∀ e ∈ ts, e.1.drop box.length = noP.drop box.length
  wh : WhOk ts box
  tk : Kys (wSt box ts box.length).1
  tl : (wSt box ts box.length).1.length ≤ 100000
  f0 : (wSt box ts box.length).2 ≠ 0
  f9 : (wSt box ts box.length).2.natAbs < 2 ^ 9000
  ix : IdxOk (degsP ts box.length)
theorem tabR_len (f : List Int → Rat) (l : List (List Int)) : (tabR f l).length ≤ l.length := by
  have : ∀ (l : List (List Int)) (acc : List (List Int × Rat)), (l.foldl (fun acc ix => ptT acc ix (f ix)) acc).length ≤ acc.length + l.length := by
    intro l
    induction l with
    | nil => intro acc; simp
    | cons x l ih =>
      intro acc
      rw [List.foldl_cons, List.length_cons]
      have h1 := ih (ptT acc x (f x))
      have h2 := ptT_length acc x (f x)
      omega
  have h := this l []
  unfold tabR
  simpa using h
def spCounts (P : Program) (w : World) (K : PySem.W.Frag) : Sp := fun vs H Q _ => ∃ v u ts box, vs = [v, u] ∧ RPo K H v ts ∧ RT K (RS K) H u box ∧ CoOk ts box ∧ ∀ g es H', Ex H H' → H g = none → H' g = some (DO P w g es) → EnS K (RQ K) H' es (countsOver ts box) → Q (.ref g) H'
theorem p_counts_over (hN : ∀ H, SqT K H (He.ga K "NO_POWERS") [.int 0, .int 0, .int 0, .int 0]) (h : spCounts P w K vs H Q E) : t_counts_over P w K (spDeg K) (spIdx K) (spFrac K) (spWhole K) (spCheck K) (Enr Q) (start ["poly", "box", "told", "factor", "counts", "found", "index", "powers", "count", "k"] vs) H := by
  obtain ⟨v, u, ts, box, rfl, r, rb, C, kk⟩ := h
  have hbl := C.bx.1
  have eN : ∀ {σ H}, EvR (RN K) (tC (.ref (He.ga K "NO_POWERS"))) σ H noP := ev_c (rn_iff.mpr ⟨_, rfl, .inr hN⟩)
  refine (ev_call2 (S := RU) (pre := fun ts b => Kys ts ∧ ts.length ≤ 100000 ∧ BoxOk b ∧ ∀ e ∈ ts, e.1.drop b.length = noP.drop b.length) (f := fun _ _ => ()) (ev_var (R := RPo K) (x := ts) rfl r) (ev_var (R := RT K (RS K)) (x := box) rfl rb) ⟨C.kys, C.len, C.bx, C.drop⟩) H (Ex.refl H) _ fun _ H1 e1 _ => ?_
  refine q_unp (R := RPo K) (S := RI) (p := wSt box ts box.length) (ev_call2 (pre := WhOk) (f := fun ts box => wSt box ts box.length) (ev_var (R := RPo K) (x := ts) rfl (MonoE.ex e1 r)) (ev_var (R := RT K (RS K)) (x := box) rfl (MonoE.ex e1 rb)) C.wh) fun vt vf H2 e2 rt rf => ?_
  have rf : vf = .int (wSt box ts box.length).2 := rf
  subst rf
  generalize hW : wSt box ts box.length = W at rt
  obtain ⟨told, F⟩ := W
  have ctk := C.tk
  have ctl := C.tl
  have cf0 := C.f0
  have cf9 := C.f9
  rw [hW] at ctk ctl cf0 cf9
  have rt : RPo K H2 vt told := rt
  have ctk : Kys told := ctk
  have ctl : told.length ≤ 100000 := ctl
  have cf0 : F ≠ 0 := cf0
  have cf9 : F.natAbs < 2 ^ 9000 := cf9
  refine q_dcP (R := RI) (xs := told) (ev_fldP rfl rt) (Nat.le_trans ctl (by decide)) (fun _ _ => rfl) (fun _ _ => rfl) (fun _ _ => rfl) fun d es H3 e3 hd0 hd s3 => ?_
  refine q_new fun g hg0 => ?_
  have e4 : Ex H3 (upd H3 g (DO P w g [])) := Ex.new hg0
  have E4 := e1.trans (e2.trans (e3.trans e4))
  have hgd : g ≠ d := fun z => by subst z; rw [hd] at hg0; cases hg0
  have hdeg : ∀ (i : Nat) H', (i : Int) < (box.length : Int) → Ex H H' → ∀ {σ : L2.St}, σ[0]? = some (some v) → σ[9]? = some (some (.int (i : Int))) → EvR RI (tCall (spDeg K) [] E0 (tCons (tVar 0) (tCons (tVar 9) tNil))) σ H' (((degI ts i).toNat : Nat) : Int) := fun i H' hi e σ h0 h9 => by
    have d0 : 0 ≤ degI ts i := mxI_0 _
    exact EvR.is (e_deg (k := i) (ev_var (R := RPo K) (x := ts) h0 (MonoE.ex e r)) (ev_vi h9) C.kys C.len (by omega)) (by omega)
  have hidx : EvR (RL (RN K)) (tCall (spIdx K) [] E0 (tCons (tLc (iRng1 (tCons (tCB (fun xs H Q => ∃ p ys, xs = [.ref p] ∧ (SqL K H p ys ∨ SqT K H p ys) ∧ Q (.int ys.length) H) (tCons (tVar 1) tNil)) tNil)) (gName 9) tYes (tCall (spDeg K) [] E0 (tCons (tVar 0) (tCons (tVar 9) tNil))) [9]) tNil)) [some v, some u, some vt, some (.int F), some (.ref d), some (.ref g), none, none, none, none] (upd H3 g (DO P w g [])) (idxs (degsP ts box.length)) := by
    refine ev_call1 (R := RIs) (pre := IdxOk) (f := idxs) (x := degsP ts box.length) ?_ C.ix
    have z := ev_lcR (S := RI) (j := 9) (vs := [9]) (tt := tYes) (te := tCall (spDeg K) [] E0 (tCons (tVar 0) (tCons (tVar 9) tNil))) (n := (box.length : Int)) (σ := [some v, some u, some vt, some (.int F), some (.ref d), some (.ref g), none, none, none, none]) (H := upd H3 g (DO P w g [])) (ev_lenRT (ev_var (R := RT K (RS K)) (x := box) (n := 1) rfl (MonoE.ex E4 rb))) (by omega) (fun _ => rfl) (fun i => (((degI ts i).toNat : Nat) : Int)) (fun i H1 e hi => et_yes) (fun i H1 e hi => hdeg i H1 hi (E4.trans e) rfl rfl)
    refine EvR.is (R := RL RI) z ?_
    unfold degsP
    rw [List.map_map, Int.toNat_natCast]
    rfl
  refine q_forL (R := RN K) hidx fun a us H5 e5 hl5 p5 => ⟨fun i σ' H' => ∃ y es', σ' = [some v, some u, some vt, some (.int F), some (.ref d), some (.ref g), y, none, none, none] ∧ Sb g H5 H' ∧ Im H5 H' ∧ H' g = some (DO P w g es') ∧ EnS K (RQ K) H' es' (tabR (cnt told F) ((idxs (degsP ts box.length)).take i)), ?_, ?_, ?_, ?_⟩
  · exact ⟨none, [], rfl, Sb.refl _ _, Im.refl _, e5 _ _ upd_same, .nil⟩
  · rintro i σ' H' ⟨_, _, _, sb, im, hg, _⟩
    refine ⟨im, sb _ _ ?_ hl5⟩
    exact ne_of hl5 (e5 _ _ upd_same) (fun z => nomatch z)
  · rintro i vi ix σ' H' hx ri ⟨y, es', rfl, sb, im, hg, s'⟩
    have m := List.mem_of_getElem? hx
    have hil : ix.length = box.length := by rw [idxs_length m]; unfold degsP; rw [List.length_map, List.length_range]
    have hlen : (tabR (cnt told F) ((idxs (degsP ts box.length)).take i)).length < 10000000 := by
      have h1 := tabR_len (cnt told F) ((idxs (degsP ts box.length)).take i)
      have h2 : ((idxs (degsP ts box.length)).take i).length ≤ (idxs (degsP ts box.length)).length := by rw [List.length_take]; omega
      have h3 := C.ix.2
      rw [← idxs_len] at h3
      omega
    have hix : EvR (RN K) (tVar 6) [some v, some u, some vt, some (.int F), some (.ref d), some (.ref g), some vi, none, none, none] H' ix := ev_var rfl ri
    have hd' : H' d = some (DO P w d es) := sb _ _ (Ne.symm hgd) (e5 _ _ (e4 _ _ hd))
    have hs' : EnS K RI H' es (dictOf told) := s3.im ((e4.trans e5).im.trans im)
    refine s_xput (R := RQ K) (var_ref rfl) hg s' hlen (e_frac (ev_get2 (R := RI) (ev_var (R := RD P w K RI) (x := dictOf told) rfl ⟨d, es, rfl, .inl hd', hs'⟩) (ev_cat (ys := noP.drop ix.length) hix (ev_slT eN (eo_some (ev_lenRT hix)) eo_none (sl_from noP ix.length (by show ix.length ≤ 4; omega))) (by simp; omega)) ev_i) (ev_vi rfl) cf0 cf9) hix fun es2 H6 sb6 im6 hg6 s6 => ?_
    refine ⟨_, es2, rfl, sb.trans sb6, im.trans im6, hg6, ?_⟩
    have e9 : tabR (cnt told F) ((idxs (degsP ts box.length)).take (i + 1)) = ptT (tabR (cnt told F) ((idxs (degsP ts box.length)).take i)) ix (cnt told F ix) := by unfold tabR; rw [foldl_take hx]
    rw [e9]
    exact s6
  · rintro σ' H' ⟨y, es', rfl, sb, im, hg, s'⟩
    rw [List.take_of_length_le (Nat.le_refl _)] at s'
    have hgH : H g = none := (e1.trans (e2.trans e3)).back hg0
    refine ⟨.ref g, rfl, kk g es' H' (Ex.sbm (H0 := H) (H := H5) (E4.trans e5) hgH sb) hgH hg ?_⟩
    unfold countsOver
    rw [hW]
    exact s'
end
end Bx

set_option Elab.async false
set_option linter.all false
set_option maxRecDepth 100000
set_option maxHeartbeats 2000000
namespace Bx
open PySem PySem.Spec PyProof.Rows L2
/-! ### the law's own numbers -/
def ch : Nat → Nat → Nat
  | _, 0 => 1
  | 0, _ + 1 => 0
  | n + 1, k + 1 => ch n k + ch n (k + 1)
theorem ch_zero (n : Nat) : ch n 0 = 1 := by cases n <;> rfl
theorem ch_succ (n k : Nat) : ch (n + 1) (k + 1) = ch n k + ch n (k + 1) := rfl
theorem ch_over : ∀ {n k : Nat}, n < k → ch n k = 0
  | 0, k + 1, _ => rfl
  | n + 1, k + 1, h => by rw [ch_succ, ch_over (by omega), ch_over (by omega)]
theorem ch_le : ∀ n k : Nat, ch n k ≤ 2 ^ n
  | 0, 0 => Nat.le_refl _
  | 0, _ + 1 => Nat.zero_le _
  | n + 1, 0 => Nat.one_le_two_pow
  | n + 1, k + 1 => by
    rw [ch_succ, Nat.pow_succ]
    have := ch_le n k
    have := ch_le n (k + 1)
    omega
theorem ch_self : ∀ n, ch n n = 1
  | 0 => rfl
  | n + 1 => by rw [ch_succ, ch_self n, ch_over (Nat.lt_succ_self n)]
theorem ch_pos : ∀ {n k : Nat}, k ≤ n → 0 < ch n k
  | n, 0, _ => by rw [ch_zero]; exact Nat.one_pos
  | n + 1, k + 1, h => by rw [ch_succ]; have := ch_pos (n := n) (k := k) (by omega); omega
/-- C(n, k + 1) * (k + 1) = C(n, k) * (n - k) -/
theorem ch_step : ∀ n k : Nat, (ch n (k + 1) : Int) * ((k : Int) + 1) = (ch n k : Int) * ((n : Int) - (k : Int))
  | 0, 0 => rfl
  | 0, k + 1 => by
    rw [show ch 0 (k + 1) = 0 from rfl, show ch 0 (k + 1 + 1) = 0 from rfl]; simp
  | n + 1, 0 => by
    have h := ch_step n 0
    rw [ch_zero] at h
    rw [ch_succ, ch_zero, ch_zero]
    push_cast at *
    grind
  | n + 1, k + 1 => by
    have h1 := ch_step n k
    have h2 := ch_step n (k + 1)
    rw [ch_succ, ch_succ]
    push_cast at *
    grind
theorem ch_div {n k : Nat} : ((ch n k : Int) * ((n : Int) - (k : Int))) / ((k : Int) + 1) = (ch n (k + 1) : Int) := by
  rw [← ch_step, Int.mul_ediv_cancel _ (by omega)]
section
variable {P : Program} {w : World} {K : PySem.W.Frag} {vs : List V} {H : Hp} {Q : VK} {E : XK} {te ta tb tk tv : TE} {σ : L2.St} {D : Ends} {tz : TS}
/-! ### _law_low -/
def spLow (K : PySem.W.Frag) : Sp := sp2 RI RI (RQ K) (fun _ b => 0 < b ∧ b.natAbs < 2 ^ 9000) (fun t b => Rat.divInt t b)
theorem p_low (h : spLow K vs H Q E) : t__law_low P w K (Enr Q) (start ["_law_top", "_law_bottom", "_law_one", "_law_other"] vs) H := by
  obtain ⟨v, u, x, y, rfl, r1, r2, ⟨hy, hs⟩, k⟩ := h
  cases r1; cases r2
  refine q_pari (ev_abs (ev_vi rfl)) (ev_abs (ev_vi rfl)) fun H1 e1 => ?_
  refine q_while (fun m σ' H' => ∃ a b : Nat, σ' = [some (.int x), some (.int y), some (.int a), some (.int b)] ∧ m = b ∧ Nat.gcd a b = Int.gcd x y ∧ Ex H H') _ ⟨x.natAbs, y.natAbs, rfl, rfl, rfl, e1⟩ ?_
  rintro m σ' H' ⟨a, b, rfl, rfl, g, e⟩
  refine ⟨decide ((0 : Int) < (m : Int)), et_test (ev_opB (ev_vi rfl) ev_i), fun hb H2 e2 => ?_, fun hb H2 e2 => ?_⟩
  · have hb : 0 < m := by simpa using hb
    refine ⟨fun σ2 H3 => ∃ m', m' < m ∧ ∃ a b : Nat, σ2 = [some (.int x), some (.int y), some (.int a), some (.int b)] ∧ m' = b ∧ Nat.gcd a b = Int.gcd x y ∧ Ex H H3, fun σ2 H3 z => z, ?_⟩
    refine s_pari (ev_vi rfl) (ev_opC (ev_int (ev_vi rfl)) (ev_vi rfl) (by omega)) fun H3 e3 => ?_
    refine ⟨a % m, Nat.mod_lt _ hb, m, a % m, ?_, rfl, ?_, e.trans (e2.trans e3)⟩
    · rw [gcd_turn hb]; rfl
    · rw [← g, Nat.gcd_comm a m, Nat.gcd_rec m a, Nat.gcd_comm]
  · have hb : m = 0 := by
      have : ¬ (0 : Int) < (m : Int) := by simpa using hb
      omega
    subst hb
    rw [Nat.gcd_zero_right] at g
    subst g
    refine q_seti (n := (Int.gcd x y : Int)) (ev_if (b := true) (et_test (EvR.is (ev_opB (ev_vi rfl) ev_i) (by simpa using hy))) (fun _ => ev_vi rfl) (fun z => nomatch z)) fun H3 e3 => ?_
    refine s_ret (ev_tup2 (K := K) (ev_opC (ev_vi rfl) (ev_vi rfl) (gcd_div (by omega) hs)) (ev_opC (ev_vi rfl) (ev_vi rfl) (gcd_div (by omega) hs))) fun v H4 e4 r => k v H4 (e.trans (e2.trans (e3.trans e4))) ?_
    show RN K H4 v (frl (Rat.divInt x y))
    rw [frl_divInt hy]
    exact r
theorem e_low {x y : Int} (h : EvR RI ta σ H x) (h1 : EvR RI tb σ H y) (h2 : 0 < y) (h3 : y.natAbs < 2 ^ 9000) : EvR (RQ K) (tCall (spLow K) [] E0 (tCons ta (tCons tb tNil))) σ H (Rat.divInt x y) := ev_call2 (f := fun t b => Rat.divInt t b) h h1 ⟨h2, h3⟩
/-! ### _law_power, _law_binomial -/
def spPow : Sp := sp2 RI RI RI (fun n m => 0 ≤ m ∧ m ≤ 100 ∧ n.natAbs < 2 ^ 1000) (fun n m => n ^ m.toNat)
theorem pow_abs {n : Int} {a : Nat} (h : n.natAbs < 2 ^ a) : ∀ i : Nat, (n ^ i).natAbs < 2 ^ (a * i + 1)
  | 0 => by rw [Int.pow_zero]; show 1 < _; rw [Nat.mul_zero]; decide
  | i + 1 => by
    rw [Int.pow_succ, Nat.mul_succ, show a * i + a + 1 = a * i + 1 + a by omega]
    exact wide_lt (pow_abs h i) h
theorem p_power (h : spPow vs H Q E) : t__law_power P w K (Enr Q) (start ["_law_number", "_law_many", "_law_found", "_law_turn"] vs) H := by
  obtain ⟨v, u, x, n, rfl, r1, r2, ⟨h0, h1, hx⟩, k⟩ := h
  cases r1; cases r2
  refine q_seti (n := 1) ev_i fun H1 e1 => ?_
  refine q_forR (ev_vi (i := n) rfl) (by omega) fun H2 e2 => ⟨fun i σ' H' => ∃ z, σ' = [some (.int x), some (.int n), some (.int (x ^ i)), z] ∧ Ex H H', ⟨none, by rw [Int.pow_zero]; rfl, e1.trans e2⟩, ?_, ?_⟩
  · rintro i σ' H' hi ⟨z, rfl, e⟩
    refine s_seti (n := x ^ (i + 1)) (EvR.is (ev_opC (ev_vi rfl) (ev_vi rfl) (wide_mul (pow_abs hx i) hx (by omega) (by decide) (by omega))) (Int.pow_succ x i).symm) fun H3 e3 => ⟨_, rfl, e.trans e3⟩
  · rintro σ' H' ⟨z, rfl, e⟩
    exact s_ret (ev_vi rfl) fun v H3 e3 r => k v H3 (e.trans e3) r
theorem e_pow {n m : Int} (h : EvR RI ta σ H n) (h1 : EvR RI tb σ H m) (h2 : 0 ≤ m) (h3 : m ≤ 100) (h4 : n.natAbs < 2 ^ 1000) : EvR RI (tCall spPow [] E0 (tCons ta (tCons tb tNil))) σ H (n ^ m.toNat) := ev_call2 (f := fun (n m : Int) => n ^ m.toNat) h h1 ⟨h2, h3, h4⟩
def spCh : Sp := sp2 RI RI RI (fun n m => 0 ≤ n ∧ n ≤ 100 ∧ 0 ≤ m ∧ m ≤ 100) (fun n m => (ch n.toNat m.toNat : Int))
theorem p_binomial (h : spCh vs H Q E) : t__law_binomial P w K (Enr Q) (start ["_law_many", "_law_some", "_law_found", "_law_k"] vs) H := by
  obtain ⟨v, u, x, m, rfl, r1, r2, ⟨h0, h1, h2, h3⟩, k⟩ := h
  cases r1; cases r2
  obtain ⟨n, rfl⟩ := Int.eq_ofNat_of_zero_le h0
  obtain ⟨m, rfl⟩ := Int.eq_ofNat_of_zero_le h2
  refine q_seti (n := 1) ev_i fun H1 e1 => ?_
  refine q_forR (ev_vi (i := (m : Int)) rfl) (by omega) fun H2 e2 => ⟨fun i σ' H' => ∃ z, σ' = [some (.int n), some (.int m), some (.int (ch n i : Int)), z] ∧ Ex H H', ⟨none, by rw [ch_zero]; rfl, e1.trans e2⟩, ?_, ?_⟩
  · rintro i σ' H' hi ⟨z, rfl, e⟩
    have hc : ((ch n i : Nat) : Int).natAbs < 2 ^ 101 := by
      rw [Int.natAbs_natCast]
      exact Nat.lt_of_le_of_lt (ch_le n i) (Nat.pow_lt_pow_right (by decide) (by omega))
    have hd : ((n : Int) - (i : Int)).natAbs < 2 ^ 8 := by
      have : (2 : Nat) ^ 8 = 256 := rfl
      omega
    refine s_seti (n := (ch n (i + 1) : Int)) (EvR.is (ev_opC (ev_opC (ev_vi rfl) (ev_op0 (ev_vi rfl) (ev_vi rfl)) (wide_mul hc hd (by decide) (by decide) (by decide))) (ev_op0 (ev_vi rfl) ev_i) (wide_div (b := 8) (by omega) ?_ (by decide) (by decide))) ch_div) fun H3 e3 => ⟨_, rfl, e.trans e3⟩
    have : (2 : Nat) ^ 8 = 256 := rfl
    omega
  · rintro σ' H' ⟨z, rfl, e⟩
    rw [Int.toNat_natCast]
    by_cases c : m ≤ n
    · refine s_ret (R := RI) (x := (ch n m : Int)) (ev_if (b := true) (et_test (EvR.is (ev_chain ev_i (ev_vi rfl) (ev_vi rfl)) (by simp; omega))) (fun _ => ev_vi rfl) (fun z => nomatch z)) fun v H3 e3 r => k v H3 (e.trans e3) r
    · refine s_ret (R := RI) (x := (ch n m : Int)) (ev_if (b := false) (et_test (EvR.is (ev_chain ev_i (ev_vi rfl) (ev_vi rfl)) (by simp; omega))) (fun z => nomatch z) (fun _ => EvR.is ev_i ?_)) fun v H3 e3 r => k v H3 (e.trans e3) r
      rw [ch_over (by omega)]; rfl
theorem e_ch {x y : Int} {n m : Nat} (h : EvR RI ta σ H x) (h1 : EvR RI tb σ H y) (ex : x = (n : Int)) (ey : y = (m : Int)) (hn : n ≤ 100) (hm : m ≤ 100) : EvR RI (tCall spCh [] E0 (tCons ta (tCons tb tNil))) σ H (ch n m : Int) := by
  subst ex; subst ey
  exact ev_call2 (pre := fun n m => 0 ≤ n ∧ n ≤ 100 ∧ 0 ≤ m ∧ m ≤ 100) (f := fun (n m : Int) => (ch n.toNat m.toNat : Int)) h h1 ⟨by omega, by omega, by omega, by omega⟩
/-! ### _law_polar -/
def hiS (s : Stretch) : Int := s.2.num * (s.1.den : Int)
def loS (s : Stretch) : Int := s.1.num * (s.2.den : Int)
def polT (s : Stretch) (D i j t : Nat) : Int := (ch i t : Int) * (ch (D - i) (j - t) : Int) * hiS s ^ t * loS s ^ (j - t)
def polN (s : Stretch) (D i j : Nat) : Int := (List.range (j + 1)).foldl (fun f t => f + polT s D i j t) 0
def polD (s : Stretch) (D j : Nat) : Int := ((s.1.den : Int) * (s.2.den : Int)) ^ j * (ch D j : Int)
def spPolar (K : PySem.W.Frag) : Sp := sp4 (RS K) RI RI RI (RP K RI RI) (fun s D i j => Bq 100 s.1 ∧ Bq 100 s.2 ∧ 0 ≤ i ∧ i ≤ D ∧ D ≤ 100 ∧ 0 ≤ j ∧ j ≤ D) (fun s D i j => (polN s D.toNat i.toNat j.toNat, polD s D.toNat j.toNat))
theorem ch_abs {n k : Nat} (h : n ≤ 100) : ((ch n k : Nat) : Int).natAbs < 2 ^ 101 := by
  rw [Int.natAbs_natCast]
  exact Nat.lt_of_le_of_lt (ch_le n k) (Nat.pow_lt_pow_right (by decide) (by omega))
theorem pow_absU {n : Int} {a b i : Nat} (h : n.natAbs < 2 ^ a) (hb : a * i + 1 ≤ b) : (n ^ i).natAbs < 2 ^ b := Nat.lt_of_lt_of_le (pow_abs h i) (Nat.pow_le_pow_right (by decide) hb)
theorem p_polar (h : spPolar K vs H Q E) : t__law_polar P w K spPow spCh (Enr Q) (start ["_law_stretch_here", "_law_many", "_law_i", "_law_j", "_law_a", "_law_b", "_law_c", "_law_d", "_law_low_here", "_law_high", "_law_found", "_law_t", "_law_ways"] vs) H := by
  obtain ⟨v, v1, v2, v3, s, D, i, j, rfl, rs, r1, r2, r3, ⟨b1, b2, i0, iD, D1, j0, jD⟩, k⟩ := h
  cases r1; cases r2; cases r3
  obtain ⟨i, rfl⟩ := Int.eq_ofNat_of_zero_le i0
  obtain ⟨j, rfl⟩ := Int.eq_ofNat_of_zero_le j0
  obtain ⟨D, rfl⟩ := Int.eq_ofNat_of_zero_le (show 0 ≤ D by omega)
  have a1 := den_abs b1
  have a2 := den_abs b2
  have hhi : (hiS s).natAbs < 2 ^ (100 + 100) := wide_lt b2.1 a1
  have hlo : (loS s).natAbs < 2 ^ (100 + 100) := wide_lt b1.1 a2
  have w1000 : ∀ {x : Int}, x.natAbs < 2 ^ (100 + 100) → x.natAbs < 2 ^ 1000 := fun h => Nat.lt_of_lt_of_le h (Nat.pow_le_pow_right (by decide) (by decide))
  refine q_unpS (p := s) (ev_var (R := RS K) (x := s) rfl rs) fun H1 e1 => ?_
  refine q_par3 (R := RI) (R2 := RI) (R3 := RI) (x := loS s) (y := hiS s) (z := 0) (ev_opC (ev_vi rfl) (ev_vi rfl) (wide_mul b1.1 a2 (by decide) (by decide) (by decide))) (ev_opC (ev_vi rfl) (ev_vi rfl) (wide_mul b2.1 a1 (by decide) (by decide) (by decide))) ev_i fun u1 u2 u3 H2 e2 q1 q2 q3 => ?_
  cases q1; cases q2; cases q3
  refine q_forR (n := (j : Int) + 1) (ev_op0 (ev_vi rfl) ev_i) (by omega) fun H3 e3 => ⟨fun t σ' H' => ∃ y11 y12, σ' = [some v, some (.int D), some (.int i), some (.int j), some (.int s.1.num), some (.int (s.1.den : Int)), some (.int s.2.num), some (.int (s.2.den : Int)), some (.int (loS s)), some (.int (hiS s)), some (.int ((List.range t).foldl (fun f t => f + polT s D i j t) 0)), y11, y12] ∧ Ex H H', ⟨none, none, rfl, e1.trans (e2.trans e3)⟩, ?_, ?_⟩
  · rintro t σ' H' ht ⟨y11, y12, rfl, e⟩
    have htj : t ≤ j := by omega
    refine q_seti (n := (ch i t : Int) * (ch (D - i) (j - t) : Int)) (ev_opC (e_ch (n := i) (m := t) (ev_vi rfl) (ev_vi rfl) rfl rfl (by omega) (by omega)) (e_ch (n := D - i) (m := j - t) (ev_op0 (ev_vi (i := (D : Int)) rfl) (ev_vi (i := (i : Int)) rfl)) (ev_op0 (ev_vi (i := (j : Int)) rfl) (ev_vi (i := (t : Int)) rfl)) (by omega) (by omega) (by omega) (by omega))
      (wide_mul (ch_abs (by omega)) (ch_abs (by omega)) (by decide) (by decide) (by decide))) fun H4 e4 => ?_
    have hw : ((ch i t : Int) * (ch (D - i) (j - t) : Int)).natAbs < 2 ^ (101 + 101) := wide_lt (ch_abs (by omega)) (ch_abs (by omega))
    have hp1 : (hiS s ^ t).natAbs < 2 ^ 20001 := pow_absU hhi (by omega)
    have hp2 : (loS s ^ (j - t)).natAbs < 2 ^ 20001 := pow_absU hlo (by omega)
    refine s_seti (n := (List.range (t + 1)).foldl (fun f t => f + polT s D i j t) 0) (EvR.is (ev_op0 (ev_vi (i := (List.range t).foldl (fun f t => f + polT s D i j t) 0) rfl) (j := polT s D i j t) ?_) ?_) fun H5 e5 => ⟨_, _, rfl, e.trans (e4.trans e5)⟩
    · by_cases c : 0 < (ch i t : Int) * (ch (D - i) (j - t) : Int)
      · refine ev_if (b := true) (et_test (EvR.is (ev_opB (ev_vi rfl) ev_i) (by simpa using c))) (fun _ => ?_) (fun z => nomatch z)
        exact ev_opC (ev_opC (ev_vi rfl) (EvR.is (e_pow (ev_vi (i := hiS s) rfl) (ev_vi (i := (t : Int)) rfl) (by omega) (by omega) (w1000 hhi)) (x' := hiS s ^ t) rfl) (wide_mul hw hp1 (by decide) (by decide) (by decide)))
          (EvR.is (e_pow (ev_vi (i := loS s) rfl) (ev_op0 (ev_vi (i := (j : Int)) rfl) (ev_vi (i := (t : Int)) rfl)) (by omega) (by omega) (w1000 hlo)) (x' := loS s ^ (j - t)) (by congr 1; omega)) (wide_mul (wide_lt hw hp1) hp2 (by decide) (by decide) (by decide))
      · refine ev_if (b := false) (et_test (EvR.is (ev_opB (ev_vi rfl) ev_i) (by simpa using c))) (fun z => nomatch z) (fun _ => EvR.is ev_i ?_)
        have h0 : (ch i t : Int) * (ch (D - i) (j - t) : Int) = 0 := by
          rw [← Int.natCast_mul] at c ⊢
          omega
        unfold polT
        rw [h0]; simp
    · rw [range_foldl]
  · rintro σ' H' ⟨y11, y12, rfl, e⟩
    rw [show ((j : Int) + 1).toNat = j + 1 by omega]
    have hbd : ((s.1.den : Int) * (s.2.den : Int)).natAbs < 2 ^ (100 + 100) := wide_lt a1 a2
    refine s_ret (ev_pair (R := RI) (S := RI) (x := polN s D i j) (y := polD s D j) (ev_vi rfl) (ev_opC (EvR.is (e_pow (n := (s.1.den : Int) * (s.2.den : Int)) (ev_opC (ev_vi rfl) (ev_vi rfl) (wide_mul a1 a2 (by decide) (by decide) (by decide))) (ev_vi (i := (j : Int)) rfl) (by omega) (by omega) (w1000 hbd)) (x' := ((s.1.den : Int) * (s.2.den : Int)) ^ j) rfl)
      (e_ch (n := D) (m := j) (ev_vi rfl) (ev_vi rfl) rfl rfl (by omega) (by omega)) (wide_mul (pow_absU (b := 20001) hbd (by omega)) (ch_abs (by omega)) (by decide) (by decide) (by decide)))) fun v H3 e3 r => k v H3 (e.trans e3) r
end
end Bx

set_option Elab.async false
set_option linter.all false
set_option maxRecDepth 100000
set_option maxHeartbeats 2000000
namespace Bx
open PySem PySem.Spec PyProof.Rows L2
theorem idxs_in_from : ∀ (ds : List Nat) (a : List (List Int)) (ix : List Int), ix ∈ ds.foldl (fun found m => found.flatMap fun ix => (List.range (m + 1)).map fun (h : Nat) => ix ++ [(h : Int)]) a → ∃ z ∈ a, ∃ y, ix = z ++ y ∧ Paired (fun (d : Nat) (x : Int) => 0 ≤ x ∧ x ≤ (d : Int)) ds y
  | [], a, ix, h => ⟨ix, h, [], by simp, .nil⟩
  | d :: ds, a, ix, h => by
    rw [List.foldl_cons] at h
    obtain ⟨z, hz, y, rfl, p⟩ := idxs_in_from ds _ ix h
    obtain ⟨z0, h0, hz⟩ := List.mem_flatMap.mp hz
    obtain ⟨j, hj, rfl⟩ := List.mem_map.mp hz
    have : j < d + 1 := List.mem_range.mp hj
    exact ⟨z0, h0, (j : Int) :: y, by simp, .cons ⟨by omega, by omega⟩ p⟩
theorem idxs_in {ds : List Nat} {ix : List Int} (h : ix ∈ idxs ds) : Paired (fun (d : Nat) (x : Int) => 0 ≤ x ∧ x ≤ (d : Int)) ds ix := by
  obtain ⟨z, hz, y, rfl, p⟩ := idxs_in_from ds [[]] ix h
  rw [List.mem_singleton] at hz
  subst hz
  exact p
theorem idxs_gd {ds : List Nat} {ix : List Int} (h : ix ∈ idxs ds) {k : Nat} (hk : k < ds.length) : 0 ≤ gd ix k ∧ gd ix k ≤ (ds.getD k 0 : Int) := by
  obtain ⟨y, h1, h2⟩ := Paired.get1 (idxs_in h) (List.getElem?_eq_getElem hk)
  have e1 : gd ix k = y := by unfold gd; rw [List.getD_eq_getElem?_getD, h1]; rfl
  have e2 : ds.getD k 0 = ds[k] := by rw [List.getD_eq_getElem?_getD, List.getElem?_eq_getElem hk]; rfl
  rw [e1, e2]; exact h2
/-! ### the law's counts -/
abbrev s00 : Stretch := (0, 0)
def huL (box : List Stretch) (dg : List Nat) (ix p : List Int) (c : Int) (n : Nat) : Int × Int := (List.range n).foldl (fun st k => (st.1 * polN (box.getD k s00) (dg.getD k 0) (gd ix k).toNat (gd p k).toNat, st.2 * polD (box.getD k s00) (dg.getD k 0) (gd p k).toNat)) (c, 1)
def tbS (f : List Int × Int → Int × Int) (st : Int × Int) (t : List Int × Int) : Int × Int := (st.1 * (f t).2 + (f t).1 * st.2, st.2 * (f t).2)
def tbL (f : List Int × Int → Int × Int) (parts : Tms) : Int × Int := parts.foldl (tbS f) (0, 1)
def lawT (parts : Tms) (box : List Stretch) (ix : List Int) : Int × Int := tbL (fun t => huL box (degsP parts box.length) ix t.1 t.2 box.length) parts
def lawCnt (parts : Tms) (box : List Stretch) (ix : List Int) : Rat := Rat.divInt (lawT parts box ix).1 (lawT parts box ix).2
def lawCounts (parts : Tms) (box : List Stretch) : List (List Int × Rat) := tabR (lawCnt parts box) (idxs (degsP parts box.length))
/-- the bottoms of a term -/
def undL (parts : Tms) (box : List Stretch) (t : List Int × Int) : Nat := pr ((List.range box.length).map fun k => (polD (box.getD k s00) ((degsP parts box.length).getD k 0) (gd t.1 k).toNat).natAbs)
structure LcOk (parts : Tms) (box : List Stretch) : Prop where
  kys : Kys parts
  nz : ∀ e ∈ parts, e.2 ≠ 0
  len : parts.length ≤ 10
  cs : ∀ e ∈ parts, e.2.natAbs < 2 ^ 100
  pos : ∀ e ∈ parts, ∀ k, 0 ≤ gd e.1 k
  b3 : box.length ≤ 3
  bq : ∀ s ∈ box, Bq 100 s.1 ∧ Bq 100 s.2
  dg : ∀ k, degI parts k ≤ 100
  ix : IdxOk (degsP parts box.length)
  und : pr (parts.map (undL parts box)) < 2 ^ 9000
theorem polD_pos {s : Stretch} {D j : Nat} (h : j ≤ D) : 0 < polD s D j := by
  unfold polD
  have h1 : (0 : Int) < (s.1.den : Int) := by have := s.1.den_pos; omega
  have h2 : (0 : Int) < (s.2.den : Int) := by have := s.2.den_pos; omega
  have h3 : (0 : Int) < (ch D j : Int) := by have := ch_pos h; omega
  exact Int.mul_pos (Int.pow_pos (Int.mul_pos h1 h2)) h3
theorem polN_lt {s : Stretch} {D i j : Nat} (b1 : Bq 100 s.1) (b2 : Bq 100 s.2) (hi : i ≤ 100) (hD : D ≤ 100) (hj : j ≤ 100) : (polN s D i j).natAbs < 2 ^ 40400 := by
  have hhi : (hiS s).natAbs < 2 ^ (100 + 100) := wide_lt b2.1 (den_abs b1)
  have hlo : (loS s).natAbs < 2 ^ (100 + 100) := wide_lt b1.1 (den_abs b2)
  have ht : ∀ t, t ≤ j → (polT s D i j t).natAbs < 2 ^ (101 + 101 + 20001 + 20001) := fun t ht =>
    wide_lt (wide_lt (wide_lt (ch_abs hi) (ch_abs (by omega))) (pow_absU hhi (by omega))) (pow_absU hlo (by omega))
  have h : ∀ n, n ≤ j + 1 → ((List.range n).foldl (fun f t => f + polT s D i j t) 0).natAbs ≤ n * 2 ^ (101 + 101 + 20001 + 20001) := by
    intro n
    induction n with
    | zero => intro _; show (0 : Int).natAbs ≤ _; simp
    | succ n ih =>
      intro hn
      rw [range_foldl, Nat.succ_mul]
      have h1 := ih (by omega)
      have h2 := ht n (by omega)
      have h3 := Int.natAbs_add_le ((List.range n).foldl (fun f t => f + polT s D i j t) 0) (polT s D i j n)
      omega
  have h1 := h (j + 1) (Nat.le_refl _)
  unfold polN
  have h2 : (j + 1) * 2 ^ (101 + 101 + 20001 + 20001) ≤ 2 ^ 7 * 2 ^ (101 + 101 + 20001 + 20001) := Nat.mul_le_mul_right _ (by have : (2 : Nat) ^ 7 = 128 := rfl; omega)
  rw [← Nat.pow_add] at h2
  exact Nat.lt_of_le_of_lt (Nat.le_trans h1 h2) (Nat.pow_lt_pow_right (by decide) (by decide))
theorem polD_lt {s : Stretch} {D j : Nat} (b1 : Bq 100 s.1) (b2 : Bq 100 s.2) (hD : D ≤ 100) (hj : j ≤ 100) : (polD s D j).natAbs < 2 ^ 20200 :=
  Nat.lt_of_lt_of_le (wide_lt (pow_absU (b := 20001) (wide_lt (den_abs b1) (den_abs b2)) (by omega)) (ch_abs hD)) (Nat.pow_le_pow_right (by decide) (by decide))
theorem degsP_get {ts : Tms} {n k : Nat} (h : k < n) : (degsP ts n).getD k 0 = (degI ts k).toNat := by
  unfold degsP
  rw [List.getD_eq_getElem?_getD, List.getElem?_map, List.getElem?_range h]; rfl
theorem degsP_len (ts : Tms) (n : Nat) : (degsP ts n).length = n := by unfold degsP; rw [List.length_map, List.length_range]
theorem pow_t (a b : Nat) (h : a ≤ b) : (2 : Nat) ^ a ≤ 2 ^ b := Nat.pow_le_pow_right (by decide) h
theorem sum2 {a b : Int} {n : Nat} (ha : a.natAbs < 2 ^ n) (hb : b.natAbs < 2 ^ n) : (a + b).natAbs < 2 ^ (n + 1) := by
  rw [Nat.pow_succ]
  have := Int.natAbs_add_le a b
  omega
/-- tops and bottoms that are added up: bits and signs -/
theorem tb_ok {f : List Int × Int → Int × Int} {parts : Tms} (hl : parts.length ≤ 10) (h1 : ∀ t ∈ parts, (f t).1.natAbs < 2 ^ 122000) (h2 : ∀ t ∈ parts, 0 < (f t).2) (hd : pr (parts.map fun t => (f t).2.natAbs) < 2 ^ 9000) :
    ∀ i, i ≤ parts.length → (tbL f (parts.take i)).1.natAbs < 2 ^ (131100 + 9001 * i) ∧ 0 < (tbL f (parts.take i)).2 ∧ (tbL f (parts.take i)).2.natAbs = pr ((parts.map fun t => (f t).2.natAbs).take i) ∧ (tbL f (parts.take i)).2.natAbs < 2 ^ 9000 := by
  have hp : ∀ x ∈ parts.map fun t => (f t).2.natAbs, 0 < x := fun x hx => by
    obtain ⟨t, ht, rfl⟩ := List.mem_map.mp hx
    have := h2 t ht
    omega
  intro i
  induction i with
  | zero =>
    intro _
    refine ⟨?_, ?_, rfl, ?_⟩
    · show (0 : Int).natAbs < _
      exact Nat.two_pow_pos _
    · show (0 : Int) < 1
      decide
    · show (1 : Int).natAbs < _
      exact Nat.one_lt_two_pow (by decide)
  | succ i ih =>
    intro hi
    obtain ⟨a1, a2, a3, a4⟩ := ih (by omega)
    have hx : parts[i]? = some (parts[i]'(by omega)) := List.getElem?_eq_getElem _
    have hm := List.mem_of_getElem? hx
    have e : tbL f (parts.take (i + 1)) = tbS f (tbL f (parts.take i)) (parts[i]'(by omega)) := by unfold tbL; rw [foldl_take hx]
    have f2 := h2 _ hm
    have e3 : (tbL f (parts.take (i + 1))).2.natAbs = pr ((parts.map fun t => (f t).2.natAbs).take (i + 1)) := by
      rw [e, pr_take1 (x := (f (parts[i]'(by omega))).2.natAbs) (by rw [List.getElem?_map, hx]; rfl), ← a3]
      exact Int.natAbs_mul _ _
    have e4 : (tbL f (parts.take (i + 1))).2.natAbs < 2 ^ 9000 := by
      rw [e3]
      exact Nat.lt_of_le_of_lt (pr_take _ hp _) hd
    have f3 : (f (parts[i]'(by omega))).2.natAbs < 2 ^ 9000 := by
      have q : (tbL f (parts.take (i + 1))).2.natAbs = (tbL f (parts.take i)).2.natAbs * (f (parts[i]'(by omega))).2.natAbs := by rw [e]; exact Int.natAbs_mul _ _
      rw [q] at e4
      exact Nat.lt_of_le_of_lt (Nat.le_mul_of_pos_left _ (by omega)) e4
    refine ⟨?_, ?_, e3, e4⟩
    · rw [e]
      show ((tbL f (parts.take i)).1 * (f (parts[i]'(by omega))).2 + (f (parts[i]'(by omega))).1 * (tbL f (parts.take i)).2).natAbs < _
      have q1 : ((tbL f (parts.take i)).1 * (f (parts[i]'(by omega))).2).natAbs < 2 ^ (131100 + 9001 * i + 9000) := wide_lt a1 f3
      have q2 : ((f (parts[i]'(by omega))).1 * (tbL f (parts.take i)).2).natAbs < 2 ^ (131100 + 9001 * i + 9000) := Nat.lt_of_lt_of_le (wide_lt (h1 _ hm) a4) (pow_t _ _ (by omega))
      have := sum2 q1 q2
      rw [show 131100 + 9001 * (i + 1) = 131100 + 9001 * i + 9000 + 1 by omega]
      exact this
    · rw [e]
      exact Int.mul_pos a2 f2
theorem huL_abs {box : List Stretch} {dg : List Nat} {ix p : List Int} {c : Int} (hc : c.natAbs < 2 ^ 100) (hb : ∀ s ∈ box, Bq 100 s.1 ∧ Bq 100 s.2) (hd : ∀ k, k < box.length → dg.getD k 0 ≤ 100 ∧ (gd ix k).toNat ≤ 100 ∧ (gd p k).toNat ≤ dg.getD k 0) :
    ∀ n, n ≤ box.length → (huL box dg ix p c n).1.natAbs < 2 ^ (100 + 40400 * n) ∧ 0 < (huL box dg ix p c n).2 ∧ (huL box dg ix p c n).2.natAbs = pr ((List.range n).map fun k => (polD (box.getD k s00) (dg.getD k 0) (gd p k).toNat).natAbs) ∧ (huL box dg ix p c n).2.natAbs < 2 ^ (1 + 20200 * n) := by
  intro n
  induction n with
  | zero => intro _; exact ⟨hc, by show (0 : Int) < 1; decide, rfl, by show (1 : Int).natAbs < _; decide⟩
  | succ n ih =>
    intro hn
    obtain ⟨a1, a2, a3, a4⟩ := ih (by omega)
    obtain ⟨d1, d2, d3⟩ := hd n (by omega)
    have hs : box.getD n s00 ∈ box := by
      rw [List.getD_eq_getElem?_getD, List.getElem?_eq_getElem (by omega)]
      exact List.getElem_mem _
    obtain ⟨b1, b2⟩ := hb _ hs
    have e : huL box dg ix p c (n + 1) = ((huL box dg ix p c n).1 * polN (box.getD n s00) (dg.getD n 0) (gd ix n).toNat (gd p n).toNat, (huL box dg ix p c n).2 * polD (box.getD n s00) (dg.getD n 0) (gd p n).toNat) := by unfold huL; rw [range_foldl]
    rw [e]
    refine ⟨?_, Int.mul_pos a2 (polD_pos d3), ?_, ?_⟩
    · rw [show 100 + 40400 * (n + 1) = 100 + 40400 * n + 40400 by omega]
      exact wide_lt a1 (polN_lt b1 b2 d2 d1 (by omega))
    · show ((huL box dg ix p c n).2 * polD _ _ _).natAbs = _
      rw [Int.natAbs_mul, a3, List.range_succ, List.map_append, pr_app]
      show _ * _ = _ * (_ * 1)
      rw [Nat.mul_one]
    · rw [show 1 + 20200 * (n + 1) = 1 + 20200 * n + 20200 by omega]
      exact wide_lt a4 (polD_lt b1 b2 d1 (by omega))
section
variable {P : Program} {w : World} {K : PySem.W.Frag} {vs : List V} {H : Hp} {Q : VK} {E : XK} {te ta tb tk tv : TE} {σ : L2.St} {D : Ends} {tz : TS}
/-! ### _law_poly, _law_degrees -/
def spLPoly (P : Program) (w : World) (K : PySem.W.Frag) : Sp := sp1 (RD P w K RI) (RPo K) (fun xs => Kys xs ∧ xs.length ≤ 1000000 ∧ Good (polyOf xs)) polyOf
theorem p_law_poly (hc : Cls K (He.ga K "Poly")) (hn : NoAttr K (He.ga K "Poly") "terms") (h : spLPoly P w K vs H Q E) : t__law_poly P w K (spRaw K Good) (Enr Q) (start ["_law_parts_here", "_law_powers"] vs) H := by
  obtain ⟨v, xs, rfl, r, ⟨hk, hl, hg⟩, k⟩ := h
  exact s_ret (ev_make (ev_terms (x := "x") rfl r hk hl) hc hn hg) k
def spLDeg (P : Program) (w : World) (K : PySem.W.Frag) : Sp := sp2 (RDX P w K RI) RI RIs (fun xs n => Kys xs ∧ (∀ e ∈ xs, e.2 ≠ 0) ∧ xs.length ≤ 1000 ∧ 0 ≤ n ∧ n ≤ 4) (fun xs n => degsP xs n.toNat)
theorem nz_filter {xs : Tms} (h : ∀ e ∈ xs, e.2 ≠ 0) : xs.filter (fun e => !decide (e.2 = 0)) = xs := List.filter_eq_self.mpr fun e he => by simp [h e he]
theorem p_law_degrees (h : spLDeg P w K vs H Q E) : t__law_degrees P w K (Enr Q) (start ["_law_parts_here", "_law_many", "_law_k", "_law_powers"] vs) H := by
  obtain ⟨v, u, xs, n, rfl, ⟨d, es, rfl, hd, s⟩, r2, ⟨hk, hz, hl, n0, n4⟩, k⟩ := h
  cases r2
  have z : EvR (RL RI) (tLc (iRng1 (tCons (tVar 1) tNil)) (gName 2) tYes (tCB (rMax K) (tCons (tOp rCat (tLst (tCons (tC (.int 0)) tNil)) (tLockE (tLc (iXKeys P w (tVar 0)) (gName 3) (tTest (tOp rNe (tXGet P w K (tVar 0) (tVar 3)) (tC (.int 0)))) (tOp (rIxT K) (tVar 3) (tVar 2)) [3]))) tNil)) [2]) (start ["_law_parts_here", "_law_many", "_law_k", "_law_powers"] [.ref d, .int n]) H ((List.range n.toNat).map fun k => (degI xs k)) := by
    refine ev_lcR (S := RI) (n := n) (ev_vi rfl) (by omega) (fun _ => rfl) (fun k => degI xs k) (fun i H1 e hi => et_yes) (fun i H1 e hi => ?_)
    have hi4 : i < 4 := by omega
    refine ev_max (EvR.is (ev_catL (R := RI) (ys := (xs.filter fun e => !decide (e.2 = 0)).map fun e => gd e.1 i) (ev_list (el_cons ev_i el_nil) (by simp)) (ev_lcX (R := RI) (S := RI) (n := 0) rfl (e _ _ hd) (s.im e.im) (by omega) (fun _ => rfl) (fun e => !decide (e.2 = 0)) (fun e => gd e.1 i) (fun v x H2 m rk rd im => ?_) (fun v x H2 m rk rd im _ => ?_)) ?_) (?_ : [0] ++ _ = 0 :: xs.map fun e => gd e.1 i)) (mxI_mem _) ?_
    · exact et_test (ev_neI (i := x.2) (ev_xget (R := RI) (ev_var (R := RD P w K RI) (x := xs) rfl rd) (ev_var (R := RN K) (x := x.1) rfl rk) (lkT_mem hk.1 m)) ev_i)
    · exact ev_ixT (R := RI) (n := i) (ev_var (R := RN K) (x := x.1) rfl rk) (ev_vi rfl) (gd_get (by have h : x.1.length = 4 := hk.2 _ m; omega))
    · rw [nz_filter hz, List.length_map]; simp; omega
    · rw [nz_filter hz]; rfl
    · intro y hy
      rcases List.mem_cons.mp hy with rfl | hy
      · exact mxI_0 _
      · exact mxI_ge hy
  refine s_ret z fun v H1 e r => k v H1 e ?_
  have e2 : (degsP xs n.toNat).map (fun (n : Nat) => (n : Int)) = (List.range n.toNat).map fun k => degI xs k := by
    unfold degsP
    rw [List.map_map]
    apply List.map_congr_left
    intro j _
    show (((degI xs j).toNat : Nat) : Int) = _
    have : 0 ≤ degI xs j := mxI_0 _
    omega
  show RL RI H1 v _
  rw [e2]; exact r
theorem q_parN {i j : Nat} {α : Type} {R : Rp α} {x : α} [MonoE R] (ha : EvR R ta σ H x) (k : ∀ v d H1, Ex H H1 → H1 d = none → R (upd H1 d (DO P w d [])) v x → tz D ((σ.set i (some v)).set j (some (.ref d))) (upd H1 d (DO P w d []))) : tSeq (tPar i j (tCons ta (tCons (tXNew P w) tNil))) tz D σ H :=
  ha H (Ex.refl H) _ fun v H1 e r => fun d hd => ⟨v, .ref d, rfl, k v d H1 e hd (MonoE.ex (Ex.new hd) r)⟩
theorem q_01 {i j : Nat} {a b : Int} (k : ∀ H1, Ex H H1 → tz D ((σ.set i (some (.int a))).set j (some (.int b))) H1) : tSeq (tAsg (tTup (tCons (tC (.int a)) (tCons (tC (.int b)) tNil))) (gPair K i j)) tz D σ H :=
  q_unp (R := RI) (S := RI) (p := (a, b)) (ev_pair ev_i ev_i) fun v u H1 e r1 r2 => by cases r1; cases r2; exact k H1 e
theorem s_unpI {i j : Nat} {p : Int × Int} (h : EvR (RP K RI RI) te σ H p) (k : ∀ H1, Ex H H1 → D.nx ((σ.set i (some (.int p.1))).set j (some (.int p.2))) H1) : tAsg te (gPair K i j) D σ H := by
  refine s_of_q (q_unp (R := RI) (S := RI) (p := p) h fun v u H1 e r1 r2 => ?_)
  cases r1; cases r2; exact k H1 e
theorem q_unpI {i j : Nat} {p : Int × Int} (h : EvR (RP K RI RI) te σ H p) (k : ∀ H1, Ex H H1 → tz D ((σ.set i (some (.int p.1))).set j (some (.int p.2))) H1) : tSeq (tAsg te (gPair K i j)) tz D σ H := s_unpI (D := { D with nx := tz D }) h k
theorem nn_gd {ts : Tms} {k : Nat} {e : List Int × Int} (h : e ∈ ts) : gd e.1 k ≤ degI ts k := mxI_ge (List.mem_map_of_mem (f := fun t : List Int × Int => gd t.1 k) h)
/-! ### _law_counts -/
def spLCnt (P : Program) (w : World) (K : PySem.W.Frag) : Sp := sp2 (RDX P w K RI) (RT K (RS K)) (RDX P w K (RQ K)) LcOk lawCounts
theorem p_law_counts (h : spLCnt P w K vs H Q E) : t__law_counts P w K (spIdx K) (spLow K) (spPolar K) (spLDeg P w K) (Enr Q) (start ["_law_parts_here", "_law_box_here", "_law_degrees_here", "_law_found", "_law_index", "_law_top", "_law_bottom", "_law_powers", "_law_here", "_law_under", "_law_k", "_law_part", "_law_by"] vs) H := by
  obtain ⟨v, u, xs, box, rfl, ⟨d, es, rfl, hd, s⟩, rb, L, k⟩ := h
  have b3 := L.b3
  have hl := L.len
  refine q_parN (R := RIs) (x := degsP xs box.length) (ev_call2 (pre := fun xs n => Kys xs ∧ (∀ e ∈ xs, e.2 ≠ 0) ∧ xs.length ≤ 1000 ∧ 0 ≤ n ∧ n ≤ 4) (f := fun xs (n : Int) => degsP xs n.toNat) (y := (box.length : Int)) (ev_var (R := RDX P w K RI) (x := xs) rfl ⟨d, es, rfl, hd, s⟩) (ev_lenRT (ev_var (R := RT K (RS K)) (x := box) rfl rb)) ⟨L.kys, L.nz, by omega, by omega, by omega⟩) fun vd g H1 e1 hg0 rd => ?_
  have e2 : Ex H (upd H1 g (DO P w g [])) := e1.mut (e1.back hg0)
  refine q_forL (R := RN K) (ev_call1 (R := RIs) (pre := IdxOk) (f := idxs) (x := degsP xs box.length) (ev_var rfl rd) L.ix) fun a us H2 e3 hl2 p2 => ⟨fun i σ' H' => ∃ y4 y5 y6 y7 y8 y9 y10 y11 y12 es', σ' = [some (.ref d), some u, some vd, some (.ref g), y4, y5, y6, y7, y8, y9, y10, y11, y12] ∧ Ex H H' ∧ Sb g H2 H' ∧ Im H2 H' ∧ H' g = some (DO P w g es') ∧ EnS K (RQ K) H' es' (tabR (lawCnt xs box) ((idxs (degsP xs box.length)).take i)), ?_, ?_, ?_, ?_⟩
  · exact ⟨none, none, none, none, none, none, none, none, none, [], rfl, e2.trans e3, Sb.refl _ _, Im.refl _, e3 _ _ upd_same, .nil⟩
  · rintro i σ' H' ⟨_, _, _, _, _, _, _, _, _, _, _, _, sb, im, _⟩
    exact ⟨im, sb _ _ (ne_of hl2 (e3 _ _ upd_same) (fun z => nomatch z)) hl2⟩
  · rintro i vi ix σ' H' hx ri ⟨y4, y5, y6, y7, y8, y9, y10, y11, y12, es', rfl, e, sb, im, hg, s'⟩
    have mix := List.mem_of_getElem? hx
    refine q_01 fun H3 e4 => ?_
    have ixg : ∀ k, k < box.length → 0 ≤ gd ix k ∧ gd ix k ≤ degI xs k := fun k hk => by
      have z := idxs_gd mix (k := k) (by rw [degsP_len]; exact hk)
      rw [degsP_get hk] at z
      have : 0 ≤ degI xs k := mxI_0 _
      exact ⟨z.1, by omega⟩
    have hixl : ix.length = box.length := by rw [idxs_length mix, degsP_len]
    have hdg := L.dg
    have huA : ∀ t ∈ xs, ∀ n, n ≤ box.length → (huL box (degsP xs box.length) ix t.1 t.2 n).1.natAbs < 2 ^ (100 + 40400 * n) ∧ 0 < (huL box (degsP xs box.length) ix t.1 t.2 n).2 ∧ (huL box (degsP xs box.length) ix t.1 t.2 n).2.natAbs = pr ((List.range n).map fun k => (polD (box.getD k s00) ((degsP xs box.length).getD k 0) (gd t.1 k).toNat).natAbs) ∧ (huL box (degsP xs box.length) ix t.1 t.2 n).2.natAbs < 2 ^ (1 + 20200 * n) := fun t ht => by
      refine huL_abs (L.cs t ht) L.bq fun k hk => ?_
      rw [degsP_get hk]
      have h1 := ixg k hk
      have h2 := L.pos t ht k
      have h3 : gd t.1 k ≤ degI xs k := nn_gd ht
      have h4 := hdg k
      exact ⟨by omega, by omega, by omega⟩
    have hund : pr (xs.map fun t => (huL box (degsP xs box.length) ix t.1 t.2 box.length).2.natAbs) < 2 ^ 9000 := by
      have : (xs.map fun t => (huL box (degsP xs box.length) ix t.1 t.2 box.length).2.natAbs) = xs.map (undL xs box) := by
        apply List.map_congr_left
        intro t ht
        exact (huA t ht _ (Nat.le_refl _)).2.2.1
      rw [this]; exact L.und
    have tb := tb_ok (f := fun t => huL box (degsP xs box.length) ix t.1 t.2 box.length) hl (fun t ht => Nat.lt_of_lt_of_le (huA t ht _ (Nat.le_refl _)).1 (pow_t _ _ (by omega))) (fun t ht => (huA t ht _ (Nat.le_refl _)).2.1) hund
    have hd3 : H3 d = some (DO P w d es) := e4 _ _ (e _ _ hd)
    have s3 : EnS K RI H3 es xs := s.im (e.trans e4).im
    have hlist : EvR (RL (RN K)) (tLockE (tLc (iXKeys P w (tVar 0)) (gName 7) (tTest (tOp rNe (tXGet P w K (tVar 0) (tVar 7)) (tC (.int 0)))) (tVar 7) [7])) [some (.ref d), some u, some vd, some (.ref g), some vi, some (.int 0), some (.int 1), y7, y8, y9, y10, y11, y12] H3 (xs.map (·.1)) := by
      refine EvR.is (ev_lcX (R := RI) (S := RN K) (n := 0) (xs := xs) rfl hd3 s3 (by omega) (fun _ => rfl) (fun e => !decide (e.2 = 0)) (fun e => e.1) (fun v x H2 m rk rd im => ?_) (fun v x H2 m rk rd im _ => ?_)) (by rw [nz_filter L.nz])
      · exact et_test (ev_neI (i := x.2) (ev_xget (R := RI) (ev_var (R := RD P w K RI) (x := xs) rfl rd) (ev_var (R := RN K) (x := x.1) rfl rk) (lkT_mem L.kys.1 m)) ev_i)
      · exact ev_var (R := RN K) (x := x.1) rfl rk
    refine q_forL (R := RN K) hlist fun a2 us2 H4 e5 hl4 p4 => ⟨fun j σ3 H3' => ∃ y7 y8 y9 y10 y11 y12, σ3 = [some (.ref d), some u, some vd, some (.ref g), some vi, some (.int (tbL (fun t => huL box (degsP xs box.length) ix t.1 t.2 box.length) (xs.take j)).1), some (.int (tbL (fun t => huL box (degsP xs box.length) ix t.1 t.2 box.length) (xs.take j)).2), y7, y8, y9, y10, y11, y12] ∧ Ex H' H3' ∧ Ex H4 H3', ?_, ?_, ?_, ?_⟩
    · exact ⟨y7, y8, y9, y10, y11, y12, rfl, e4.trans e5, Ex.refl _⟩
    · rintro j σ3 H3' ⟨_, _, _, _, _, _, _, _, e6⟩
      exact ⟨e6.im, e6 _ _ hl4⟩
    · rintro j vp p σ3 H3' hj rp ⟨y7, y8, y9, y10, y11, y12, rfl, e6, e6'⟩
      rw [List.getElem?_map] at hj
      cases hxj : xs[j]? with
      | none => rw [hxj] at hj; cases hj
      | some t =>
      rw [hxj] at hj
      have ep : t.1 = p := Option.some.inj hj
      subst ep
      have mt := List.mem_of_getElem? hxj
      have hjl : j < xs.length := (List.getElem?_eq_some_iff.mp hxj).1
      have E6 : Ex H H3' := e.trans e6
      refine q_pari (n := t.2) (m := 1) (ev_xget (R := RI) (ev_var (R := RD P w K RI) (x := xs) rfl ⟨d, es, rfl, .inl (E6 _ _ hd), s.im E6.im⟩) (ev_var (R := RN K) (x := t.1) rfl rp) (lkT_mem L.kys.1 mt)) ev_i fun H5 e7 => ?_
      refine q_forR (ev_lenRT (ev_var (R := RT K (RS K)) (x := box) rfl (MonoE.ex (E6.trans e7) rb))) (by omega) fun H6 e8 => ⟨fun n σ4 H4' => ∃ y10 y11 y12, σ4 = [some (.ref d), some u, some vd, some (.ref g), some vi, some (.int (tbL (fun t => huL box (degsP xs box.length) ix t.1 t.2 box.length) (xs.take j)).1), some (.int (tbL (fun t => huL box (degsP xs box.length) ix t.1 t.2 box.length) (xs.take j)).2), some vp, some (.int (huL box (degsP xs box.length) ix t.1 t.2 n).1), some (.int (huL box (degsP xs box.length) ix t.1 t.2 n).2), y10, y11, y12] ∧ Ex H3' H4', ⟨y10, y11, y12, rfl, e7.trans e8⟩, ?_, ?_⟩
      · rintro n σ4 H4' hn ⟨y10, y11, y12, rfl, e9⟩
        have hnb : n < box.length := by omega
        have E9 : Ex H H4' := E6.trans e9
        obtain ⟨a1, a2, a3, a4⟩ := huA t mt n (by omega)
        have g1 := ixg n hnb
        have g2 := L.pos t mt n
        have g3 : gd t.1 n ≤ degI xs n := nn_gd mt
        have g4 := hdg n
        have hs : box[n]? = some (box.getD n s00) := by rw [List.getD_eq_getElem?_getD, List.getElem?_eq_getElem hnb]; rfl
        obtain ⟨b1, b2⟩ := L.bq _ (List.mem_of_getElem? hs)
        have h4t : t.1.length = 4 := L.kys.2 t mt
        have edg : (((degsP xs box.length).map fun (n : Nat) => (n : Int)))[n]? = some (degI xs n) := by
          rw [List.getElem?_map, show (degsP xs box.length)[n]? = some ((degI xs n).toNat) by unfold degsP; rw [List.getElem?_map, List.getElem?_range hnb]; rfl]
          show some (((degI xs n).toNat : Nat) : Int) = _
          congr 1; omega
        have rd4 : RIs H4' vd (degsP xs box.length) := MonoE.ex ((e3.trans (Ex.refl _)).trans (Ex.refl _)) rd |> fun z => by
          obtain ⟨aa, vv, q1, q2, q3⟩ := z
          refine ⟨aa, vv, q1, ?_, Paired.imp q3 fun _ _ r => r⟩
          have hne : aa ≠ g := by
            intro z
            subst z
            rw [e3 _ _ upd_same] at q2
            cases q2
          exact e9 _ _ (e6 _ _ (sb _ _ hne q2))
        have ri4 : RN K H4' vi ix := MonoE.ex (e6.trans e9) ri
        refine q_unpI (p := (polN (box.getD n s00) ((degsP xs box.length).getD n 0) (gd ix n).toNat (gd t.1 n).toNat, polD (box.getD n s00) ((degsP xs box.length).getD n 0) (gd t.1 n).toNat)) (EvR.is (ev_call4 (pre := fun s D i j => Bq 100 s.1 ∧ Bq 100 s.2 ∧ 0 ≤ i ∧ i ≤ D ∧ D ≤ 100 ∧ 0 ≤ j ∧ j ≤ D) (f := fun s (D i j : Int) => (polN s D.toNat i.toNat j.toNat, polD s D.toNat j.toNat)) (x := box.getD n s00) (y := degI xs n) (z := gd ix n) (q := gd t.1 n)
          (ev_ixT (R := RS K) (n := n) (ev_var (R := RT K (RS K)) (x := box) rfl (MonoE.ex E9 rb)) (ev_vi rfl) hs) (ev_ixL (R := RI) (n := n) (ev_var (R := RL RI) (x := (degsP xs box.length).map fun (n : Nat) => (n : Int)) rfl rd4) (ev_vi rfl) edg)
          (ev_ixT (R := RI) (n := n) (ev_var (R := RN K) (x := ix) rfl ri4) (ev_vi rfl) (gd_get (by omega))) (ev_ixT (R := RI) (n := n) (ev_var (R := RN K) (x := t.1) rfl (MonoE.ex e9 rp)) (ev_vi rfl) (gd_get (by omega))) ⟨b1, b2, g1.1, g1.2, g4, g2, g3⟩) (by rw [degsP_get hnb])) fun H7 e10 => ?_
        have hpn : (polN (box.getD n s00) ((degsP xs box.length).getD n 0) (gd ix n).toNat (gd t.1 n).toNat).natAbs < 2 ^ 40400 := polN_lt b1 b2 (by omega) (by rw [degsP_get hnb]; omega) (by omega)
        have hpd : (polD (box.getD n s00) ((degsP xs box.length).getD n 0) (gd t.1 n).toNat).natAbs < 2 ^ 20200 := polD_lt b1 b2 (by rw [degsP_get hnb]; omega) (by omega)
        have estep : huL box (degsP xs box.length) ix t.1 t.2 (n + 1) = ((huL box (degsP xs box.length) ix t.1 t.2 n).1 * polN (box.getD n s00) ((degsP xs box.length).getD n 0) (gd ix n).toNat (gd t.1 n).toNat, (huL box (degsP xs box.length) ix t.1 t.2 n).2 * polD (box.getD n s00) ((degsP xs box.length).getD n 0) (gd t.1 n).toNat) := by unfold huL; rw [range_foldl]
        refine s_pari (ev_opC (ev_vi rfl) (ev_vi rfl) (wide_mul a1 hpn (by omega) (by decide) (by omega))) (ev_opC (ev_vi rfl) (ev_vi rfl) (wide_mul a4 hpd (by omega) (by decide) (by omega))) fun H8 e11 => ⟨some (.int (n : Int)), some (.int (polN (box.getD n s00) ((degsP xs box.length).getD n 0) (gd ix n).toNat (gd t.1 n).toNat)), some (.int (polD (box.getD n s00) ((degsP xs box.length).getD n 0) (gd t.1 n).toNat)), ?_, e9.trans (e10.trans e11)⟩
        rw [estep]; rfl
      · rintro σ4 H4' ⟨y10, y11, y12, rfl, e9⟩
        rw [Int.toNat_natCast]
        obtain ⟨a1, a2, a3, a4⟩ := huA t mt box.length (Nat.le_refl _)
        obtain ⟨c1, c2, c3, c4⟩ := tb j (by omega)
        have a1' : (huL box (degsP xs box.length) ix t.1 t.2 box.length).1.natAbs < 2 ^ 122000 := Nat.lt_of_lt_of_le a1 (pow_t _ _ (by omega))
        have a4' : (huL box (degsP xs box.length) ix t.1 t.2 box.length).2.natAbs < 2 ^ 61000 := Nat.lt_of_lt_of_le a4 (pow_t _ _ (by omega))
        have c1' : (tbL (fun t => huL box (degsP xs box.length) ix t.1 t.2 box.length) (xs.take j)).1.natAbs < 2 ^ 222000 := Nat.lt_of_lt_of_le c1 (pow_t _ _ (by omega))
        have estep : tbL (fun t => huL box (degsP xs box.length) ix t.1 t.2 box.length) (xs.take (j + 1)) = tbS (fun t => huL box (degsP xs box.length) ix t.1 t.2 box.length) (tbL (fun t => huL box (degsP xs box.length) ix t.1 t.2 box.length) (xs.take j)) t := by unfold tbL; rw [foldl_take hxj]
        refine s_pari (ev_op0 (ev_opC (ev_vi rfl) (ev_vi rfl) (wide_mul c1' a4' (by decide) (by decide) (by decide))) (ev_opC (ev_vi rfl) (ev_vi rfl) (wide_mul a1' c4 (by decide) (by decide) (by decide)))) (ev_opC (ev_vi rfl) (ev_vi rfl) (wide_mul c4 a4' (by decide) (by decide) (by decide))) fun H8 e11 => ⟨some vp, some (.int (huL box (degsP xs box.length) ix t.1 t.2 box.length).1), some (.int (huL box (degsP xs box.length) ix t.1 t.2 box.length).2), y10, y11, y12, ?_, e6.trans (e9.trans e11), e6'.trans (e9.trans e11)⟩
        rw [estep]; rfl
    · rintro σ3 H3' ⟨y7, y8, y9, y10, y11, y12, rfl, e6, e6'⟩
      rw [List.length_map, List.take_of_length_le (Nat.le_refl _)]
      obtain ⟨c1, c2, c3, c4⟩ := tb xs.length (Nat.le_refl _)
      rw [List.take_of_length_le (Nat.le_refl _)] at c1 c2 c3 c4
      have hlen : (tabR (lawCnt xs box) ((idxs (degsP xs box.length)).take i)).length < 10000000 := by
        have h1 := tabR_len (lawCnt xs box) ((idxs (degsP xs box.length)).take i)
        have h2 : ((idxs (degsP xs box.length)).take i).length ≤ (idxs (degsP xs box.length)).length := by rw [List.length_take]; omega
        have h3 := L.ix.2
        rw [← idxs_len] at h3
        omega
      refine s_xput (R := RQ K) (x := lawCnt xs box ix) (var_ref rfl) (e6 _ _ hg) (s'.im e6.im) hlen (e_low (x := (lawT xs box ix).1) (y := (lawT xs box ix).2) (ev_vi rfl) (ev_vi rfl) c2 c4) (ev_var (R := RN K) (x := ix) rfl (MonoE.ex e6 ri)) fun es2 H9 sb9 im9 hg9 s9 => ?_
      refine ⟨_, _, _, _, _, _, _, _, _, es2, rfl, Ex.sbm (e.trans e6) (e1.back hg0) sb9, (sb.trans e6.sb).trans sb9, (im.trans e6.im).trans im9, hg9, ?_⟩
      have e9 : tabR (lawCnt xs box) ((idxs (degsP xs box.length)).take (i + 1)) = ptT (tabR (lawCnt xs box) ((idxs (degsP xs box.length)).take i)) ix (lawCnt xs box ix) := by unfold tabR; rw [foldl_take hx]
      rw [e9]
      exact s9
  · rintro σ' H' ⟨y4, y5, y6, y7, y8, y9, y10, y11, y12, es', rfl, e, sb, im, hg, s'⟩
    rw [List.take_of_length_le (Nat.le_refl _)] at s'
    exact s_ret (R := RDX P w K (RQ K)) (x := lawCounts xs box) (ev_var rfl ⟨g, es', rfl, hg, s'⟩) fun v H9 e9 r9 => k v H9 (e.trans e9) r9
end
end Bx

set_option Elab.async false
set_option linter.all false
set_option maxRecDepth 100000
set_option maxHeartbeats 2000000
namespace Bx
open PySem PySem.Spec PyProof.Rows L2
def plc (pt : List Rat) (k : Nat) : Rat := pt.getD k 0
def huW (pt : List Rat) (p : List Int) (c : Int) (n : Nat) : Int × Int := (List.range n).foldl (fun st k => (st.1 * (plc pt k).num ^ (gd p k).toNat, st.2 * ((plc pt k).den : Int) ^ (gd p k).toNat)) (c, 1)
def lawWT (parts : Tms) (pt : List Rat) : Int × Int := tbL (fun t => huW pt t.1 t.2 4) parts
def lawWorth (parts : Tms) (pt : List Rat) : Rat := Rat.divInt (lawWT parts pt).1 (lawWT parts pt).2
structure LwOk (parts : Tms) (pt : List Rat) : Prop where
  kys : Kys parts
  len : parts.length ≤ 10
  cs : ∀ e ∈ parts, e.2.natAbs < 2 ^ 100
  pos : ∀ e ∈ parts, ∀ k, 0 ≤ gd e.1 k ∧ gd e.1 k ≤ 100
  bq : ∀ x ∈ pt, Bq 100 x
  l4 : pt.length ≤ 4
  und : pr (parts.map fun t => (huW pt t.1 t.2 4).2.natAbs) < 2 ^ 9000
theorem plc_bq {pt : List Rat} (h : ∀ x ∈ pt, Bq 100 x) (k : Nat) : Bq 100 (plc pt k) := by
  unfold plc
  rw [List.getD_eq_getElem?_getD]
  cases e : pt[k]? with
  | none => exact ⟨by show (0 : Rat).num.natAbs < _; exact Nat.two_pow_pos _, by show (0 : Rat).den < _; exact Nat.one_lt_two_pow (by decide)⟩
  | some x => exact h x (List.mem_of_getElem? e)
theorem huW_abs {pt : List Rat} {p : List Int} {c : Int} (hc : c.natAbs < 2 ^ 100) (hb : ∀ x ∈ pt, Bq 100 x) (hp : ∀ k, 0 ≤ gd p k ∧ gd p k ≤ 100) : ∀ n, (huW pt p c n).1.natAbs < 2 ^ (100 + 10001 * n) ∧ 0 < (huW pt p c n).2 ∧ (huW pt p c n).2.natAbs < 2 ^ (1 + 10001 * n)
  | 0 => ⟨hc, by show (0 : Int) < 1; decide, by show (1 : Int).natAbs < _; decide⟩
  | n + 1 => by
    obtain ⟨a1, a2, a3⟩ := huW_abs hc hb hp n
    have b := plc_bq hb n
    have p1 := hp n
    have e : huW pt p c (n + 1) = ((huW pt p c n).1 * (plc pt n).num ^ (gd p n).toNat, (huW pt p c n).2 * ((plc pt n).den : Int) ^ (gd p n).toNat) := by unfold huW; rw [range_foldl]
    have hd : (0 : Int) < ((plc pt n).den : Int) := by have := (plc pt n).den_pos; omega
    rw [e]
    refine ⟨?_, Int.mul_pos a2 (Int.pow_pos hd), ?_⟩
    · rw [show 100 + 10001 * (n + 1) = 100 + 10001 * n + 10001 by omega]
      exact wide_lt a1 (pow_absU b.1 (by omega))
    · rw [show 1 + 10001 * (n + 1) = 1 + 10001 * n + 10001 by omega]
      exact wide_lt a3 (pow_absU (den_abs b) (by omega))
/-! ### the sum of the counts -/
def huM (dg : List Nat) (sh : List (Int × Int)) (ix : List Int) (q : Rat) (n : Nat) : Int × Int := (List.range n).foldl (fun st k => (st.1 * (ch (dg.getD k 0) (gd ix k).toNat : Int) * (sh.getD k (0, 1)).1 ^ (gd ix k).toNat * ((sh.getD k (0, 1)).2 - (sh.getD k (0, 1)).1) ^ (dg.getD k 0 - (gd ix k).toNat), st.2 * (sh.getD k (0, 1)).2 ^ (dg.getD k 0))) (q.num, (q.den : Int))
def mixS (dg : List Nat) (sh : List (Int × Int)) (acc : Rat) (e : List Int × Rat) : Rat := Rat.divInt (acc.num * (huM dg sh e.1 e.2 dg.length).2 + (huM dg sh e.1 e.2 dg.length).1 * (acc.den : Int)) ((acc.den : Int) * (huM dg sh e.1 e.2 dg.length).2)
def mixA (dg : List Nat) (sh : List (Int × Int)) (cs : List (List Int × Rat)) : Rat := cs.foldl (mixS dg sh) 0
structure McOk (cs : List (List Int × Rat)) (dg : List Nat) (sh : List (Int × Int)) : Prop where
  nd : (cs.map (·.1)).Nodup
  len : cs.length ≤ 64
  l3 : dg.length ≤ 3
  ls : sh.length = dg.length
  ixl : ∀ e ∈ cs, e.1.length = dg.length
  ix : ∀ e ∈ cs, ∀ k, k < dg.length → 0 ≤ gd e.1 k ∧ gd e.1 k ≤ (dg.getD k 0 : Int)
  dl : ∀ k, dg.getD k 0 ≤ 100
  sl : ∀ x ∈ sh, 0 ≤ x.1 ∧ x.1 ≤ x.2 ∧ 0 < x.2 ∧ x.2 ≤ 10
  bq : ∀ e ∈ cs, Bq 223000 e.2
  dn : ∀ n e, cs[n]? = some e → ((mixA dg sh (cs.take n)).den : Int).natAbs * (huM dg sh e.1 e.2 dg.length).2.natAbs < 2 ^ 9000
theorem sh_mem {sh : List (Int × Int)} {k : Nat} (h : k < sh.length) : sh[k]? = some (sh.getD k (0, 1)) ∧ sh.getD k (0, 1) ∈ sh := by
  rw [List.getD_eq_getElem?_getD, List.getElem?_eq_getElem h]
  exact ⟨rfl, List.getElem_mem h⟩
theorem huM_abs {dg : List Nat} {sh : List (Int × Int)} {ix : List Int} {q : Rat} (hq : Bq 223000 q) (h1 : ∀ k, dg.getD k 0 ≤ 100) (h2 : ∀ x ∈ sh, 0 ≤ x.1 ∧ x.1 ≤ x.2 ∧ 0 < x.2 ∧ x.2 ≤ 10) (h3 : ∀ k, k < sh.length → 0 ≤ gd ix k ∧ gd ix k ≤ (dg.getD k 0 : Int)) :
    ∀ n, n ≤ sh.length → (huM dg sh ix q n).1.natAbs < 2 ^ (223000 + 1000 * n) ∧ 0 < (huM dg sh ix q n).2 ∧ (huM dg sh ix q n).2.natAbs < 2 ^ (223000 + 1000 * n)
  | 0, _ => ⟨hq.1, by show (0 : Int) < (q.den : Int); have := q.den_pos; omega, den_abs hq⟩
  | n + 1, hn => by
    obtain ⟨a1, a2, a3⟩ := huM_abs hq h1 h2 h3 n (by omega)
    obtain ⟨e1, m⟩ := sh_mem (sh := sh) (k := n) (by omega)
    obtain ⟨s1, s2, s3, s4⟩ := h2 _ m
    have d1 := h1 n
    have g := h3 n (by omega)
    have e : huM dg sh ix q (n + 1) = ((huM dg sh ix q n).1 * (ch (dg.getD n 0) (gd ix n).toNat : Int) * (sh.getD n (0, 1)).1 ^ (gd ix n).toNat * ((sh.getD n (0, 1)).2 - (sh.getD n (0, 1)).1) ^ (dg.getD n 0 - (gd ix n).toNat), (huM dg sh ix q n).2 * (sh.getD n (0, 1)).2 ^ (dg.getD n 0)) := by unfold huM; rw [range_foldl]
    have t4 : (2 : Nat) ^ 4 = 16 := rfl
    have w1 : (sh.getD n (0, 1)).1.natAbs < 2 ^ 4 := by omega
    have w2 : (sh.getD n (0, 1)).2.natAbs < 2 ^ 4 := by omega
    have w3 : ((sh.getD n (0, 1)).2 - (sh.getD n (0, 1)).1).natAbs < 2 ^ 4 := by omega
    rw [e]
    refine ⟨?_, Int.mul_pos a2 (Int.pow_pos s3), ?_⟩
    · refine Nat.lt_of_lt_of_le (wide_lt (wide_lt (wide_lt a1 (ch_abs d1)) (pow_absU (b := 401) w1 (by omega))) (pow_absU (b := 401) w3 (by omega))) (pow_t _ _ (by omega))
    · refine Nat.lt_of_lt_of_le (wide_lt a3 (pow_absU (b := 401) w2 (by omega))) (pow_t _ _ (by omega))
section
variable {P : Program} {w : World} {K : PySem.W.Frag} {vs : List V} {H : Hp} {Q : VK} {E : XK} {te ta tb tk tv : TE} {σ : L2.St} {D : Ends} {tz : TS}
/-! ### _law_worth -/
def spLW (P : Program) (w : World) (K : PySem.W.Frag) : Sp := sp2 (RDX P w K RI) (RL (RQ K)) (RQ K) LwOk lawWorth
theorem p_law_worth (h : spLW P w K vs H Q E) : t__law_worth P w K (spLow K) spPow (Enr Q) (start ["_law_parts_here", "_law_point", "_law_top", "_law_bottom", "_law_powers", "_law_here", "_law_under", "_law_k", "_law_place"] vs) H := by
  obtain ⟨v, u, xs, pt, rfl, ⟨d, es, rfl, hd, s⟩, rp, L, k⟩ := h
  have w1000 : ∀ {x : Int}, x.natAbs < 2 ^ 100 → x.natAbs < 2 ^ 1000 := fun h => Nat.lt_of_lt_of_le h (pow_t _ _ (by decide))
  have huA := fun (t : List Int × Int) (ht : t ∈ xs) => huW_abs (pt := pt) (p := t.1) (L.cs t ht) L.bq (L.pos t ht)
  have tb := tb_ok (f := fun t => huW pt t.1 t.2 4) L.len (fun t ht => Nat.lt_of_lt_of_le (huA t ht 4).1 (pow_t _ _ (by decide))) (fun t ht => (huA t ht 4).2.1) L.und
  refine q_01 fun H1 e1 => ?_
  refine q_forX (R := RI) (n := 0) (xs := xs) rfl (e1 _ _ hd) (s.im e1.im) fun od => ⟨fun i σ' H' => ∃ y4 y5 y6 y7 y8, σ' = [some (.ref d), some u, some (.int (tbL (fun t => huW pt t.1 t.2 4) (xs.take i)).1), some (.int (tbL (fun t => huW pt t.1 t.2 4) (xs.take i)).2), y4, y5, y6, y7, y8] ∧ Ex (upd H1 d (.frz od (DO P w d es))) H', ?_, ?_, ?_, ?_⟩
  · exact ⟨none, none, none, none, none, rfl, Ex.refl _⟩
  · rintro i σ' H' ⟨_, _, _, _, _, _, e⟩
    exact e
  · rintro i vp p c σ' H' D' hx rpp ⟨y4, y5, y6, y7, y8, rfl, e⟩ hD
    have m := List.mem_of_getElem? hx
    have hil : i < xs.length := (List.getElem?_eq_some_iff.mp hx).1
    have imL : Im H1 (upd H1 d (.frz od (DO P w d es))) := Im.upd (e1 _ _ hd) rfl
    have rd : RD P w K RI H' (.ref d) xs := ⟨d, es, rfl, .inr ⟨od, e _ _ upd_same⟩, s.im (e1.im.trans (imL.trans e.im))⟩
    have hpt : RL (RQ K) H' u pt := by
      obtain ⟨a, us, q1, q2, q3⟩ := rp
      have hne : a ≠ d := fun z => by subst z; rw [hd] at q2; cases q2
      refine ⟨a, us, q1, e _ _ (by rw [upd_ne hne]; exact e1 _ _ q2), Paired.imp q3 fun _ _ r => Mono.im (e1.im.trans (imL.trans e.im)) r⟩
    refine q_pari (n := c) (m := 1) (ev_xget (R := RI) (ev_var (R := RD P w K RI) (x := xs) rfl rd) (ev_var (R := RN K) (x := p) rfl rpp) (lkT_mem L.kys.1 m)) ev_i fun H2 e2 => ?_
    refine q_forR (n := 4) ev_i (by decide) fun H3 e3 => ⟨fun n σ3 H3' => ∃ y7 y8, σ3 = [some (.ref d), some u, some (.int (tbL (fun t => huW pt t.1 t.2 4) (xs.take i)).1), some (.int (tbL (fun t => huW pt t.1 t.2 4) (xs.take i)).2), some vp, some (.int (huW pt p c n).1), some (.int (huW pt p c n).2), y7, y8] ∧ Ex H' H3', ⟨y7, y8, rfl, e2.trans e3⟩, ?_, ?_⟩
    · rintro n σ3 H3' hn ⟨y7, y8, rfl, e4⟩
      have hn4 : n < 4 := by omega
      have hp4 : p.length = 4 := L.kys.2 _ m
      have hp := L.pos _ m n
      have hp : 0 ≤ gd p n ∧ gd p n ≤ 100 := hp
      obtain ⟨a1, a2, a3⟩ := huA (p, c) m n
      have a1 : (huW pt p c n).1.natAbs < 2 ^ (100 + 10001 * n) := a1
      have a3 : (huW pt p c n).2.natAbs < 2 ^ (1 + 10001 * n) := a3
      have b := plc_bq L.bq n
      have hpt4 : RL (RQ K) H3' u pt := MonoE.ex e4 hpt
      refine q_set (R := RQ K) (x := plc pt n) ?_ fun v8 H5 e5 r8 => ?_
      · by_cases c1 : n < pt.length
        · refine ev_if (b := true) (et_test (EvR.is (ev_opB (ev_vi (i := (n : Int)) rfl) (ev_lenL (ev_var (R := RL (RQ K)) (x := pt) rfl hpt4))) (by simpa using c1))) (fun _ => ?_) (fun z => nomatch z)
          exact ev_ixL (R := RQ K) (n := n) (ev_var (R := RL (RQ K)) (x := pt) rfl hpt4) (ev_vi rfl) (by unfold plc; rw [List.getD_eq_getElem?_getD, List.getElem?_eq_getElem c1]; rfl)
        · refine ev_if (b := false) (et_test (EvR.is (ev_opB (ev_vi (i := (n : Int)) rfl) (ev_lenL (ev_var (R := RL (RQ K)) (x := pt) rfl hpt4))) (by simpa using c1))) (fun z => nomatch z) (fun _ => ?_)
          have e0 : plc pt n = 0 := by unfold plc; rw [List.getD_eq_getElem?_getD, List.getElem?_eq_none (by omega)]; rfl
          rw [e0]
          exact ev_tup2 (K := K) ev_i ev_i
      · have v8e : ∀ {H}, Ex H5 H → EvR (RQ K) (tVar 8) [some (.ref d), some u, some (.int (tbL (fun t => huW pt t.1 t.2 4) (xs.take i)).1), some (.int (tbL (fun t => huW pt t.1 t.2 4) (xs.take i)).2), some vp, some (.int (huW pt p c n).1), some (.int (huW pt p c n).2), some (.int (n : Int)), some v8] H (plc pt n) := fun e => ev_var rfl (MonoE.ex e r8)
        have pe : EvR RI (tOp (rIxT K) (tVar 4) (tVar 7)) [some (.ref d), some u, some (.int (tbL (fun t => huW pt t.1 t.2 4) (xs.take i)).1), some (.int (tbL (fun t => huW pt t.1 t.2 4) (xs.take i)).2), some vp, some (.int (huW pt p c n).1), some (.int (huW pt p c n).2), some (.int (n : Int)), some v8] H5 (gd p n) := ev_ixT (R := RI) (n := n) (ev_var (R := RN K) (x := p) rfl (MonoE.ex (e4.trans e5) rpp)) (ev_vi rfl) (gd_get (by omega))
        refine s_pari (n := (huW pt p c n).1 * (plc pt n).num ^ (gd p n).toNat) (m := (huW pt p c n).2 * ((plc pt n).den : Int) ^ (gd p n).toNat) (ev_opC (ev_vi rfl) (e_pow (ev_num (v8e (Ex.refl _))) pe hp.1 hp.2 (w1000 b.1)) (wide_mul a1 (pow_absU (b := 10001) b.1 (by omega)) (by omega) (by decide) (by omega)))
          (ev_opC (ev_vi rfl) (e_pow (ev_den (v8e (Ex.refl _))) pe hp.1 hp.2 (w1000 (den_abs b))) (wide_mul a3 (pow_absU (b := 10001) (den_abs b) (by omega)) (by omega) (by decide) (by omega))) fun H6 e6 => ⟨some (.int (n : Int)), some v8, ?_, e4.trans (e5.trans e6)⟩
        have estep : huW pt p c (n + 1) = ((huW pt p c n).1 * (plc pt n).num ^ (gd p n).toNat, (huW pt p c n).2 * ((plc pt n).den : Int) ^ (gd p n).toNat) := by unfold huW; rw [range_foldl]
        rw [estep]; rfl
    · rintro σ3 H3' ⟨y7, y8, rfl, e4⟩
      obtain ⟨a1, a2, a3⟩ := huA (p, c) m 4
      obtain ⟨c1, c2, c3, c4⟩ := tb i (by omega)
      have a1 : (huW pt p c 4).1.natAbs < 2 ^ 40104 := a1
      have a3 : (huW pt p c 4).2.natAbs < 2 ^ 40005 := a3
      have c1' : (tbL (fun t => huW pt t.1 t.2 4) (xs.take i)).1.natAbs < 2 ^ 222000 := Nat.lt_of_lt_of_le c1 (pow_t _ _ (by have := L.len; omega))
      refine s_pari (n := (tbL (fun t => huW pt t.1 t.2 4) (xs.take i)).1 * (huW pt p c 4).2 + (huW pt p c 4).1 * (tbL (fun t => huW pt t.1 t.2 4) (xs.take i)).2) (m := (tbL (fun t => huW pt t.1 t.2 4) (xs.take i)).2 * (huW pt p c 4).2) (ev_op0 (ev_opC (ev_vi rfl) (ev_vi rfl) (wide_mul c1' a3 (by decide) (by decide) (by decide))) (ev_opC (ev_vi rfl) (ev_vi rfl) (wide_mul a1 c4 (by decide) (by decide) (by decide)))) (ev_opC (ev_vi rfl) (ev_vi rfl) (wide_mul c4 a3 (by decide) (by decide) (by decide))) fun H6 e6 => ?_
      rw [hD]
      refine ⟨some vp, some (.int (huW pt p c 4).1), some (.int (huW pt p c 4).2), y7, y8, ?_, e.trans (e4.trans e6)⟩
      have estep : tbL (fun t => huW pt t.1 t.2 4) (xs.take (i + 1)) = tbS (fun t => huW pt t.1 t.2 4) (tbL (fun t => huW pt t.1 t.2 4) (xs.take i)) (p, c) := by unfold tbL; rw [foldl_take hx]
      rw [estep]; rfl
  · rintro σ' H' ⟨y4, y5, y6, y7, y8, rfl, e⟩ e2
    rw [List.take_of_length_le (Nat.le_refl _)]
    obtain ⟨c1, c2, c3, c4⟩ := tb xs.length (Nat.le_refl _)
    rw [List.take_of_length_le (Nat.le_refl _)] at c2 c4
    exact s_ret (e_low (x := (lawWT xs pt).1) (y := (lawWT xs pt).2) (ev_vi rfl) (ev_vi rfl) c2 c4) fun v H3 e3 r => k v H3 (e1.trans (e2.trans e3)) r
/-! ### _law_mixed -/
def spMix (P : Program) (w : World) (K : PySem.W.Frag) : Sp := sp3 (RDX P w K (RQ K)) RIs (RL (RP K RI RI)) (RQ K) McOk (fun cs dg sh => mixA dg sh cs)
theorem mixA_num {cs : List (List Int × Rat)} {dg : List Nat} {sh : List (Int × Int)} (M : McOk cs dg sh) : ∀ i, i ≤ cs.length → (mixA dg sh (cs.take i)).num.natAbs < 2 ^ (236000 + 9001 * i) ∧ (mixA dg sh (cs.take i)).den < 2 ^ 9000 := by
  intro i
  induction i with
  | zero => intro _; exact ⟨by show (0 : Rat).num.natAbs < _; exact Nat.two_pow_pos _, by show (0 : Rat).den < _; exact Nat.one_lt_two_pow (by decide)⟩
  | succ i ih =>
    intro hi
    obtain ⟨a1, a2⟩ := ih (by omega)
    have hx : cs[i]? = some (cs[i]'(by omega)) := List.getElem?_eq_getElem _
    have m := List.mem_of_getElem? hx
    obtain ⟨h1, h2, h3⟩ := huM_abs (sh := sh) (ix := (cs[i]'(by omega)).1) (M.bq _ m) M.dl M.sl (fun k hk => M.ix _ m k (by rw [← M.ls]; exact hk)) dg.length (by rw [M.ls]; exact Nat.le_refl _)
    have d := M.dn i _ hx
    have e : mixA dg sh (cs.take (i + 1)) = mixS dg sh (mixA dg sh (cs.take i)) (cs[i]'(by omega)) := by unfold mixA; rw [foldl_take hx]
    have dp := (mixA dg sh (cs.take i)).den_pos
    have u9 : (huM dg sh (cs[i]'(by omega)).1 (cs[i]'(by omega)).2 dg.length).2.natAbs < 2 ^ 9000 := Nat.lt_of_le_of_lt (Nat.le_mul_of_pos_left _ (by rw [Int.natAbs_natCast]; exact dp)) d
    have ne : ((mixA dg sh (cs.take i)).den : Int) * (huM dg sh (cs[i]'(by omega)).1 (cs[i]'(by omega)).2 dg.length).2 ≠ 0 := Int.mul_ne_zero (by omega) (by omega)
    have h1' : (huM dg sh (cs[i]'(by omega)).1 (cs[i]'(by omega)).2 dg.length).1.natAbs < 2 ^ 226000 := Nat.lt_of_lt_of_le h1 (pow_t _ _ (by have := M.l3; omega))
    have a2' : ((mixA dg sh (cs.take i)).den : Int).natAbs < 2 ^ 9000 := by rw [Int.natAbs_natCast]; exact a2
    rw [e]
    unfold mixS
    refine ⟨Nat.lt_of_le_of_lt (num_le _ _) ?_, Nat.lt_of_le_of_lt (den_le _ _ ne) (by rw [Int.natAbs_mul]; exact d)⟩
    rw [show 236000 + 9001 * (i + 1) = 236000 + 9001 * i + 9000 + 1 by omega]
    exact sum2 (wide_lt a1 u9) (Nat.lt_of_lt_of_le (wide_lt h1' a2') (pow_t _ _ (by omega)))
theorem p_mixed (h : spMix P w K vs H Q E) : t__law_mixed P w K (spLow K) spPow spCh (Enr Q) (start ["_law_counts_here", "_law_degrees_here", "_law_shares", "_law_top", "_law_bottom", "_law_index", "_law_here", "_law_under", "_law_k", "_law_s", "_law_by", "_law_ways"] vs) H := by
  obtain ⟨v, u, t, cs, dg, sh, rfl, ⟨d, es, rfl, hd, s⟩, rdg, rsh, M, k⟩ := h
  have l3 := M.l3
  have ls := M.ls
  have acc := mixA_num M
  refine q_01 fun H1 e1 => ?_
  refine q_forX (R := RQ K) (n := 0) (xs := cs) rfl (e1 _ _ hd) (s.im e1.im) fun od => ⟨fun i σ' H' => ∃ y5 y6 y7 y8 y9 y10 y11, σ' = [some (.ref d), some u, some t, some (.int (mixA dg sh (cs.take i)).num), some (.int ((mixA dg sh (cs.take i)).den : Int)), y5, y6, y7, y8, y9, y10, y11] ∧ Ex (upd H1 d (.frz od (DO P w d es))) H', ?_, ?_, ?_, ?_⟩
  · exact ⟨none, none, none, none, none, none, none, rfl, Ex.refl _⟩
  · rintro i σ' H' ⟨_, _, _, _, _, _, _, _, e⟩
    exact e
  · rintro i vp ix q σ' H' D' hx rix ⟨y5, y6, y7, y8, y9, y10, y11, rfl, e⟩ hD
    have m := List.mem_of_getElem? hx
    have hil : i < cs.length := (List.getElem?_eq_some_iff.mp hx).1
    have imL : Im H1 (upd H1 d (.frz od (DO P w d es))) := Im.upd (e1 _ _ hd) rfl
    have rd : RD P w K (RQ K) H' (.ref d) cs := ⟨d, es, rfl, .inr ⟨od, e _ _ upd_same⟩, s.im (e1.im.trans (imL.trans e.im))⟩
    have hdg' : RL RI H' u (dg.map fun (n : Nat) => (n : Int)) := by
      obtain ⟨a, us, q1, q2, q3⟩ := rdg
      have hne : a ≠ d := fun z => by subst z; rw [hd] at q2; cases q2
      exact ⟨a, us, q1, e _ _ (by rw [upd_ne hne]; exact e1 _ _ q2), Paired.imp q3 fun _ _ r => Mono.im (R := RI) (e1.im.trans (imL.trans e.im)) r⟩
    have hsh' : RL (RP K RI RI) H' t sh := by
      obtain ⟨a, us, q1, q2, q3⟩ := rsh
      have hne : a ≠ d := fun z => by subst z; rw [hd] at q2; cases q2
      exact ⟨a, us, q1, e _ _ (by rw [upd_ne hne]; exact e1 _ _ q2), Paired.imp q3 fun _ _ r => Mono.im (e1.im.trans (imL.trans e.im)) r⟩
    have bq : Bq 223000 q := M.bq _ m
    have hixl : ix.length = dg.length := M.ixl _ m
    have hix : ∀ k, k < dg.length → 0 ≤ gd ix k ∧ gd ix k ≤ (dg.getD k 0 : Int) := M.ix _ m
    have huA := huM_abs (sh := sh) (ix := ix) bq M.dl M.sl (fun k hk => hix k (by rw [← ls]; exact hk))
    refine q_unpI (p := (q.num, (q.den : Int))) (EvR.rq (ev_xget (R := RQ K) (ev_var (R := RD P w K (RQ K)) (x := cs) rfl rd) (ev_var (R := RN K) (x := ix) rfl rix) (lkT_mem M.nd m))) fun H2 e2 => ?_
    refine q_forR (n := (dg.length : Int)) (EvR.is (ev_lenL (ev_var (R := RL RI) (x := dg.map fun (n : Nat) => (n : Int)) rfl (MonoE.ex e2 hdg'))) (by rw [List.length_map])) (by omega) fun H3 e3 => ⟨fun n σ3 H3' => ∃ y8 y9 y10 y11, σ3 = [some (.ref d), some u, some t, some (.int (mixA dg sh (cs.take i)).num), some (.int ((mixA dg sh (cs.take i)).den : Int)), some vp, some (.int (huM dg sh ix q n).1), some (.int (huM dg sh ix q n).2), y8, y9, y10, y11] ∧ Ex H' H3', ⟨y8, y9, y10, y11, rfl, e2.trans e3⟩, ?_, ?_⟩
    · rintro n σ3 H3' hn ⟨y8, y9, y10, y11, rfl, e4⟩
      have hnl : n < dg.length := by omega
      obtain ⟨a1, a2, a3⟩ := huA n (by omega)
      obtain ⟨e5, ms⟩ := sh_mem (sh := sh) (k := n) (by omega)
      obtain ⟨s1, s2, s3, s4⟩ := M.sl _ ms
      have g := hix n hnl
      have d1 := M.dl n
      have edg : (dg.map fun (n : Nat) => (n : Int))[n]? = some ((dg.getD n 0 : Nat) : Int) := by
        rw [List.getElem?_map, List.getD_eq_getElem?_getD, List.getElem?_eq_getElem hnl]; rfl
      have t4 : (2 : Nat) ^ 4 = 16 := rfl
      have w1 : (sh.getD n (0, 1)).1.natAbs < 2 ^ 4 := by omega
      have w2 : (sh.getD n (0, 1)).2.natAbs < 2 ^ 4 := by omega
      have w3 : ((sh.getD n (0, 1)).2 - (sh.getD n (0, 1)).1).natAbs < 2 ^ 4 := by omega
      have w1000 : ∀ {x : Int}, x.natAbs < 2 ^ 4 → x.natAbs < 2 ^ 1000 := fun h => Nat.lt_of_lt_of_le h (pow_t _ _ (by decide))
      refine q_unpI (p := sh.getD n (0, 1)) (ev_ixL (R := RP K RI RI) (n := n) (ev_var (R := RL (RP K RI RI)) (x := sh) rfl (MonoE.ex e4 hsh')) (ev_vi rfl) e5) fun H5 e6 => ?_
      have vdg : ∀ {σ H6}, Ex H3' H6 → σ[1]? = some (some u) → σ[8]? = some (some (.int (n : Int))) → EvR RI (tOp (rIxL K) (tVar 1) (tVar 8)) σ H6 ((dg.getD n 0 : Nat) : Int) := fun e h1 h8 => ev_ixL (R := RI) (n := n) (ev_var (R := RL RI) (x := dg.map fun (n : Nat) => (n : Int)) h1 (MonoE.ex (e4.trans e) hdg')) (ev_vi h8) edg
      have vix : ∀ {σ H6}, Ex H3' H6 → σ[5]? = some (some vp) → σ[8]? = some (some (.int (n : Int))) → EvR RI (tOp (rIxT K) (tVar 5) (tVar 8)) σ H6 (gd ix n) := fun e h1 h8 => ev_ixT (R := RI) (n := n) (ev_var (R := RN K) (x := ix) h1 (MonoE.ex (e4.trans e) rix)) (ev_vi h8) (gd_get (by omega))
      refine q_seti (n := (ch (dg.getD n 0) (gd ix n).toNat : Int)) (e_ch (n := dg.getD n 0) (m := (gd ix n).toNat) (vdg e6 rfl rfl) (vix e6 rfl rfl) rfl (by omega) d1 (by omega)) fun H6 e7 => ?_
      have e67 := e6.trans e7
      refine q_seti (n := (huM dg sh ix q n).1 * (ch (dg.getD n 0) (gd ix n).toNat : Int) * (sh.getD n (0, 1)).1 ^ (gd ix n).toNat * ((sh.getD n (0, 1)).2 - (sh.getD n (0, 1)).1) ^ (dg.getD n 0 - (gd ix n).toNat)) (ev_opC (ev_opC (ev_opC (ev_vi rfl) (ev_vi rfl) (wide_mul a1 (ch_abs d1) (by omega) (by decide) (by omega))) (e_pow (ev_vi (i := (sh.getD n (0, 1)).1) rfl) (vix e67 rfl rfl) g.1 (by omega) (w1000 w1)) (wide_mul (wide_lt a1 (ch_abs d1)) (pow_absU (b := 401) w1 (by omega)) (by omega) (by decide) (by omega)))
        (EvR.is (e_pow (m := ((dg.getD n 0 : Nat) : Int) - gd ix n) (ev_op0 (ev_vi (i := (sh.getD n (0, 1)).2) rfl) (ev_vi (i := (sh.getD n (0, 1)).1) rfl)) (ev_op0 (vdg e67 rfl rfl) (vix e67 rfl rfl)) (by omega) (by omega) (w1000 w3)) (x' := ((sh.getD n (0, 1)).2 - (sh.getD n (0, 1)).1) ^ (dg.getD n 0 - (gd ix n).toNat)) (by congr 1; omega)) (wide_mul (wide_lt (wide_lt a1 (ch_abs d1)) (pow_absU (b := 401) w1 (by omega))) (pow_absU (b := 401) w3 (by omega)) (by omega) (by decide) (by omega))) fun H7 e8 => ?_
      refine s_seti (n := (huM dg sh ix q n).2 * (sh.getD n (0, 1)).2 ^ (dg.getD n 0)) (ev_opC (ev_vi rfl) (EvR.is (e_pow (ev_vi (i := (sh.getD n (0, 1)).2) rfl) (vdg (e67.trans e8) rfl rfl) (by omega) (by omega) (w1000 w2)) (x' := (sh.getD n (0, 1)).2 ^ (dg.getD n 0)) rfl) (wide_mul a3 (pow_absU (b := 401) w2 (by omega)) (by omega) (by decide) (by omega))) fun H8 e9 => ⟨some (.int (n : Int)), some (.int (sh.getD n (0, 1)).1), some (.int (sh.getD n (0, 1)).2), some (.int (ch (dg.getD n 0) (gd ix n).toNat : Int)), ?_, e4.trans (e67.trans (e8.trans e9))⟩
      have estep : huM dg sh ix q (n + 1) = ((huM dg sh ix q n).1 * (ch (dg.getD n 0) (gd ix n).toNat : Int) * (sh.getD n (0, 1)).1 ^ (gd ix n).toNat * ((sh.getD n (0, 1)).2 - (sh.getD n (0, 1)).1) ^ (dg.getD n 0 - (gd ix n).toNat), (huM dg sh ix q n).2 * (sh.getD n (0, 1)).2 ^ (dg.getD n 0)) := by unfold huM; rw [range_foldl]
      rw [estep]; rfl
    · rintro σ3 H3' ⟨y8, y9, y10, y11, rfl, e4⟩
      rw [Int.toNat_natCast]
      obtain ⟨a1, a2, a3⟩ := huA dg.length (by omega)
      obtain ⟨c1, c2⟩ := acc i (by omega)
      have c2' : ((mixA dg sh (cs.take i)).den : Int).natAbs < 2 ^ 9000 := by rw [Int.natAbs_natCast]; exact c2
      have dn := M.dn i _ hx
      have dp := (mixA dg sh (cs.take i)).den_pos
      have u9 : (huM dg sh ix q dg.length).2.natAbs < 2 ^ 9000 := Nat.lt_of_le_of_lt (Nat.le_mul_of_pos_left _ (by rw [Int.natAbs_natCast]; exact dp)) dn
      have c1' : (mixA dg sh (cs.take i)).num.natAbs < 2 ^ 820000 := Nat.lt_of_lt_of_le c1 (pow_t _ _ (by have := M.len; omega))
      have a1' : (huM dg sh ix q dg.length).1.natAbs < 2 ^ 226000 := Nat.lt_of_lt_of_le a1 (pow_t _ _ (by omega))
      refine q_pari (n := (mixA dg sh (cs.take i)).num * (huM dg sh ix q dg.length).2 + (huM dg sh ix q dg.length).1 * ((mixA dg sh (cs.take i)).den : Int)) (m := ((mixA dg sh (cs.take i)).den : Int) * (huM dg sh ix q dg.length).2) (ev_op0 (ev_opC (ev_vi rfl) (ev_vi rfl) (wide_mul c1' u9 (by decide) (by decide) (by decide))) (ev_opC (ev_vi rfl) (ev_vi rfl) (wide_mul a1' c2' (by decide) (by decide) (by decide)))) (ev_opC (ev_vi rfl) (ev_vi rfl) (wide_mul c2' u9 (by decide) (by decide) (by decide))) fun H6 e6 => ?_
      have estep : mixA dg sh (cs.take (i + 1)) = mixS dg sh (mixA dg sh (cs.take i)) (ix, q) := by unfold mixA; rw [foldl_take hx]
      refine s_unpI (p := ((mixA dg sh (cs.take (i + 1))).num, ((mixA dg sh (cs.take (i + 1))).den : Int))) (EvR.rq (EvR.is (e_low (ev_vi rfl) (ev_vi rfl) (Int.mul_pos (by omega) a2) (by rw [Int.natAbs_mul]; exact dn)) (by rw [estep]; rfl))) fun H7 e7 => ?_
      rw [hD]
      exact ⟨_, _, _, _, _, _, _, rfl, e.trans (e4.trans (e6.trans e7))⟩
  · rintro σ' H' ⟨y5, y6, y7, y8, y9, y10, y11, rfl, e⟩ e2
    rw [List.take_of_length_le (Nat.le_refl _)]
    exact s_ret (R := RQ K) (x := mixA dg sh cs) (ev_tup2 (K := K) (ev_vi rfl) (ev_vi rfl)) fun v H3 e3 r => k v H3 (e1.trans (e2.trans e3)) r
end
end Bx

set_option Elab.async false
set_option linter.all false
set_option maxRecDepth 100000
set_option maxHeartbeats 2000000
namespace Bx
open PySem PySem.Spec PyProof.Rows L2
/-! ### the hand -/
abbrev kS (x : Str) : Key := .inr x
def hvL (c : Addr) (at_ l sd tn : Int) : List (Key × V) := [(kS "cells", .ref c), (kS "at", .int at_), (kS "left", .int l), (kS "seed", .int sd), (kS "turn", .int tn)]
theorem hv_len {c at_ l sd tn} : (hvL c at_ l sd tn).length ≤ 100 := by show 5 ≤ 100; decide
theorem hv_cells {c at_ l sd tn} : valV (hvL c at_ l sd tn) (kS "cells") = some (.ref c) := rfl
theorem hv_at {c at_ l sd tn} : valV (hvL c at_ l sd tn) (kS "at") = some (.int at_) := rfl
theorem hv_left {c at_ l sd tn} : valV (hvL c at_ l sd tn) (kS "left") = some (.int l) := rfl
theorem hv_seed {c at_ l sd tn} : valV (hvL c at_ l sd tn) (kS "seed") = some (.int sd) := rfl
theorem hv_turn {c at_ l sd tn} : valV (hvL c at_ l sd tn) (kS "turn") = some (.int tn) := rfl
theorem hp_at {c at_ l sd tn x} : putK (hvL c at_ l sd tn) (kS "at") (.int x) = hvL c x l sd tn := rfl
theorem hp_left {c at_ l sd tn x} : putK (hvL c at_ l sd tn) (kS "left") (.int x) = hvL c at_ x sd tn := rfl
theorem hp_seed {c at_ l sd tn x} : putK (hvL c at_ l sd tn) (kS "seed") (.int x) = hvL c at_ l x tn := rfl
theorem hp_turn {c at_ l sd tn x} : putK (hvL c at_ l sd tn) (kS "turn") (.int x) = hvL c at_ l sd x := rfl
/-- the hand at a, its cells at c, not more than n turns -/
def HS (n : Nat) (H : Hp) (a c : Addr) : Prop := ∃ (ns : List Int) (at_ l sd tn : Int), H a = some (.dK (hvL c at_ l sd tn)) ∧ H c = some (.lst (ns.map V.int)) ∧ (∀ x ∈ ns, 0 ≤ x) ∧ 0 ≤ at_ ∧ 0 ≤ l ∧ 0 ≤ sd ∧ sd < 2 ^ 40 ∧ 0 ≤ tn ∧ tn ≤ (n : Int)
theorem HS.mono {n m : Nat} {H : Hp} {a c : Addr} (h : HS n H a c) (l : n ≤ m) : HS m H a c := by
  obtain ⟨ns, at_, l', sd, tn, h1, h2, h3, h4, h5, h6, h7, h8, h9⟩ := h
  exact ⟨ns, at_, l', sd, tn, h1, h2, h3, h4, h5, h6, h7, h8, by omega⟩
theorem HS.ex {n : Nat} {H H' : Hp} {a c : Addr} (h : HS n H a c) (e : Ex H H') : HS n H' a c := by
  obtain ⟨ns, at_, l', sd, tn, h1, h2, r⟩ := h
  exact ⟨ns, at_, l', sd, tn, e _ _ h1, e _ _ h2, r⟩
theorem HS.sb {n : Nat} {H H' : Hp} {a c d : Addr} (h : HS n H a c) (e : Sb d H H') (h1 : a ≠ d) (h2 : c ≠ d) : HS n H' a c := by
  obtain ⟨ns, at_, l', sd, tn, q1, q2, r⟩ := h
  exact ⟨ns, at_, l', sd, tn, e _ _ h1 q1, e _ _ h2 q2, r⟩
section
variable {P : Program} {w : World} {K : PySem.W.Frag} {vs : List V} {H : Hp} {Q : VK} {E : XK} {te ta tb tk tv : TE} {σ : L2.St} {D : Ends} {tz t1 t2 : TS} {t : TT}
theorem ev_hget {i : Nat} {a : Addr} {kvs : List (Key × V)} {x : Str} {v : V} {α : Type} {R : Rp α} [MonoE R] {y : α} (hv : σ[i]? = some (some (.ref a))) (hd : H a = some (.dK kvs)) (hk : valV kvs (kS x) = some v) (r : R H v y) : EvR R (tDGet (tVar i) (tC (.str x))) σ H y := fun H1 e Q q =>
  ⟨.ref a, hv, a, v, rfl, by have := DGet.k (k := kS x) (e _ _ hd); rw [hk] at this; exact this, q v H1 (Ex.refl _) (MonoE.ex e r)⟩
theorem s_dput {i : Nat} {a : Addr} {kvs : List (Key × V)} {x : Str} {n : Int} (hv : σ[i]? = some (some (.ref a))) (hd : H a = some (.dK kvs)) (hl : kvs.length ≤ 100) (h : EvR RI te σ H n) (k : ∀ H1, Ex H H1 → D.nx σ (upd H1 a (.dK (putK kvs (kS x) (.int n))))) : sDPut (tVar i) (tC (.str x)) te D σ H :=
  h H (Ex.refl H) _ fun v H1 e r => ⟨.ref a, hv, a, _, rfl, by cases r; exact DPut.k (k := kS x) (e _ _ hd) (Nat.lt_of_le_of_lt hl (by decide)), k H1 e⟩
theorem q_dput {i : Nat} {a : Addr} {kvs : List (Key × V)} {x : Str} {n : Int} (hv : σ[i]? = some (some (.ref a))) (hd : H a = some (.dK kvs)) (hl : kvs.length ≤ 100) (h : EvR RI te σ H n) (k : ∀ H1, Ex H H1 → tz D σ (upd H1 a (.dK (putK kvs (kS x) (.int n))))) : tSeq (sDPut (tVar i) (tC (.str x)) te) tz D σ H := s_dput (D := { D with nx := tz D }) hv hd hl h k
theorem q_ifK (J : L2.St → Hp → Prop) {b : Bool} (h : EvT t σ H b) (kj : ∀ σ' H', J σ' H' → tz D σ' H') (h1 : (∀ σ' H', J σ' H' → tz D σ' H') → b = true → ∀ H1, Ex H H1 → t1 { D with nx := tz D } σ H1) (h2 : (∀ σ' H', J σ' H' → tz D σ' H') → b = false → ∀ H1, Ex H H1 → t2 { D with nx := tz D } σ H1) : tSeq (tIfS t t1 t2) tz D σ H := q_if h (h1 kj) (h2 kj)
def spDraw : Sp := fun vs H Q _ => ∃ a c n m, vs = [.ref a, .int m] ∧ HS n H a c ∧ 0 < m ∧ m.natAbs < 2 ^ 200 ∧ n ≤ 100000 ∧ ∀ d H', 0 ≤ d → d < m → Sb a H H' → Im H H' → HS (n + 1) H' a c → Q (.int d) H'
theorem p_draw (h : spDraw vs H Q E) : t__law_draw P w K (Enr Q) (start ["_law_hand_here", "_law_many", "_law_cell", "_law_digit", "_law_number"] vs) H := by
  obtain ⟨a, c, n, m, rfl, hs, m0, m2, hn, k⟩ := h
  have hdv : ∀ i, CDivW i m := fun i => wide_div m0 m2 (by decide) (by decide)
  obtain ⟨ns, at_, l, sd, tn, ha, hc, hns, h1, h2, h3, h4, h5, h6⟩ := hs
  have eC : ∀ {σ : L2.St} {H1}, σ[0]? = some (some (.ref a)) → Ex H H1 → EvR (RL RI) (tDGet (tVar 0) (tC (.str (PySem.Str.ofString "cells")))) σ H1 ns := fun h0 e => ev_hget (v := .ref c) h0 (e _ _ ha) hv_cells ⟨c, _, rfl, e _ _ hc, ints_paired ns⟩
  have eA : ∀ {σ : L2.St} {H1}, σ[0]? = some (some (.ref a)) → Ex H H1 → EvR RI (tDGet (tVar 0) (tC (.str (PySem.Str.ofString "at")))) σ H1 at_ := fun h0 e => ev_hget h0 (e _ _ ha) hv_at rfl
  have eL : ∀ {σ : L2.St} {H1}, σ[0]? = some (some (.ref a)) → Ex H H1 → EvR RI (tDGet (tVar 0) (tC (.str (PySem.Str.ofString "left")))) σ H1 l := fun h0 e => ev_hget h0 (e _ _ ha) hv_left rfl
  have hca : c ≠ a := fun z => by subst z; rw [ha] at hc; cases hc
  refine q_ifK (fun σ' H' => ∃ y at2 l2 sd2, σ' = [some (.ref a), some (.int m), y, none, none] ∧ Sb a H H' ∧ Im H H' ∧ H' a = some (.dK (hvL c at2 l2 sd2 tn)) ∧ 0 ≤ at2 ∧ 0 ≤ l2 ∧ 0 ≤ sd2 ∧ sd2 < 2 ^ 40) (et_and (et_test (ev_eqI (eL rfl (Ex.refl _)) ev_i)) fun _ => et_test (ev_opB (eA rfl (Ex.refl _)) (ev_lenL (eC rfl (Ex.refl _))))) ?_ ?_ ?_
  · rintro σ' H' ⟨y, at2, l2, sd2, rfl, sb, im, ha', g1, g2, g3, g4⟩
    have hc' := sb _ _ hca hc
    have fin : ∀ {H2 : Hp} {l3 tn3 : Int}, Ex H' H2 → 0 ≤ l3 → 0 ≤ tn3 → tn3 ≤ (n : Int) + 1 → HS (n + 1) (upd H2 a (.dK (hvL c at2 l3 sd2 tn3))) a c := fun {H2 l3 tn3} e q1 q2 q3 => ⟨ns, at2, l3, sd2, tn3, upd_same, by rw [upd_ne hca]; exact e _ _ hc', hns, g1, q1, g3, g4, q2, by omega⟩
    have sbm : ∀ {H2 : Hp} {o : HO}, Ex H' H2 → Sb a H (upd H2 a o) := fun e => (sb.trans e.sb).trans Sb.upd
    have imm : ∀ {H2 : Hp} {o : HO}, Ex H' H2 → Im H (upd H2 a o) := fun e => (im.trans e.im).trans (Im.upd (e _ _ ha') rfl)
    refine q_if (b := decide (0 < l2)) (et_test (ev_opB (ev_hget rfl ha' hv_left rfl) ev_i)) (fun hb H1 e1 => ?_) (fun hb H1 e1 => ?_)
    · refine q_seti (n := l2 % m) (ev_opC (ev_int (ev_hget rfl (e1 _ _ ha') hv_left rfl)) (ev_vi rfl) m0) fun H2 e2 => ?_
      refine q_dput (i := 0) rfl ((e1.trans e2) _ _ ha') hv_len (ev_opC (ev_hget rfl ((e1.trans e2) _ _ ha') hv_left rfl) (ev_vi rfl) (hdv _)) fun H3 e3 => ?_
      rw [show (PySem.Str.ofString "left") = ("left" : Str) from rfl, hp_left]
      refine s_ret (ev_vi (i := l2 % m) rfl) fun v H4 e4 r => ?_
      cases r
      have e13 := e1.trans (e2.trans e3)
      exact k _ H4 (Int.emod_nonneg _ (by omega)) (Int.emod_lt_of_pos _ m0) ((sbm e13).trans e4.sb) ((imm e13).trans e4.im) (HS.ex (fin e13 (Int.ediv_nonneg g2 (by omega)) h5 (by omega)) e4)
    · refine q_dput (i := 0) rfl (e1 _ _ ha') hv_len (ev_op0 (ev_hget rfl (e1 _ _ ha') hv_turn rfl) ev_i) fun H2 e2 => ?_
      rw [show (PySem.Str.ofString "turn") = ("turn" : Str) from rfl, hp_turn]
      have e12 := e1.trans e2
      have hh := fin e12 g2 (show 0 ≤ tn + 1 by omega) (by omega)
      have s12 : Sb a H (upd H2 a (.dK (hvL c at2 l2 sd2 (tn + 1)))) := sbm e12
      have i12 : Im H (upd H2 a (.dK (hvL c at2 l2 sd2 (tn + 1)))) := imm e12
      generalize hH3 : upd H2 a (.dK (hvL c at2 l2 sd2 (tn + 1))) = H3 at hh s12 i12
      have ha3 : H3 a = some (.dK (hvL c at2 l2 sd2 (tn + 1))) := by rw [← hH3, upd_same]
      have tb : (tn + 1).natAbs < 2 ^ 17 := by have : (2 : Nat) ^ 17 = 131072 := rfl; omega
      have sb40 : sd2.natAbs < 2 ^ 40 := by have : (2 : Nat) ^ 40 = 1099511627776 := rfl; omega
      have n31 : ∀ {x y : Int}, 0 < y → y ≤ 2147483647 → (x % y).natAbs < 2 ^ 31 := fun {x y} h1 h2 => by
        have := Int.emod_nonneg x (show y ≠ 0 by omega)
        have := Int.emod_lt_of_pos x h1
        have : (2 : Nat) ^ 31 = 2147483648 := rfl
        omega
      have w1 : ((7927 : Int)).natAbs < 2 ^ 13 := by decide
      have w2 : ((48271 : Int)).natAbs < 2 ^ 16 := by decide
      have wsum : (sd2 + 7927 * (tn + 1)).natAbs < 2 ^ 41 := by have : (2 : Nat) ^ 41 = 2199023255552 := rfl; have : (2 : Nat) ^ 40 = 1099511627776 := rfl; omega
      refine q_seti (ev_opC (ev_int (ev_opC (ev_int (ev_op0 (ev_hget rfl ha3 hv_seed rfl) (ev_opC ev_i (ev_hget rfl ha3 hv_turn rfl) (wide_mul w1 tb (by decide) (by decide) (by decide))))) ev_i (wide_mul wsum w2 (by decide) (by decide) (by decide)))) ev_i (by decide)) fun H4 e4 => ?_
      have dv : ∀ {x y : Int}, 0 < y → y ≤ 3000 → CDivW x y := fun h1 h2 => wide_div (b := 12) h1 (by have : (2 : Nat) ^ 12 = 4096 := rfl; omega) (by decide) (by decide)
      have mv : ∀ {x y z : Int}, x.natAbs < 2 ^ 31 → 0 ≤ z → z ≤ 100000 → 0 < y → CMulW x (x / y + z) := fun {x y z} h1 h2 h3 h4 => wide_mul (b := 32) h1 (by have := Int.natAbs_ediv_le_natAbs x y; have : (2 : Nat) ^ 31 = 2147483648 := rfl; have : (2 : Nat) ^ 32 = 4294967296 := rfl; omega) (by decide) (by decide) (by decide)
      refine q_seti (ev_opC (ev_int (ev_opC (ev_vi rfl) (ev_op0 (ev_opC (ev_vi rfl) ev_i (dv (by decide) (by decide))) ev_i) (mv (n31 (by decide) (by decide)) (by decide) (by decide) (by decide)))) ev_i (by decide)) fun H5 e5 => ?_
      refine q_seti (ev_opC (ev_int (ev_op0 (ev_opC (ev_vi rfl) (ev_op0 (ev_opC (ev_vi rfl) ev_i (dv (by decide) (by decide))) ev_i) (mv (n31 (by decide) (by decide)) (by decide) (by decide) (by decide))) (ev_hget rfl ((e4.trans e5) _ _ ha3) hv_turn rfl))) ev_i (by decide)) fun H6 e6 => ?_
      refine s_ret (ev_opC (ev_int (ev_opC (ev_vi rfl) ev_i (dv (by decide) (by decide)))) (ev_vi (i := m) rfl) m0) fun v H7 e7 r => ?_
      cases r
      have e47 := e4.trans (e5.trans (e6.trans e7))
      exact k _ H7 (Int.emod_nonneg _ (by omega)) (Int.emod_lt_of_pos _ m0) (s12.trans e47.sb) (i12.trans e47.im) (hh.ex e47)
  · intro kj hb H1 e1
    simp only [Bool.and_eq_true, decide_eq_true_eq] at hb
    obtain ⟨hl0, hat⟩ := hb
    obtain ⟨j, rfl⟩ := Int.eq_ofNat_of_zero_le h1
    have hj : j < ns.length := by omega
    have hx : ns[j]? = some ns[j] := List.getElem?_eq_getElem hj
    have hx0 : 0 ≤ ns[j] := hns _ (List.getElem_mem hj)
    refine q_seti (n := ns[j]) (ev_ixL (R := RI) (n := j) (eC rfl e1) (eA rfl e1) hx) fun H2 e2 => ?_
    refine q_dput (i := 0) rfl ((e1.trans e2) _ _ ha) hv_len (ev_op0 (eA rfl (e1.trans e2)) ev_i) fun H3 e3 => ?_
    rw [show (PySem.Str.ofString "at") = ("at" : Str) from rfl, hp_at]
    have e13 := e1.trans (e2.trans e3)
    have s13 : Sb a H (upd H3 a (.dK (hvL c ((j : Int) + 1) l sd tn))) := e13.sb.trans Sb.upd
    have i13 : Im H (upd H3 a (.dK (hvL c ((j : Int) + 1) l sd tn))) := e13.im.trans (Im.upd (e13 _ _ ha) rfl)
    generalize hH4 : upd H3 a (.dK (hvL c ((j : Int) + 1) l sd tn)) = H4 at s13 i13
    have ha4 : H4 a = some (.dK (hvL c ((j : Int) + 1) l sd tn)) := by rw [← hH4, upd_same]
    have w3 : ((69621 : Int)).natAbs < 2 ^ 17 := by decide
    have sb40 : sd.natAbs < 2 ^ 40 := by have : (2 : Nat) ^ 40 = 1099511627776 := rfl; omega
    refine q_dput (i := 0) rfl ha4 hv_len (ev_opC (ev_int (ev_op0 (ev_op0 (ev_opC (ev_hget rfl ha4 hv_seed rfl) ev_i (wide_mul sb40 w3 (by decide) (by decide) (by decide))) (ev_vi (i := ns[j]) rfl)) ev_i)) ev_i (by decide)) fun H5 e5 => ?_
    rw [show (PySem.Str.ofString "seed") = ("seed" : Str) from rfl, hp_seed]
    have q1 := Int.emod_nonneg (sd * 69621 + ns[j] + 11) (show (2147483629 : Int) ≠ 0 by decide)
    have q2 := Int.emod_lt_of_pos (sd * 69621 + ns[j] + 11) (show (0 : Int) < 2147483629 by decide)
    generalize (sd * 69621 + ns[j] + 11) % 2147483629 = sd3 at q1 q2
    have s5 : Sb a H (upd H5 a (.dK (hvL c ((j : Int) + 1) l sd3 tn))) := (s13.trans e5.sb).trans Sb.upd
    have i5 : Im H (upd H5 a (.dK (hvL c ((j : Int) + 1) l sd3 tn))) := (i13.trans e5.im).trans (Im.upd (e5 _ _ ha4) rfl)
    generalize hH6 : upd H5 a (.dK (hvL c ((j : Int) + 1) l sd3 tn)) = H6 at s5 i5
    have ha6 : H6 a = some (.dK (hvL c ((j : Int) + 1) l sd3 tn)) := by rw [← hH6, upd_same]
    refine s_dput (n := if 10 ^ 18 ≤ ns[j] then ns[j] else 0) (i := 0) rfl ha6 hv_len ?_ fun H7 e7 => kj _ _ ⟨some (.int ns[j]), (j : Int) + 1, if 10 ^ 18 ≤ ns[j] then ns[j] else 0, sd3, rfl, (s5.trans e7.sb).trans Sb.upd, (i5.trans e7.im).trans (Im.upd (e7 _ _ ha6) rfl), by rw [upd_same, show (PySem.Str.ofString "left") = ("left" : Str) from rfl, hp_left], by omega, by split <;> omega, q1, by have : (2 : Int) ^ 40 = 1099511627776 := rfl; omega⟩
    have hcp : CPow 10 18 := ⟨by decide, by decide, by decide⟩
    by_cases c1 : (10 : Int) ^ 18 ≤ ns[j]
    · rw [if_pos c1]
      exact ev_if (b := true) (et_test (EvR.is (ev_opB (ev_vi (i := ns[j]) rfl) (ev_opC (g := fun i j => i ^ j.toNat) ev_i ev_i hcp)) (decide_eq_true c1))) (fun _ => ev_vi rfl) (fun z => nomatch z)
    · rw [if_neg c1]
      exact ev_if (b := false) (et_test (EvR.is (ev_opB (ev_vi (i := ns[j]) rfl) (ev_opC (g := fun i j => i ^ j.toNat) ev_i ev_i hcp)) (decide_eq_false c1))) (fun z => nomatch z) (fun _ => ev_i)
  · intro kj hb H1 e1
    exact kj _ _ ⟨none, at_, l, sd, rfl, e1.sb, e1.im, e1 _ _ ha, h1, h2, h3, h4⟩
/-- the hand is laid -/
def spHand (K : PySem.W.Frag) : Sp := fun vs H Q _ => ∃ (p : Addr) (ns : List Int), vs = [.ref p] ∧ SqL K H p (ns.map V.int) ∧ ns.length ≤ 100 ∧ ∀ a c H', Ex H H' → HS 0 H' a c → Q (.ref a) H'
theorem p_hand (h : spHand K vs H Q E) : t__law_hand P w K (Enr Q) (start ["_law_script", "_law_cells", "_law_cell"] vs) H := by
  obtain ⟨p, ns, rfl, hsq, hl, k⟩ := h
  have hcut : ∃ ms : List Int, cutV (ns.map V.int) none (some 63) = ms.map V.int ∧ ms.length ≤ 100 := ⟨_, cutV_map ns none (some 63), by rw [List.length_take, List.length_drop]; omega⟩
  obtain ⟨ms, hms, hml⟩ := hcut
  have hlist : EvR (RL RI) (L2.tSl (rSlL K) (tVar 0) tNoPart (tPart (tC (.int 63)))) (start ["_law_script", "_law_cells", "_law_cell"] [.ref p]) H ms := fun H1 e Q q => ⟨.ref p, rfl, 63, rfl, p, _, rfl, sql_ex e hsq, fun d hd => q _ _ (Ex.new hd) ⟨d, _, rfl, upd_same, by rw [hms]; exact ints_paired ms⟩⟩
  refine q_set (R := RL RI) (x := (ms.filter fun _ => true).map fun i => ((i.natAbs : Nat) : Int)) (ev_lcL (R := RI) (S := RI) hlist (by omega) (fun _ => rfl) (fun _ => true) (fun i => ((i.natAbs : Nat) : Int)) (fun v x H1 e m r => et_yes) (fun v x H1 e m r _ => ev_abs (ev_int (ev_var (R := RI) (x := x) rfl r)))) fun v H1 e1 r => ?_
  rw [List.filter_eq_self.mpr (fun _ _ => rfl)] at r
  obtain ⟨c, us, rfl, hc, pc⟩ := r
  have e2 := paired_ints pc
  subst e2
  intro a ha
  have ex := Ex.new (o := .dK []) ha
  refine ⟨.ref c, rfl, ?_⟩
  refine (ev_op0 ev_i (ev_lenL (R := RI) (xs := ms.map fun i => ((i.natAbs : Nat) : Int)) (ev_var (n := 1) rfl ⟨c, _, rfl, ex _ _ hc, ints_paired _⟩))) _ (Ex.refl _) _ fun vv H3 e3 r3 => ?_
  cases r3
  refine ⟨e3 _ _ upd_same, hvL c 0 0 (40961 + ((ms.map fun i => ((i.natAbs : Nat) : Int)).length : Int)) 0, rfl, (show 5 ≤ 15 by decide), ?_⟩
  refine k a c _ ((e1.trans (ex.trans e3)).mut (e1.back ha)) ⟨ms.map fun i => ((i.natAbs : Nat) : Int), 0, 0, _, 0, upd_same, ?_, fun x hx => ?_, by decide, by decide, by omega, ?_, by decide, by decide⟩
  · rw [upd_ne (ne_of_none hc ha)]
    exact e3 _ _ (ex _ _ hc)
  · obtain ⟨i, _, rfl⟩ := List.mem_map.mp hx
    omega
  · rw [List.length_map]
    have : (2 : Int) ^ 40 = 1099511627776 := rfl
    omega
end
end Bx

set_option Elab.async false
set_option linter.all false
set_option maxRecDepth 100000
set_option maxHeartbeats 2000000
namespace Bx
open PySem PySem.Spec PyProof.Rows L2
/-- what _law_parts gives -/
structure PaOk (many most terms : Nat) (xs : Tms) : Prop where
  kys : Kys xs
  len : xs.length ≤ terms
  nz : ∀ e ∈ xs, e.2 ≠ 0 ∧ e.2.natAbs ≤ 10 ^ 25
  pw : ∀ e ∈ xs, ∀ k, 0 ≤ gd e.1 k ∧ gd e.1 k ≤ (most : Int) ∧ (many ≤ k → gd e.1 k = 0)
/-- what _law_stretch gives -/
def StrOk (s : Stretch) : Prop := ∃ b l wd : Int, 1 ≤ b ∧ b ≤ 1000000 ∧ -9 * b ≤ l ∧ l < 9 * b ∧ 1 ≤ wd ∧ wd ≤ 9 * b ∧ s = (Rat.divInt l b, Rat.divInt (l + wd) b)
section
variable {α : Type} {P : Program} {w : World} {K : PySem.W.Frag} {vs : List V} {H : Hp} {Q : VK} {E : XK} {te ta tb tk tv tm tl : TE} {σ : L2.St} {D : Ends} {tz tu : TS} {t : TT} {a c : Addr} {n : Nat}
theorem pl_asg {g : TG} (h : te σ H fun x H1 => g x σ H1 (tz D)) : tSeq (tAsg te g) tz D σ H := h
theorem pl_gn {i : Nat} {v : V} {Q : L2.St → Hp → Prop} (h : Q (σ.set i (some v)) H) : gName i v σ H Q := h
theorem pl_c {v : V} (h : Q v H) : tC v σ H Q := h
theorem pl_call2 {sp : Sp} {i : Nat} {v : V} (hv : σ[i]? = some (some v)) (h : tb σ H fun y H1 => sp [v, y] H1 Q E0) : tCall sp [] E0 (tCons (tVar i) (tCons tb tNil)) σ H Q := ⟨v, hv, h⟩
theorem pl_op {r : R2} (h : ta σ H fun x H1 => tb σ H1 fun y H2 => r x y H2 Q) : tOp r ta tb σ H Q := h
theorem pl_cb1 {r : List V → Hp → VK → Prop} (h : te σ H fun x H1 => r [x] H1 Q) : tCB r (tCons te tNil) σ H Q := h
theorem pl_ret (h : te σ H D.rt) : tRet te D σ H := h
theorem draw_k {i : Nat} {m : Int} (hv : σ[i]? = some (some (.ref a))) (hs : HS n H a c) (hm : EvR RI tm σ H m) (m0 : 0 < m) (m2 : m.natAbs < 2 ^ 200) (hn : n ≤ 100000) (k : ∀ d H', 0 ≤ d → d < m → Sb a H H' → Im H H' → HS (n + 1) H' a c → Q (.int d) H') :
    tCall spDraw [] E0 (tCons (tVar i) (tCons tm tNil)) σ H Q :=
  ⟨.ref a, hv, hm H (Ex.refl H) _ fun v H1 e r => by
    cases r
    exact ⟨a, c, n, m, rfl, hs.ex e, m0, m2, hn, fun d H' d0 dm sb im h => k d H' d0 dm (e.sb.trans sb) (e.im.trans im) h⟩⟩
def spAny : Sp := fun vs H Q _ => ∃ a c n v xs, vs = [.ref a, v] ∧ HS n H a c ∧ RL RI H v xs ∧ xs ≠ [] ∧ xs.length ≤ 100 ∧ n ≤ 100000 ∧ ∀ x H', x ∈ xs → Sb a H H' → Im H H' → HS (n + 1) H' a c → Q (.int x) H'
theorem p_any (h : spAny vs H Q E) : t__law_any P w K spDraw (Enr Q) (start ["_law_hand_here", "_law_things"] vs) H := by
  obtain ⟨a, c, n, v, xs, rfl, hs, ⟨l, us, rfl, hl, pl⟩, h0, h1, hn, k⟩ := h
  have e2 := paired_ints pl
  subst e2
  have hpos : 0 < xs.length := List.length_pos_iff.mpr h0
  refine ⟨.ref l, rfl, draw_k (m := (xs.length : Int)) (i := 0) rfl hs (ev_lenL (R := RI) (xs := xs) (ev_var (n := 1) rfl ⟨l, _, rfl, hl, ints_paired xs⟩)) (by omega) ?_ hn fun d H' d0 dm sb im hs' => ?_⟩
  · have : (2 : Nat) ^ 7 = 128 := rfl
    exact Nat.lt_of_lt_of_le (show _ < 2 ^ 7 by omega) (pow_t _ _ (by decide))
  · obtain ⟨j, rfl⟩ := Int.eq_ofNat_of_zero_le d0
    have hj : j < xs.length := by omega
    have hne : l ≠ a := by
      obtain ⟨_, _, _, _, _, ha, _⟩ := hs
      intro z; subst z; rw [hl] at ha; cases ha
    exact ⟨l, _, (j : Int), .int xs[j], rfl, rfl, .inl (.inl (sb _ _ hne hl)), atI_nat (by rw [List.getElem?_map, List.getElem?_eq_getElem hj]; rfl), k _ H' (List.getElem_mem hj) sb im hs'⟩
theorem any_k {i : Nat} {xs : List Int} (hv : σ[i]? = some (some (.ref a))) (hs : HS n H a c) (hl : EvR (RL RI) tl σ H xs) (h0 : xs ≠ []) (h1 : xs.length ≤ 100) (hn : n ≤ 100000) (k : ∀ x H', x ∈ xs → Sb a H H' → Im H H' → HS (n + 1) H' a c → Q (.int x) H') :
    tCall spAny [] E0 (tCons (tVar i) (tCons tl tNil)) σ H Q :=
  ⟨.ref a, hv, hl H (Ex.refl H) _ fun v H1 e r => ⟨a, c, n, v, xs, rfl, hs.ex e, r, h0, h1, hn, fun x H' hx sb im h => k x H' hx (e.sb.trans sb) (e.im.trans im) h⟩⟩
/-- a list made, the hand drawn from meanwhile -/
theorem eh_lcR {R : Rp α} [Mono R] {good : Nat → α → Prop} {m st j : Nat} {tn : TE} {ws : List Nat} (hn : EvR RI tn σ H (m : Int)) (hm : m ≤ 100) (hw : ∀ x, wipe ((wipe σ ws).set j (some x)) ws = wipe σ ws) (hs : HS n H a c)
    (he : ∀ i H', i < m → Sb a H H' → Im H H' → HS (n + i * st) H' a c → ∀ Q : VK, (∀ y x H4, Sb a H' H4 → Im H' H4 → HS (n + (i + 1) * st) H4 a c → R H4 y x → good i x → Q y H4) → te ((wipe σ ws).set j (some (.int (i : Int)))) H' Q)
    (k : ∀ D acc xs H', Sb a H H' → Im H H' → HS (n + m * st) H' a c → H D = none → H' D = some (.lst acc) → Paired (R H') acc xs → xs.length = m → (∀ i x, xs[i]? = some x → good i x) → Q (.ref D) H') : tLc (iRng1 (tCons tn tNil)) (gName j) tYes te ws σ H Q :=
  hn H (Ex.refl H) _ fun v H1 e1 r => ⟨(m : Int), by cases r; rfl, by omega, by omega, fun D hD => by
    have hDH := e1.back hD
    have wk := walk_range (lo := 0) (n := m)
    rw [show ((m : Int)).toNat = m by omega]
    have haD : ∀ {k H'}, HS k H' a c → H' D = some (.lst []) → a ≠ D := fun {k H'} h z e => by
      obtain ⟨_, _, _, _, _, ha, _⟩ := h
      subst e; rw [z] at ha; cases ha
    have haD : a ≠ D := by
      obtain ⟨_, _, _, _, _, ha, _⟩ := hs.ex e1
      intro z; subst z; rw [hD] at ha; cases ha
    have hcD : c ≠ D := by
      obtain ⟨_, _, _, _, _, _, hc, _⟩ := hs.ex e1
      intro z; subst z; rw [hD] at hc; cases hc
    refine lc_it wk (fun i H' => Sb a H H' ∧ Im H H' ∧ HS (n + i * st) H' a c ∧ ∃ acc xs, H' D = some (.lst acc) ∧ Paired (R H') acc xs ∧ xs.length = i ∧ ∀ i x, xs[i]? = some x → good i x) ?_ (fun _ _ _ _ => True.intro) ?_ ?_
    · refine ⟨(e1.trans (Ex.new hD)).sb, (e1.trans (Ex.new hD)).im, ?_, [], [], upd_same, .nil, rfl, fun i x h => by simp at h⟩
      rw [Nat.zero_mul]
      exact (hs.ex e1).ex (Ex.new hD)
    · rintro i x H' H'' hi ⟨sb, im, hs', acc, xs, hd, p, hl, hg⟩ ⟨rfl, rfl⟩
      refine ⟨hw _, yes_if ?_⟩
      show te ((wipe σ ws).set j (some (.int ((0 : Int) + (i : Int))))) H'' _
      rw [Int.zero_add]
      refine he i H'' hi sb im hs' _ fun y x H4 sb4 im4 hs4 ry gx => ?_
      have hd4 : H4 D = some (.lst acc) := sb4 _ _ (Ne.symm haD) hd
      have im5 : Im H4 (upd H4 D (.lst (acc ++ [y]))) := Im.upd hd4 rfl
      refine ⟨acc, hd4, ?_, fun b o n h => ?_, (im.trans im4).trans im5, hs4.sb (d := D) Sb.upd haD hcD, acc ++ [y], xs ++ [x], upd_same, Paired.app (Paired.imp p fun _ _ r => Mono.im (im4.trans im5) r) (.cons (Mono.im im5 ry) .nil), by rw [List.length_append, hl]; rfl, fun j z hz => ?_⟩
      · rw [Paired.length p, hl]
        exact Nat.lt_of_lt_of_le hi (Nat.le_trans hm (by decide))
      · rw [upd_ne (ne_of_none h hDH)]
        exact sb4 _ _ n (sb _ _ n h)
      · by_cases c1 : j < xs.length
        · rw [List.getElem?_append_left c1] at hz; exact hg j z hz
        · rw [List.getElem?_append_right (by omega)] at hz
          have hj : j = xs.length := by
            have := (List.getElem?_eq_some_iff.mp hz).1
            simp at this
            omega
          subst hj
          simp at hz
          subst hz
          rw [hl]; exact gx
    · rintro H' ⟨sb, im, hs', acc, xs, hd, p, hl, hg⟩
      exact k D acc xs H' sb im hs' hDH hd p hl hg⟩
theorem divInt_lt {l m b : Int} (hb : 0 < b) (h : l < m) : Rat.divInt l b < Rat.divInt m b := by
  have hb2 : (b : Int) ≠ 0 := by omega
  rw [Rat.lt_iff]
  have e1 : ∀ x : Int, ((Rat.divInt x b).num) * b = x * ((Rat.divInt x b).den : Int) := fun x => by
    have h := Rat.num_divInt_den (Rat.divInt x b)
    have hd : ((Rat.divInt x b).den : Int) ≠ 0 := by have := (Rat.divInt x b).den_pos; omega
    exact (Rat.divInt_eq_divInt_iff hd hb2).mp h
  have dl : (0 : Int) < ((Rat.divInt l b).den : Int) := by have := (Rat.divInt l b).den_pos; omega
  have dm : (0 : Int) < ((Rat.divInt m b).den : Int) := by have := (Rat.divInt m b).den_pos; omega
  have h1 := e1 l
  have h2 := e1 m
  have h3 : l * ((Rat.divInt l b).den : Int) * ((Rat.divInt m b).den : Int) < m * ((Rat.divInt l b).den : Int) * ((Rat.divInt m b).den : Int) := by
    have := Int.mul_lt_mul_of_pos_right h (Int.mul_pos dl dm)
    rw [Int.mul_assoc, Int.mul_assoc]; exact this
  have h4 : (Rat.divInt l b).num * b * ((Rat.divInt m b).den : Int) < (Rat.divInt m b).num * b * ((Rat.divInt l b).den : Int) := by
    rw [h1, h2]
    calc l * ((Rat.divInt l b).den : Int) * ((Rat.divInt m b).den : Int) < m * ((Rat.divInt l b).den : Int) * ((Rat.divInt m b).den : Int) := h3
      _ = m * ((Rat.divInt m b).den : Int) * ((Rat.divInt l b).den : Int) := by grind
  have h5 : b * ((Rat.divInt l b).num * ((Rat.divInt m b).den : Int)) < b * ((Rat.divInt m b).num * ((Rat.divInt l b).den : Int)) := by
    calc b * ((Rat.divInt l b).num * ((Rat.divInt m b).den : Int)) = (Rat.divInt l b).num * b * ((Rat.divInt m b).den : Int) := by grind
      _ < _ := h4
      _ = b * ((Rat.divInt m b).num * ((Rat.divInt l b).den : Int)) := by grind
  exact Int.lt_of_mul_lt_mul_left h5 (by omega)
theorem StrOk.lt {s : Stretch} (h : StrOk s) : s.1 < s.2 := by
  obtain ⟨b, l, wd, h1, h2, h3, h4, h5, h6, rfl⟩ := h
  exact divInt_lt (by omega) (by omega)
theorem StrOk.bq {s : Stretch} (h : StrOk s) : Bq 25 s.1 ∧ Bq 25 s.2 ∧ s.1.den ≤ 1000000 ∧ s.2.den ≤ 1000000 := by
  obtain ⟨b, l, wd, h1, h2, h3, h4, h5, h6, rfl⟩ := h
  have t : (2 : Nat) ^ 25 = 33554432 := rfl
  refine ⟨bq_divInt (by omega) (by omega) (by omega), bq_divInt (by omega) (by omega) (by omega), ?_, ?_⟩
  · have := den_le l b (by omega); show (Rat.divInt l b).den ≤ _; omega
  · have := den_le (l + wd) b (by omega); show (Rat.divInt (l + wd) b).den ≤ _; omega
/-! ### _law_stretch, _law_box -/
def spStr (K : PySem.W.Frag) : Sp := fun vs H Q _ => ∃ a c n, vs = [.ref a] ∧ HS n H a c ∧ n ≤ 90000 ∧ ∀ v s H', Sb a H H' → Im H H' → HS (n + 5) H' a c → RS K H' v s → StrOk s → Q v H'
theorem small200 {m : Int} (h0 : 0 ≤ m) (h : m ≤ 1000000000) : m.natAbs < 2 ^ 200 := by
  have : (2 : Nat) ^ 30 = 1073741824 := rfl
  exact Nat.lt_of_lt_of_le (show _ < 2 ^ 30 by omega) (pow_t _ _ (by decide))
theorem p_stretch (h : spStr K vs H Q E) : t__law_stretch P w K (spLow K) spAny spDraw (Enr Q) (start ["_law_hand_here", "_law_bottom", "_law_low_here", "_law_wide"] vs) H := by
  obtain ⟨a, c, n, rfl, hs, hn, k⟩ := h
  have p6 : CPow 10 6 := ⟨by decide, by decide, by decide⟩
  refine pl_asg ?_
  refine any_k (i := 0) (xs := [1, 1, 1, 2, 3, 7, 10 ^ 6]) rfl hs (ev_list (el_cons ev_i (el_cons ev_i (el_cons ev_i (el_cons ev_i (el_cons ev_i (el_cons ev_i (el_cons (ev_opC (g := fun i j => i ^ j.toNat) ev_i ev_i p6) el_nil))))))) (by simp)) (by simp) (by simp) (by omega) fun b H1 hb sb1 im1 hs1 => ?_
  have hb : 1 ≤ b ∧ b ≤ 1000000 := by simp at hb; omega
  refine pl_gn (pl_asg (pl_op ?_))
  refine draw_k (i := 0) (m := 9 * b) rfl hs1 (ev_opC ev_i (ev_vi rfl) (wide_mul (a := 4) (b := 30) (by decide) (by have : (2 : Nat) ^ 30 = 1073741824 := rfl; omega) (by decide) (by decide) (by decide))) (by omega) (small200 (by omega) (by omega)) (by omega) fun x H2 x0 x1 sb2 im2 hs2 => ?_
  refine any_k (i := 0) (xs := [0, 4, 4, 9]) rfl hs2 (ev_list (el_cons ev_i (el_cons ev_i (el_cons ev_i (el_cons ev_i el_nil)))) (by simp)) (by simp) (by simp) (by omega) fun y H3 hy sb3 im3 hs3 => ?_
  have hy : 0 ≤ y ∧ y ≤ 9 := by simp at hy; omega
  have hyb : 0 ≤ y * b ∧ y * b ≤ 9 * b := ⟨Int.mul_nonneg hy.1 (by omega), Int.mul_le_mul_of_nonneg_right hy.2 (by omega)⟩
  refine (ev_vi (i := b) rfl) H3 (Ex.refl _) _ fun u H4 e4 ru => ⟨y, b, rfl, ru, wide_mul (a := 4) (b := 30) (by have : (2 : Nat) ^ 4 = 16 := rfl; omega) (by have : (2 : Nat) ^ 30 = 1073741824 := rfl; omega) (by decide) (by decide) (by decide), ⟨x, y * b, rfl, rfl, ?_⟩⟩
  have hs4 := hs3.ex e4
  have big : ∀ {m : Int}, 0 ≤ m → m ≤ 9000000 → m.natAbs < 2 ^ 30 := fun h0 h => by have : (2 : Nat) ^ 30 = 1073741824 := rfl; omega
  refine pl_gn (pl_asg (pl_op (pl_c (pl_call2 rfl ?_))))
  refine any_k (i := 0) (xs := [1, b, 3 * b, 9 * b]) rfl hs4 (ev_list (el_cons ev_i (el_cons (ev_vi rfl) (el_cons (ev_opC ev_i (ev_vi rfl) (wide_mul (a := 4) (b := 30) (by decide) (big (by omega) (by omega)) (by decide) (by decide) (by decide))) (el_cons (ev_opC ev_i (ev_vi rfl) (wide_mul (a := 4) (b := 30) (by decide) (big (by omega) (by omega)) (by decide) (by decide) (by decide))) el_nil)))) (by simp)) (by simp) (by simp) (by omega) fun z H5 hz sb5 im5 hs5 => ?_
  have hz : 1 ≤ z ∧ z ≤ 9 * b := by simp at hz; omega
  refine ⟨a, c, n + 1 + 1 + 1 + 1, z, rfl, hs5, by omega, small200 (by omega) (by omega), by omega, fun d H6 d0 dz sb6 im6 hs6 => ⟨1, d, rfl, rfl, ?_⟩⟩
  have sb16 : Sb a H H6 := sb1.trans (sb2.trans (sb3.trans (e4.sb.trans (sb5.trans sb6))))
  have im16 : Im H H6 := im1.trans (im2.trans (im3.trans (e4.im.trans (im5.trans im6))))
  have b9 : b.natAbs < 2 ^ 9000 := Nat.lt_of_lt_of_le (big (by omega) (by omega)) (pow_t _ _ (by decide))
  refine s_ret (ev_pair (K := K) (R := RQ K) (S := RQ K) (e_low (x := x - y * b) (y := b) (ev_vi rfl) (ev_vi rfl) (by omega) b9) (e_low (x := x - y * b + (1 + d)) (y := b) (ev_op0 (ev_vi rfl) (ev_vi rfl)) (ev_vi rfl) (by omega) b9)) fun v H7 e7 r7 => ?_
  exact k v _ H7 (sb16.trans e7.sb) (im16.trans e7.im) ((hs6.mono (by omega)).ex e7) r7 ⟨b, x - y * b, 1 + d, by omega, by omega, by omega, by omega, by omega, by omega, rfl⟩
def spBox (K : PySem.W.Frag) : Sp := fun vs H Q _ => ∃ a c n m, vs = [.ref a, .int m] ∧ HS n H a c ∧ 0 ≤ m ∧ m ≤ 3 ∧ n ≤ 80000 ∧ ∀ v bx H', Sb a H H' → Im H H' → HS (n + 15) H' a c → RT K (RS K) H' v bx → bx.length = m.toNat → (∀ s ∈ bx, StrOk s) → Q v H'
theorem p_box (h : spBox K vs H Q E) : t__law_box P w K (spStr K) (Enr Q) (start ["_law_hand_here", "_law_many", "_law_k"] vs) H := by
  obtain ⟨a, c, n, m, rfl, hs, m0, m3, hn, k⟩ := h
  obtain ⟨m, rfl⟩ := Int.eq_ofNat_of_zero_le m0
  refine pl_ret (pl_cb1 ?_)
  refine eh_lcR (R := RS K) (good := fun _ s => StrOk s) (st := 5) (m := m) (a := a) (c := c) (n := n) (ev_vi rfl) (by omega) (fun _ => rfl) hs (fun i H' hi sb im hs' Q q => ⟨.ref a, rfl, a, c, n + i * 5, rfl, hs', by omega, fun v s H4 sb4 im4 hs4 rs gs => q v s H4 sb4 im4 (hs4.mono (by omega)) rs gs⟩) fun D acc xs H' sb im hs' hD hd p hl hg => ?_
  refine ⟨D, acc, rfl, .inl ⟨.inl (.inl hd), fun l hl' => ?_⟩⟩
  have e := Ex.new (o := .tup acc) hl'
  refine k _ xs _ (sb.trans e.sb) (im.trans e.im) ((hs'.mono (by omega)).ex e) ⟨l, acc, rfl, .inl upd_same, Paired.imp p fun _ _ r => MonoE.ex e r⟩ (by rw [hl]; omega) fun s hs2 => ?_
  obtain ⟨i, hi, e2⟩ := List.mem_iff_getElem.mp hs2
  exact hg i s (by rw [List.getElem?_eq_getElem hi, e2])
/-! ### _law_parts -/
def spPa (P : Program) (w : World) (K : PySem.W.Frag) : Sp := fun vs H Q _ => ∃ a c n many most terms, vs = [.ref a, .int many, .int most, .int terms] ∧ HS n H a c ∧ 0 ≤ many ∧ many ≤ 4 ∧ 0 ≤ most ∧ most ≤ 60 ∧ 1 ≤ terms ∧ terms ≤ 5 ∧ n ≤ 80000 ∧
  ∀ d es xs H', Sb a H H' → Im H H' → HS (n + 40) H' a c → H d = none → H' d = some (DO P w d es) → EnS K RI H' es xs → PaOk many.toNat most.toNat terms.toNat xs → Q (.ref d) H'
theorem q_forRC {j : Nat} {Pn : Int → Hp → Prop} (h : ∀ Q : VK, (∀ n H1, Pn n H1 → Q (.int n) H1) → te σ H Q) (hn : ∀ n H1, Pn n H1 → -1000000 ≤ n ∧ n ≤ 1000000) (k : ∀ n H1, Pn n H1 → ∃ Pv : Nat → L2.St → Hp → Prop, Pv 0 σ H1 ∧
    (∀ (i : Nat) σ' H', (i : Int) < n → Pv i σ' H' → tu { D with nx := Pv (i + 1), ct := Pv (i + 1), bk := tz D } (σ'.set j (some (.int (i : Int)))) H') ∧ (∀ σ' H', Pv n.toNat σ' H' → tz D σ' H')) : tSeq (tFor (iRng1 (tCons te tNil)) (gName j) tu) tz D σ H :=
  h _ fun n H1 p => by
    obtain ⟨Pv, h0, hs, hd⟩ := k n H1 p
    have hb := hn n H1 p
    refine ⟨n, rfl, by omega, by omega, for_range (lo := 0) (n := n.toNat) (D := { D with nx := tz D }) Pv h0 (fun i σ' H' hi p => ?_) hd⟩
    have e0 : (0 : Int) + (i : Int) = (i : Int) := Int.zero_add _
    show tu _ (σ'.set j (some (.int ((0 : Int) + (i : Int))))) H'
    rw [e0]
    exact hs i σ' H' (by omega) p
theorem s_xputC {Pn : V → Hp → Prop} (h : ∀ Q : VK, (∀ v H1, Pn v H1 → Q v H1) → tv σ H Q) (k : ∀ v H1, Pn v H1 → sXPut P w K ta tk (tC v) D σ H1) : sXPut P w K ta tk tv D σ H := h _ fun v H1 p => k v H1 p
theorem gd_out {p : List Int} {k : Nat} (h : p.length ≤ k) : gd p k = 0 := by
  unfold gd
  rw [List.getD_eq_getElem?_getD, List.getElem?_eq_none h]; rfl
theorem p_parts (h : spPa P w K vs H Q E) : t__law_parts P w K spDraw spAny (Enr Q) (start ["_law_hand_here", "_law_many", "_law_most", "_law_terms", "_law_great", "_law_found", "_law_k", "_law_powers", "_law_count", "_law_u"] vs) H := by
  obtain ⟨a, c, n, many, most, terms, rfl, hs, m0, m4, o0, o60, t1, t5, hn, k⟩ := h
  obtain ⟨many, rfl⟩ := Int.eq_ofNat_of_zero_le m0
  obtain ⟨most, rfl⟩ := Int.eq_ofNat_of_zero_le o0
  obtain ⟨terms, rfl⟩ := Int.eq_ofNat_of_zero_le (show 0 ≤ terms by omega)
  have p25 : CPow 10 25 := ⟨by decide, by decide, by decide⟩
  -- the greatest count
  have rest : ∀ (g : Int) (H1 : Hp), 1 ≤ g → g ≤ 10 ^ 25 → Sb a H H1 → Im H H1 → HS (n + 2) H1 a c →
      (tSeq (tAsg (tXNew P w) (gName 5))
    (tSeq (tFor (iRng1 (tCons (tOp (rI0 fun i j => .int (i + j)) (tC (.int 1)) (tCall spDraw [] E0 (tCons (tVar 0) (tCons (tVar 3) tNil)))) tNil)) (gName 6) (tSeq (tAsg (tCB (fun xs H Q => ∃ p ys, xs = [.ref p] ∧ ((SqL K H p ys ∧ ∀ l, H l = none → Q (.ref l) (upd H l (.tup ys))) ∨ (SqT K H p ys ∧ Q (.ref p) H))) (tCons (tLc (iRng1 (tCons (tC (.int 4)) tNil)) (gName 9) tYes (tIf (tTest (tOp (rI0 fun i j => .bl (decide (i < j))) (tVar 9) (tVar 1))) (tCall spDraw [] E0 (tCons (tVar 0) (tCons (tOp (rI0 fun i j => .int (i + j)) (tVar 2) (tC (.int 1))) tNil))) (tC (.int 0))) [9]) tNil)) (gName 7))
    (tSeq (tAsg (tOp (rI0 fun i j => .int (i + j)) (tC (.int 1)) (tCall spDraw [] E0 (tCons (tVar 0) (tCons (tVar 4) tNil)))) (gName 8))
    (sXPut P w K (tVar 5) (tVar 7) (tIf (tTest (tOp rEq (tCall spDraw [] E0 (tCons (tVar 0) (tCons (tC (.int 2)) tNil))) (tC (.int 0)))) (tVar 8) (tUn (rU fun i => .int (-i)) (tVar 8)))))))
    (tRet (tVar 5)))) (Enr Q) [some (.ref a), some (.int many), some (.int most), some (.int terms), some (.int g), none, none, none, none, none] H1 := by
    intro g H1 g1 g2 sb1 im1 hs1
    have g200 : g.natAbs < 2 ^ 200 := by
      have : (2 : Nat) ^ 84 = 19342813113834066795298816 := by decide
      have : (10 : Int) ^ 25 = 10000000000000000000000000 := by decide
      exact Nat.lt_of_lt_of_le (show _ < 2 ^ 84 by omega) (pow_t _ _ (by decide))
    refine q_new fun d hd0 => ?_
    have hda : d ≠ a := by
      obtain ⟨_, _, _, _, _, ha, _⟩ := hs1
      intro z; subst z; rw [hd0] at ha; cases ha
    have hdc : d ≠ c := by
      obtain ⟨_, _, _, _, _, _, hc, _⟩ := hs1
      intro z; subst z; rw [hd0] at hc; cases hc
    have hdH : H d = none := by
      cases q : H d with
      | none => rfl
      | some o => rw [sb1 _ _ hda q] at hd0; cases hd0
    have e2 : Ex H1 (upd H1 d (DO P w d [])) := Ex.new hd0
    have hs2 := hs1.ex e2
    refine q_forRC (Pn := fun x H3 => 1 ≤ x ∧ x ≤ (terms : Int) ∧ Sb a (upd H1 d (DO P w d [])) H3 ∧ Im (upd H1 d (DO P w d [])) H3 ∧ HS (n + 3) H3 a c) (fun Q q => ?_) (fun x H3 h => by omega) fun x H3 ⟨x1, x2, sb3, im3, hs3⟩ => ?_
    · exact draw_k (i := 0) (m := (terms : Int)) rfl hs2 (ev_vi rfl) (by omega) (small200 (by omega) (by omega)) (by omega) fun y H3 y0 y1 sb im hs' => ⟨1, y, rfl, rfl, q (1 + y) H3 ⟨by omega, by omega, sb, im, hs'⟩⟩
    have hd3 : H3 d = some (DO P w d []) := sb3 _ _ hda upd_same
    refine ⟨fun i σ' H' => ∃ y6 y7 y8 es xs, σ' = [some (.ref a), some (.int many), some (.int most), some (.int terms), some (.int g), some (.ref d), y6, y7, y8, none] ∧ (∀ b o, b ≠ a → b ≠ d → H1 b = some o → H' b = some o) ∧ Im H1 H' ∧ HS (n + 3 + i * 7) H' a c ∧ H' d = some (DO P w d es) ∧ EnS K RI H' es xs ∧ PaOk many most i xs, ?_, ?_, ?_⟩
    · refine ⟨none, none, none, [], [], rfl, fun b o n1 n2 h => sb3 _ _ n1 (e2 _ _ h), e2.im.trans im3, by rw [Nat.zero_mul]; exact hs3, hd3, .nil, ⟨Kys.nil, Nat.le_refl _, (fun _ h => nomatch h), (fun _ h => nomatch h)⟩⟩
    · rintro i σ' H' hi ⟨y6, y7, y8, es, xs, rfl, kp, im, hs', hd', s', pa⟩
      have hi5 : i < 5 := by omega
      refine pl_asg (pl_cb1 ?_)
      refine eh_lcR (R := RI) (good := fun j (x : Int) => 0 ≤ x ∧ x ≤ (most : Int) ∧ (many ≤ j → x = 0)) (st := 1) (m := 4) (a := a) (c := c) (n := n + 3 + i * 7) ev_i (by decide) (fun _ => rfl) hs' (fun j H4 hj sb4 im4 hs4 Q q => ?_) fun DD acc ps H4 sb4 im4 hs4 hD hd4 p hl hg => ?_
      · by_cases cj : j < many
        · refine (et_test (EvR.is (ev_opB (ev_vi (i := (j : Int)) rfl) (ev_vi (i := (many : Int)) rfl)) (decide_eq_true (by omega)))) H4 (Ex.refl _) _ fun H5 e5 => ?_
          refine iteT ?_
          refine draw_k (i := 0) (m := (most : Int) + 1) rfl (hs4.ex e5) (ev_op0 (ev_vi rfl) ev_i) (by omega) (small200 (by omega) (by omega)) (by omega) fun x H6 x0 x1 sb6 im6 hs6 => ?_
          exact q (.int x) x H6 (e5.sb.trans sb6) (e5.im.trans im6) (hs6.mono (by omega)) rfl ⟨x0, by omega, fun z => by omega⟩
        · refine (et_test (EvR.is (ev_opB (ev_vi (i := (j : Int)) rfl) (ev_vi (i := (many : Int)) rfl)) (decide_eq_false (by omega)))) H4 (Ex.refl _) _ fun H5 e5 => ?_
          refine iteF ?_
          exact q (.int 0) 0 H5 e5.sb e5.im ((hs4.ex e5).mono (by omega)) rfl ⟨by omega, by omega, fun _ => rfl⟩
      refine ⟨DD, acc, rfl, .inl ⟨.inl (.inl hd4), fun l hl' => ?_⟩⟩
      have e5 := Ex.new (o := .tup acc) hl'
      have rp : RN K (upd H4 l (.tup acc)) (.ref l) ps := ⟨l, acc, rfl, .inl upd_same, Paired.imp p fun _ _ r => r⟩
      have hd5 : (upd H4 l (.tup acc)) d = some (DO P w d es) := e5 _ _ (sb4 _ _ hda hd')
      refine pl_gn (pl_asg (pl_op (pl_c ?_)))
      refine draw_k (i := 0) (m := g) rfl (hs4.ex e5) (ev_vi rfl) (by omega) g200 (by omega) fun x H6 x0 x1 sb6 im6 hs6 => ⟨1, x, rfl, rfl, ?_⟩
      have hd6 : H6 d = some (DO P w d es) := sb6 _ _ hda hd5
      have hps : ps.length = 4 := hl
      refine pl_gn ?_
      refine s_xputC (Pn := fun v H7 => ∃ z : Int, v = .int z ∧ z ≠ 0 ∧ z.natAbs ≤ 10 ^ 25 ∧ Sb a H6 H7 ∧ Im H6 H7 ∧ HS (n + 3 + (i + 1) * 7) H7 a c) (fun Q q => ?_) ?_
      · refine draw_k (i := 0) (m := 2) rfl hs6 ev_i (by decide) (by decide) (by omega) fun y H7 y0 y1 sb7 im7 hs7 => ⟨rfl, decide (V.int y = V.int 0), rfl, ?_⟩
        have hz : (1 + x).natAbs ≤ 10 ^ 25 := by
          have t1 : (10 : Nat) ^ 25 = 10000000000000000000000000 := by decide
          have t2 : (10 : Int) ^ 25 = 10000000000000000000000000 := by decide
          omega
        by_cases cy : V.int y = V.int 0
        · rw [decide_eq_true cy]
          refine iteT ⟨_, rfl, ?_⟩
          exact q _ H7 ⟨1 + x, rfl, by omega, hz, sb7, im7, hs7.mono (by omega)⟩
        · rw [decide_eq_false cy]
          refine iteF ⟨_, rfl, 1 + x, rfl, ?_⟩
          exact q _ H7 ⟨-(1 + x), rfl, by omega, by rw [Int.natAbs_neg]; exact hz, sb7, im7, hs7.mono (by omega)⟩
      · rintro v H7 ⟨z, rfl, z0, z25, sb7, im7, hs7⟩
        have hd7 : H7 d = some (DO P w d es) := sb7 _ _ hda hd6
        have im47 : Im H' H7 := im4.trans (e5.im.trans (im6.trans im7))
        refine s_xput (R := RI) (x := z) (var_ref rfl) hd7 (s'.im im47) (by have := pa.len; omega) ev_i (ev_var (R := RN K) (x := ps) rfl (Mono.im (im6.trans im7) rp)) fun es2 H8 sb8 im8 hd8 s8 => ?_
        refine ⟨_, _, _, es2, _, rfl, fun b o n1 n2 h => ?_, im.trans (im47.trans im8), hs7.sb sb8 (Ne.symm hda) (Ne.symm hdc), hd8, s8, ⟨pa.kys.ptT hps, ?_, fun e he => ?_, fun e he => ?_⟩⟩
        · exact sb8 _ _ n2 (sb7 _ _ n1 (sb6 _ _ n1 (e5 _ _ (sb4 _ _ n1 (kp b o n1 n2 h)))))
        · have := ptT_length xs ps z
          have := pa.len
          omega
        · rcases ptT_mem he with rfl | he
          · exact ⟨z0, z25⟩
          · exact pa.nz e he
        · rcases ptT_mem he with rfl | he
          · intro k
            by_cases hk : k < 4
            · exact hg k _ (gd_get (by omega))
            · show 0 ≤ gd ps k ∧ gd ps k ≤ _ ∧ (many ≤ k → gd ps k = 0)
              rw [gd_out (by omega)]
              exact ⟨by omega, by omega, fun _ => rfl⟩
          · exact pa.pw e he
    · rintro σ' H' ⟨y6, y7, y8, es, xs, rfl, kp, im, hs', hd', s', pa⟩
      refine ⟨.ref d, rfl, ?_⟩
      refine k d es xs H' (fun b o nb h => ?_) (im1.trans im) (hs'.mono (by omega)) hdH hd' s' ⟨pa.kys, by have := pa.len; omega, pa.nz, pa.pw⟩
      have hbd : b ≠ d := fun z => by subst z; rw [hdH] at h; cases h
      exact kp b o nb hbd (sb1 _ _ nb h)
  refine draw_k (i := 0) (m := 3) rfl hs ev_i (by decide) (by decide) (by omega) fun x H1 x0 x1 sb1 im1 hs1 => ⟨x, 0, rfl, rfl, decide (0 < x), rfl, ?_⟩
  by_cases cx : 0 < x
  · rw [decide_eq_true cx]
    refine iteT ?_
    refine any_k (i := 0) (xs := [3, 9, 9, 9, 100, 10 ^ 25]) rfl hs1 (ev_list (el_cons ev_i (el_cons ev_i (el_cons ev_i (el_cons ev_i (el_cons ev_i (el_cons (ev_opC (g := fun i j => i ^ j.toNat) ev_i ev_i p25) el_nil)))))) (by simp)) (by simp) (by simp) (by omega) fun g H2 hg sb2 im2 hs2 => ?_
    have t2 : (10 : Int) ^ 25 = 10000000000000000000000000 := by decide
    have hg : 1 ≤ g ∧ g ≤ 10 ^ 25 := by simp at hg; omega
    exact rest g H2 hg.1 hg.2 (sb1.trans sb2) (im1.trans im2) hs2
  · rw [decide_eq_false cx]
    refine iteF ?_
    exact rest 2 H1 (by decide) (by decide) sb1 im1 (hs1.mono (by omega))
end
end Bx

set_option Elab.async false
set_option linter.all false
set_option maxRecDepth 100000
set_option maxHeartbeats 2000000
namespace Bx
open PySem PySem.Spec PyProof.Rows L2
/-! ### what the plain law must give -/
structure CaseOk (xs : Tms) (box : List Stretch) : Prop where
  pa : ∃ many most terms : Nat, PaOk many most terms xs ∧ many ≤ box.length ∧ ((many ≤ 3 ∧ most ≤ 3 ∧ terms ≤ 5) ∨ (many ≤ 1 ∧ most ≤ 60 ∧ terms ≤ 3))
  b3 : box.length ≤ 3
  st : ∀ s ∈ box, StrOk s
abbrev ShOk (sh : List (Int × Int)) : Prop := ∀ x ∈ sh, 0 ≤ x.1 ∧ x.1 ≤ x.2 ∧ 0 < x.2 ∧ x.2 ≤ 10
def ptS (s : Stretch) (x : Int × Int) : Rat := Rat.divInt (s.1.num * (s.2.den : Int) * (x.2 - x.1) + s.2.num * (s.1.den : Int) * x.1) ((s.1.den : Int) * (s.2.den : Int) * x.2)
def ptsS (box : List Stretch) (sh : List (Int × Int)) : List Rat := (box.zip sh).map fun y => ptS y.1 y.2
structure MathOk : Prop where
  good : ∀ {xs box}, CaseOk xs box → Good (polyOf xs)
  lc : ∀ {xs box}, CaseOk xs box → LcOk xs box
  co : ∀ {xs box}, CaseOk xs box → CoOk (polyOf xs) box
  eq : ∀ {xs box}, CaseOk xs box → countsOver (polyOf xs) box = lawCounts xs box
  mc : ∀ {xs box sh}, CaseOk xs box → ShOk sh → sh.length = box.length → McOk (lawCounts xs box) (degsP xs box.length) sh
  lw : ∀ {xs box sh}, CaseOk xs box → ShOk sh → sh.length = box.length → LwOk xs (ptsS box sh)
  wo : ∀ {xs box sh}, CaseOk xs box → ShOk sh → sh.length = box.length → WOk (polyOf xs) (ptsS box sh ++ List.replicate (4 - box.length) 0)
  mix : ∀ {xs box sh}, CaseOk xs box → ShOk sh → sh.length = box.length → mixA (degsP xs box.length) sh (lawCounts xs box) = lawWorth xs (ptsS box sh)
  wor : ∀ {xs box sh}, CaseOk xs box → ShOk sh → sh.length = box.length → worthP (polyOf xs) (ptsS box sh ++ List.replicate (4 - box.length) 0) = lawWorth xs (ptsS box sh)
theorem tabR_nodup (f : List Int → Rat) (l : List (List Int)) : ((tabR f l).map (·.1)).Nodup := by
  have : ∀ (l : List (List Int)) (acc : List (List Int × Rat)), (acc.map (·.1)).Nodup → ((l.foldl (fun acc ix => ptT acc ix (f ix)) acc).map (·.1)).Nodup := by
    intro l
    induction l with
    | nil => intro acc h; exact h
    | cons x l ih => intro acc h; exact ih _ (ptT_nodup h)
  exact this l [] .nil
section
variable {α : Type} {P : Program} {w : World} {K : PySem.W.Frag} {vs : List V} {H : Hp} {Q : VK} {E : XK} {te ta tb tk tv tm tl tn : TE} {σ : L2.St} {D : Ends} {tz tu t1 t2 : TS} {t : TT} {a c : Addr} {n : Nat}
theorem ev_xisd {R : Rp α} {xs : List (List Int × α)} (h : EvR (RD P w K R) te σ H xs) : EvR RB (tCB (rXIsD P w) (tCons te (tCons (tC (.ty "dict")) tNil))) σ H true := fun H1 e Q q =>
  h H1 e _ fun v H2 e2 ⟨a, es, ev, rd, _⟩ => ⟨a, es, by rw [ev], rd, q _ H2 e2 rfl⟩
theorem ev_xne {xs : List (List Int × Rat)} (ha : EvR (RD P w K (RQ K)) ta σ H xs) (hb : EvR (RD P w K (RQ K)) tb σ H xs) (hn : (xs.map (·.1)).Nodup) : EvR RB (tOp (rXNe P w K) ta tb) σ H false := fun H1 e Q q =>
  ha H1 e _ fun v H2 e2 r => hb H2 (e.trans e2) _ fun u H3 e3 r' => by
    obtain ⟨ea, da, sa⟩ := RD.at (MonoE.ex e3 r)
    obtain ⟨eb, db, sb⟩ := RD.at r'
    refine ⟨ea, eb, da, db, by rw [sa.length, sb.length], fun x hx => ?_, q _ H3 (e2.trans e3) rfl⟩
    obtain ⟨i, hi, rfl⟩ := List.mem_iff_getElem.mp hx
    obtain ⟨y, hy, e1, e2', e3'⟩ := Paired.get1 sa (List.getElem?_eq_getElem hi)
    have hl := lkT_mem hn (List.mem_of_getElem? hy)
    rcases sb.lk y.1 with ⟨_, h2⟩ | ⟨v', z, h1, h2, h3⟩
    · rw [hl] at h2; cases h2
    · rw [hl] at h2; cases h2
      refine ⟨v', frl y.2, by rw [e1]; exact h1, rn_tupI e3', rn_tupI h3⟩
theorem q_skipE (h : EvT t σ H false) (k : ∀ H1, Ex H H1 → tz D σ H1) : tSeq (tIfS t t1 tNext) tz D σ H := q_skip h k
theorem s_skipE (h : EvT t σ H false) (k : ∀ H1, Ex H H1 → D.nx σ H1) : tIfS t t1 tNext D σ H := s_if h (fun e => nomatch e) fun _ H1 e => k H1 e
theorem ev_lst1 {R : Rp α} [MonoE R] {x : α} (h : EvR R te σ H x) : EvR (RL R) (tLst (tCons te tNil)) σ H [x] := fun H1 e Q q =>
  h H1 e _ fun v H2 e2 r => ⟨by show 1 ≤ sizeLine; decide, fun p hp => q _ _ (e2.trans (Ex.new hp)) ⟨p, _, rfl, upd_same, .cons (MonoE.ex (Ex.new hp) r) .nil⟩⟩
theorem ev_rep1 {R : Rp α} [MonoE R] {x : α} {m : Nat} (ha : EvR (RL R) ta σ H [x]) (hb : EvR RI tb σ H (m : Int)) (hm : m ≤ 100) : EvR (RL R) (tOp rRep ta tb) σ H (List.replicate m x) := fun H1 e Q q =>
  ha H1 e _ fun v H2 e2 r => hb H2 (e.trans e2) _ fun u H3 e3 r' => by
    obtain ⟨l, us, rfl, hl, p⟩ := MonoE.ex e3 r
    cases r'
    cases p with
    | @cons v0 _ _ _ rx pt =>
    cases pt
    refine ⟨l, (m : Int), _, rfl, rfl, hl, by omega, by omega, ?_, fun d hd => q _ _ ((e2.trans e3).trans (Ex.new hd)) ⟨d, _, rfl, upd_same, ?_⟩⟩
    · rw [Int.toNat_natCast]
      show 1 * m ≤ sizeLine
      rw [Nat.one_mul]
      exact Nat.le_trans hm (by decide)
    · rw [Int.toNat_natCast]
      have e9 := MonoE.ex (Ex.new (o := .lst (List.replicate m [v0]).flatten) hd) rx
      have : ∀ k : Nat, Paired (R (upd H3 d (.lst (List.replicate m [v0]).flatten))) (List.replicate k [v0]).flatten (List.replicate k x) := fun k => by
        induction k with
        | zero => exact .nil
        | succ k ih => rw [List.replicate_succ, List.replicate_succ, List.flatten_cons]; exact .cons e9 ih
      exact this m
/-- told.clear() -/
theorem q_xclear {i : Nat} {d : Addr} {es : List En} (hv : σ[i]? = some (some (.ref d))) (hd : H d = some (DO P w d es)) (k : tz D σ (upd H d (DO P w d []))) : tSeq (tDrop (tMG0 (tyX P w) (rXClear P w) (tVar i))) tz D σ H := ⟨.ref d, hv, ⟨d, es, rfl, .inl hd⟩, d, es, rfl, rfl, hd, k⟩
theorem q_parL {i j : Nat} (k : ∀ l1 l2, H l1 = none → (upd H l1 (.lst [])) l2 = none → tz D ((σ.set i (some (.ref l1))).set j (some (.ref l2))) (upd (upd H l1 (.lst [])) l2 (.lst []))) : tSeq (tPar i j (tCons (tLst tNil) (tCons (tLst tNil) tNil))) tz D σ H :=
  ⟨Nat.zero_le _, fun l1 h1 => ⟨Nat.zero_le _, fun l2 h2 => ⟨.ref l1, .ref l2, rfl, k l1 l2 h1 h2⟩⟩⟩
theorem e_co {i j : Nat} {v u : V} {ts : Tms} {box : List Stretch} (h1 : σ[i]? = some (some v)) (h2 : σ[j]? = some (some u)) (r1 : RPo K H v ts) (r2 : RT K (RS K) H u box) (hc : CoOk ts box) : EvR (RDX P w K (RQ K)) (tCall (spCounts P w K) [] E0 (tCons (tVar i) (tCons (tVar j) tNil))) σ H (countsOver ts box) := fun H1 e Q q =>
  ⟨v, h1, u, h2, v, u, ts, box, rfl, MonoE.ex e r1, MonoE.ex e r2, hc, fun g es H' e' _ hg s => q _ H' e' ⟨g, es, rfl, hg, s⟩⟩
def spLaw (K : PySem.W.Frag) : Sp := fun vs H Q _ => ∃ (p : Addr) (ns : List Int), vs = [.ref p] ∧ SqL K H p (ns.map V.int) ∧ ns.length ≤ 100 ∧ ∀ H', Q (.bl true) H'
theorem Sb.imL {H H' : Hp} {l : Addr} {u : HO} (h : H l = some u) (n : isIm u = false) (s : Sb l H H') : Im H H' := Sb.im s h n

/-- the second half of a turn: two times shares are drawn -/
theorem again_ok (M : MathOk) {xs : Tms} {box : List Stretch} (C : CaseOk xs box) {y2 y3 : Option V} {v0 v5 v6 v9 : V} {d d7 d8 : Addr} {es e7 : List En} {N : Nat} (hN : N ≤ 3000) {H0 : Hp} (hs0 : HS N H0 a c) (hd : H0 d = some (DO P w d es)) (sd : EnS K RI H0 es xs) (rb : RT K (RS K) H0 v5 box) (rp : RPo K H0 v6 (polyOf xs))
    (hd7 : H0 d7 = some (DO P w d7 e7)) (s7 : EnS K (RQ K) H0 e7 (lawCounts xs box)) (rdg : RIs H0 v9 (degsP xs box.length)) {y10 y11 y12 y13 y14 y15 y16 y17 y18 y19 y20 : Option V}
    (hnx : ∀ σ' H', (∃ y2 y3 y4 y5 y6 y7 y8 y9 y10 y11 y12 y13 y14 y15 y16 y17 y18 y19 y20 : Option V, σ' = [some v0, some (.ref a), y2, y3, y4, y5, y6, y7, y8, y9, y10, y11, y12, y13, y14, y15, y16, y17, y18, y19, y20]) → HS (N + 20) H' a c → D.nx σ' H') :
    (tFor (iRng1 (tCons (tC (.int 2)) tNil)) (gName 10) (tSeq (tPar 11 12 (tCons (tLst tNil) (tCons (tLst tNil) tNil)))
    (tSeq (tFor (iRng1 (tCons (tCB (fun xs H Q => ∃ p ys, xs = [.ref p] ∧ (SqL K H p ys ∨ SqT K H p ys) ∧ Q (.int ys.length) H) (tCons (tVar 5) tNil)) tNil)) (gName 13) (tSeq (tAsg (tOp (rIxT K) (tVar 5) (tVar 13)) (gTup K 2 (gCons (gTup K 2 (gCons (gName 14) (gCons (gName 15) gNil))) (gCons (gTup K 2 (gCons (gName 16) (gCons (gName 17) gNil))) gNil))))
    (tSeq (tAsg (tCall spAny [] E0 (tCons (tVar 1) (tCons (tLst (tCons (tC (.int 1)) (tCons (tC (.int 2)) (tCons (tC (.int 3)) (tCons (tC (.int 10)) tNil))))) tNil))) (gName 18))
    (tSeq (tAsg (tCall spDraw [] E0 (tCons (tVar 1) (tCons (tOp (rI0 fun i j => .int (i + j)) (tVar 18) (tC (.int 1))) tNil))) (gName 19))
    (tSeq (tDrop (tBM K "list" rAppend (tVar 11) (tCons (tTup (tCons (tVar 19) (tCons (tVar 18) tNil))) tNil)))
    (tDrop (tBM K "list" rAppend (tVar 12) (tCons (tCall (spLow K) [] E0 (tCons (tOp (rI0 fun i j => .int (i + j)) (tOp (rI CMulW fun i j => .int (i * j)) (tOp (rI CMulW fun i j => .int (i * j)) (tVar 14) (tVar 17)) (tOp (rI0 fun i j => .int (i - j)) (tVar 18) (tVar 19))) (tOp (rI CMulW fun i j => .int (i * j)) (tOp (rI CMulW fun i j => .int (i * j)) (tVar 16) (tVar 15)) (tVar 19))) (tCons (tOp (rI CMulW fun i j => .int (i * j)) (tOp (rI CMulW fun i j => .int (i * j)) (tVar 15) (tVar 17)) (tVar 18)) tNil))) tNil))))))))
    (tSeq (tAsg (tCall (spMix P w K) [] E0 (tCons (tVar 7) (tCons (tVar 9) (tCons (tVar 11) tNil)))) (gName 20))
    (tSeq (tIfS (tTest (tOp (rNeT K) (tVar 20) (tCall (spLW P w K) [] E0 (tCons (tVar 4) (tCons (tVar 12) tNil))))) (tRet (tC (.bl false))) tNext)
    (tIfS (tTest (tOp (rNeT K) (tCall (spWorthAt K) [] E0 (tCons (tVar 6) (tCons (tCB (fun xs H Q => ∃ p ys, xs = [.ref p] ∧ ((SqL K H p ys ∧ ∀ l, H l = none → Q (.ref l) (upd H l (.tup ys))) ∨ (SqT K H p ys ∧ Q (.ref p) H))) (tCons (tOp rCat (tVar 12) (tOp rRep (tLst (tCons (tTup (tCons (tC (.int 0)) (tCons (tC (.int 1)) tNil))) tNil)) (tOp (rI0 fun i j => .int (i - j)) (tC (.int 4)) (tCB (fun xs H Q => ∃ p ys, xs = [.ref p] ∧ (SqL K H p ys ∨ SqT K H p ys) ∧ Q (.int ys.length) H) (tCons (tVar 12) tNil))))) tNil)) tNil))) (tVar 20))) (tRet (tC (.bl false))) tNext))))))
    D [some v0, some (.ref a), y2, y3, some (.ref d), some v5, some v6, some (.ref d7), some (.ref d8), some v9, y10, y11, y12, y13, y14, y15, y16, y17, y18, y19, y20] H0 := by
  have b3 := C.b3
  refine s_forR (n := 2) ev_i (by decide) fun H1 e1 => ⟨fun i σ' H' => (∃ y10 y11 y12 y13 y14 y15 y16 y17 y18 y19 y20 : Option V, σ' = [some v0, some (.ref a), y2, y3, some (.ref d), some v5, some v6, some (.ref d7), some (.ref d8), some v9, y10, y11, y12, y13, y14, y15, y16, y17, y18, y19, y20]) ∧ Sb a H0 H' ∧ Im H0 H' ∧ HS (N + i * 10) H' a c, ?_, ?_, ?_⟩
  · exact ⟨⟨_, _, _, _, _, _, _, _, _, _, _, rfl⟩, e1.sb, e1.im, by rw [Nat.zero_mul]; exact hs0.ex e1⟩
  · rintro i σ' H' hi ⟨⟨y10, y11, y12, y13, y14, y15, y16, y17, y18, y19, y20, rfl⟩, sb, im, hs⟩
    have hnot : ∀ {l : Addr} {o : HO}, H0 l = some o → (∀ kvs, o ≠ .dK kvs) → l ≠ a := fun {l o} h1 h2 z => by
      obtain ⟨_, _, _, _, _, ha, _⟩ := hs0
      subst z; rw [h1] at ha; cases ha; exact h2 _ rfl
    have rb' : RT K (RS K) H' v5 box := Mono.im im rb
    refine q_parL fun l1 l2 hl1 hl2 => ?_
    have e2 : Ex H' (upd H' l1 (.lst [])) := Ex.new hl1
    have e3 : Ex (upd H' l1 (.lst [])) (upd (upd H' l1 (.lst [])) l2 (.lst [])) := Ex.new hl2
    have n12 : l1 ≠ l2 := fun z => by subst z; rw [upd_same] at hl2; cases hl2
    have hl2' : H' l2 = none := e2.back hl2
    have frL : ∀ {l : Addr}, H' l = none → l ≠ a ∧ l ≠ c ∧ H0 l = none := fun {l} h => by
      obtain ⟨_, _, _, _, _, ha, hc, _⟩ := hs
      have h1 : l ≠ a := fun z => by subst z; rw [h] at ha; cases ha
      refine ⟨h1, (fun z => by subst z; rw [h] at hc; cases hc), ?_⟩
      cases q : H0 l with
      | none => rfl
      | some o => rw [sb _ _ h1 q] at h; cases h
    obtain ⟨a1, c1, n1⟩ := frL hl1
    obtain ⟨a2, c2, n2⟩ := frL hl2'
    refine q_forR (n := (box.length : Int)) (ev_lenRT (ev_var (R := RT K (RS K)) (x := box) rfl (Mono.im (e2.trans e3).im rb'))) (by omega) fun H4 e4 => ⟨fun k σ3 H3 => ∃ y13 y14 y15 y16 y17 y18 y19 us1 us2 sh, σ3 = [some v0, some (.ref a), y2, y3, some (.ref d), some v5, some v6, some (.ref d7), some (.ref d8), some v9, some (.int (i : Int)), some (.ref l1), some (.ref l2), y13, y14, y15, y16, y17, y18, y19, y20] ∧ Sb a H0 H3 ∧ Im H0 H3 ∧ HS (N + i * 10 + k * 2) H3 a c ∧ H3 l1 = some (.lst us1) ∧ H3 l2 = some (.lst us2) ∧ Paired (RP K RI RI H3) us1 sh ∧ Paired (RQ K H3) us2 (ptsS (box.take k) sh) ∧ ShOk sh ∧ sh.length = k, ?_, ?_, ?_⟩
    · have E4 := e2.trans (e3.trans e4)
      exact ⟨y13, y14, y15, y16, y17, y18, y19, [], [], [], rfl, sb.trans E4.sb, im.trans E4.im, by rw [Nat.zero_mul]; exact hs.ex E4, e4 _ _ (e3 _ _ upd_same), e4 _ _ upd_same, .nil, .nil, (fun _ h => nomatch h), rfl⟩
    · rintro k σ3 H3 hk ⟨y13, y14, y15, y16, y17, y18, y19, us1, us2, sh, rfl, sb3, im3, hs3, h31, h32, p1, p2, so, sl⟩
      have hkb : k < box.length := by omega
      have hxk : box[k]? = some box[k] := List.getElem?_eq_getElem hkb
      obtain ⟨q1, q2, q3, q4⟩ := (C.st _ (List.getElem_mem hkb)).bq
      have len1 : us1.length ≤ 1000000 := by rw [Paired.length p1]; omega
      have len2 : us2.length ≤ 1000000 := by
        rw [Paired.length p2]; unfold ptsS; rw [List.length_map, List.length_zip]; omega
      refine q_unpS (p := box[k]) (ev_ixT (R := RS K) (n := k) (ev_var (R := RT K (RS K)) (x := box) rfl (Mono.im im3 rb)) (ev_vi rfl) hxk) fun H5 e5 => ?_
      refine pl_asg ?_
      refine any_k (i := 1) (xs := [1, 2, 3, 10]) rfl (hs3.ex e5) (ev_list (el_cons ev_i (el_cons ev_i (el_cons ev_i (el_cons ev_i el_nil)))) (by simp)) (by simp) (by simp) (by omega) fun by_ H6 hby sb6 im6 hs6 => ?_
      have hby : 1 ≤ by_ ∧ by_ ≤ 10 := by simp at hby; omega
      refine pl_gn (pl_asg ?_)
      refine draw_k (i := 1) (m := by_ + 1) rfl hs6 (ev_op0 (ev_vi rfl) ev_i) (by omega) (small200 (by omega) (by omega)) (by omega) fun s H7 s0 s1 sb7 im7 hs7 => ?_
      refine pl_gn ?_
      have h71 : H7 l1 = some (.lst us1) := sb7 _ _ a1 (sb6 _ _ a1 (e5 _ _ h31))
      have h72 : H7 l2 = some (.lst us2) := sb7 _ _ a2 (sb6 _ _ a2 (e5 _ _ h32))
      have im37 : Im H3 H7 := e5.im.trans (im6.trans im7)
      refine q_append (R := RP K RI RI) (x := (s, by_)) rfl h71 len1 (ev_pair (K := K) (R := RI) (S := RI) (ev_vi rfl) (ev_vi rfl)) fun vp H8 e8 r8 => ?_
      have im9 : Im H8 (upd H8 l1 (.lst (us1 ++ [vp]))) := Im.upd (e8 _ _ h71) rfl
      have sb9 : Sb l1 H8 (upd H8 l1 (.lst (us1 ++ [vp]))) := Sb.upd
      have h92 : (upd H8 l1 (.lst (us1 ++ [vp]))) l2 = some (.lst us2) := sb9 _ _ (Ne.symm n12) (e8 _ _ h72)
      have t4 : (2 : Nat) ^ 4 = 16 := rfl
      have ws : s.natAbs < 2 ^ 4 := by omega
      have wb : by_.natAbs < 2 ^ 4 := by omega
      have wbs : (by_ - s).natAbs < 2 ^ 4 := by omega
      have wden : ((box[k].1.den : Int) * (box[k].2.den : Int) * by_).natAbs < 2 ^ (25 + 25 + 4) := wide_lt (wide_lt (den_abs q1) (den_abs q2)) wb
      have pden : 0 < (box[k].1.den : Int) * (box[k].2.den : Int) * by_ := Int.mul_pos (Int.mul_pos (by have := box[k].1.den_pos; omega) (by have := box[k].2.den_pos; omega)) (by omega)
      refine s_append (R := RQ K) (x := ptS box[k] (s, by_)) rfl h92 len2 (e_low (ev_op0 (ev_opC (ev_opC (ev_vi rfl) (ev_vi rfl) (wide_mul q1.1 (den_abs q2) (by decide) (by decide) (by decide))) (ev_op0 (ev_vi rfl) (ev_vi rfl)) (wide_mul (wide_lt q1.1 (den_abs q2)) wbs (by decide) (by decide) (by decide)))
        (ev_opC (ev_opC (ev_vi rfl) (ev_vi rfl) (wide_mul q2.1 (den_abs q1) (by decide) (by decide) (by decide))) (ev_vi rfl) (wide_mul (wide_lt q2.1 (den_abs q1)) ws (by decide) (by decide) (by decide))))
        (ev_opC (ev_opC (ev_vi rfl) (ev_vi rfl) (wide_mul (den_abs q1) (den_abs q2) (by decide) (by decide) (by decide))) (ev_vi rfl) (wide_mul (wide_lt (den_abs q1) (den_abs q2)) wb (by decide) (by decide) (by decide))) pden (Nat.lt_of_lt_of_le wden (pow_t _ _ (by decide)))) fun vq H10 e10 r10 => ?_
      have im11 : Im H10 (upd H10 l2 (.lst (us2 ++ [vq]))) := Im.upd (e10 _ _ h92) rfl
      have sb11 : Sb l2 H10 (upd H10 l2 (.lst (us2 ++ [vq]))) := Sb.upd
      have imA : Im H3 (upd H10 l2 (.lst (us2 ++ [vq]))) := im37.trans (e8.im.trans (im9.trans (e10.im.trans im11)))
      have imB : Im H8 (upd H10 l2 (.lst (us2 ++ [vq]))) := im9.trans (e10.im.trans im11)
      refine ⟨some (.int (k : Int)), some (.int box[k].1.num), some (.int (box[k].1.den : Int)), some (.int box[k].2.num), some (.int (box[k].2.den : Int)), some (.int by_), some (.int s), us1 ++ [vp], us2 ++ [vq], sh ++ [(s, by_)], rfl, fun b o nb h => ?_, im3.trans imA, ?_, ?_, upd_same, ?_, ?_, fun x hx => ?_, by rw [List.length_append, sl]; rfl⟩
      · have b1 : b ≠ l1 := fun z => by subst z; rw [n1] at h; cases h
        have b2 : b ≠ l2 := fun z => by subst z; rw [n2] at h; cases h
        exact sb11 _ _ b2 (e10 _ _ (sb9 _ _ b1 (e8 _ _ (sb7 _ _ nb (sb6 _ _ nb (e5 _ _ (sb3 _ _ nb h)))))))
      · have h1 := ((hs7.ex e8).sb sb9 (Ne.symm a1) (Ne.symm c1)).ex e10
        exact (h1.sb sb11 (Ne.symm a2) (Ne.symm c2)).mono (by omega)
      · exact sb11 _ _ n12 (e10 _ _ upd_same)
      · exact Paired.app (Paired.imp p1 fun _ _ r => Mono.im imA r) (.cons (Mono.im imB r8) .nil)
      · have e9 : ptsS (box.take (k + 1)) (sh ++ [(s, by_)]) = ptsS (box.take k) sh ++ [ptS box[k] (s, by_)] := by
          unfold ptsS
          rw [List.take_add_one, hxk, List.zip_append (by rw [List.length_take, sl]; omega), List.map_append]
          rfl
        rw [e9]
        exact Paired.app (Paired.imp p2 fun _ _ r => Mono.im imA r) (.cons (Mono.im im11 r10) .nil)
      · rcases List.mem_append.mp hx with hx | hx
        · exact so x hx
        · rw [List.mem_singleton] at hx
          subst hx
          exact ⟨s0, by show s ≤ by_; omega, by show 0 < by_; omega, hby.2⟩
    · rintro σ3 H3 ⟨y13, y14, y15, y16, y17, y18, y19, us1, us2, sh, rfl, sb3, im3, hs3, h31, h32, p1, p2, so, sl⟩
      rw [Int.toNat_natCast] at hs3 sl
      have p2 : Paired (RQ K H3) us2 (ptsS box sh) := by
        rw [Int.toNat_natCast, List.take_of_length_le (Nat.le_refl _)] at p2; exact p2
      have hdd : H3 d = some (DO P w d es) := sb3 _ _ (hnot hd (fun _ z => nomatch z)) hd
      have hd73 : H3 d7 = some (DO P w d7 e7) := sb3 _ _ (hnot hd7 (fun _ z => nomatch z)) hd7
      have rdg3 : RIs H3 v9 (degsP xs box.length) := by
        obtain ⟨aa, vv, z1, z2, z3⟩ := rdg
        exact ⟨aa, vv, z1, sb3 _ _ (hnot z2 (fun _ z => nomatch z)) z2, Paired.imp z3 fun _ _ r => r⟩
      have lp : (ptsS box sh).length = box.length := by unfold ptsS; rw [List.length_map, List.length_zip, sl]; omega
      refine q_set (R := RQ K) (ev_call3 (pre := McOk) (f := fun cs dg sh => mixA dg sh cs) (R := RDX P w K (RQ K)) (R2 := RIs) (R3 := RL (RP K RI RI)) (x := lawCounts xs box) (y := degsP xs box.length) (z := sh) (ev_var rfl ⟨d7, e7, rfl, hd73, s7.im im3⟩) (ev_var rfl rdg3) (ev_var rfl ⟨l1, us1, rfl, h31, p1⟩) (M.mc C so sl)) fun vs20 H5 e5 r5 => ?_
      have emix := M.mix C so sl
      have ewor := M.wor C so sl
      rw [emix] at r5
      have E20 : ∀ {H6}, Ex H5 H6 → RQ K H6 vs20 (lawWorth xs (ptsS box sh)) := fun e => MonoE.ex e r5
      refine q_skip (EvT.is (et_test (ev_neN (EvR.rn (ev_var (R := RQ K) (x := lawWorth xs (ptsS box sh)) rfl r5)) (EvR.rn (ev_call2 (pre := LwOk) (f := lawWorth) (R := RDX P w K RI) (R2 := RL (RQ K)) (x := xs) (y := ptsS box sh) (ev_var rfl ⟨d, es, rfl, e5 _ _ hdd, sd.im (im3.trans e5.im)⟩) (ev_var rfl ⟨l2, us2, rfl, e5 _ _ h32, Paired.imp p2 fun _ _ r => MonoE.ex e5 r⟩) (M.lw C so sl))))) (by simp)) fun H6 e6 => ?_
      have e56 := e5.trans e6
      have rl2 : RL (RQ K) H6 (.ref l2) (ptsS box sh) := ⟨l2, us2, rfl, e56 _ _ h32, Paired.imp p2 fun _ _ r => MonoE.ex e56 r⟩
      have hpt : EvR (RT K (RQ K)) (tCB (fun xs H Q => ∃ p ys, xs = [.ref p] ∧ ((SqL K H p ys ∧ ∀ l, H l = none → Q (.ref l) (upd H l (.tup ys))) ∨ (SqT K H p ys ∧ Q (.ref p) H))) (tCons (tOp rCat (tVar 12) (tOp rRep (tLst (tCons (tTup (tCons (tC (.int 0)) (tCons (tC (.int 1)) tNil))) tNil)) (tOp (rI0 fun i j => .int (i - j)) (tC (.int 4)) (tCB (fun xs H Q => ∃ p ys, xs = [.ref p] ∧ (SqL K H p ys ∨ SqT K H p ys) ∧ Q (.int ys.length) H) (tCons (tVar 12) tNil))))) tNil)) [some v0, some (.ref a), y2, y3, some (.ref d), some v5, some v6, some (.ref d7), some (.ref d8), some v9, some (.int (i : Int)), some (.ref l1), some (.ref l2), y13, y14, y15, y16, y17, y18, y19, some vs20] H6 (ptsS box sh ++ List.replicate (4 - box.length) 0) :=
        ev_tupleOf (ev_catL (R := RQ K) (ev_var rfl rl2) (ev_rep1 (R := RQ K) (x := (0 : Rat)) (m := 4 - box.length) (ev_lst1 (R := RQ K) (ev_tup2 (K := K) ev_i ev_i)) (EvR.is (ev_op0 ev_i (ev_lenL (R := RQ K) (xs := ptsS box sh) (ev_var rfl rl2))) (by rw [lp]; omega)) (by omega)) (by rw [lp, List.length_replicate]; omega))
      refine s_skipE (EvT.is (et_test (ev_neN (EvR.rn (ev_call2 (pre := WOk) (f := worthP) (R := RPo K) (R2 := RT K (RQ K)) (x := polyOf xs) (ev_var rfl (Mono.im (im3.trans e56.im) rp)) hpt (M.wo C so sl))) (EvR.rn (ev_var (R := RQ K) (x := lawWorth xs (ptsS box sh)) rfl (E20 e6))))) (by rw [ewor]; simp)) fun H7 e7 => ?_
      refine ⟨⟨_, _, _, _, _, _, _, _, _, _, _, rfl⟩, sb3.trans (e56.trans e7).sb, im3.trans (e56.trans e7).im, (hs3.ex (e56.trans e7)).mono (by rw [Nat.succ_mul]; omega)⟩
  · rintro σ' H' ⟨⟨y10, y11, y12, y13, y14, y15, y16, y17, y18, y19, y20, rfl⟩, sb, im, hs⟩
    exact hnx _ _ ⟨_, _, _, _, _, _, _, _, _, _, _, _, _, _, _, _, _, _, _, rfl⟩ hs
end
end Bx

set_option Elab.async false
set_option linter.all false
set_option maxRecDepth 100000
set_option maxHeartbeats 2000000
namespace Bx
/-! ### the plain law: sums over terms -/
def pg (f : List Int → Rat) : Tms → Rat
  | [] => 0
  | t :: ts => (t.2 : Rat) * f t.1 + pg f ts
theorem pg_nil (f : List Int → Rat) : pg f [] = 0 := rfl
theorem pg_cons (f : List Int → Rat) (t : List Int × Int) (ts : Tms) : pg f (t :: ts) = (t.2 : Rat) * f t.1 + pg f ts := rfl
theorem pg_app (f : List Int → Rat) : ∀ a b : Tms, pg f (a ++ b) = pg f a + pg f b
  | [], b => by rw [List.nil_append, pg_nil]; grind
  | t :: a, b => by rw [List.cons_append, pg_cons, pg_cons, pg_app f a b]; grind
theorem pg_perm (f : List Int → Rat) {a b : Tms} (h : a.Perm b) : pg f a = pg f b := by
  induction h with
  | nil => rfl
  | cons x _ ih => rw [pg_cons, pg_cons, ih]
  | swap x y l => rw [pg_cons, pg_cons, pg_cons, pg_cons]; grind
  | trans _ _ h1 h2 => rw [h1, h2]
theorem pg_congr {f g : List Int → Rat} : ∀ {ts : Tms}, (∀ t ∈ ts, f t.1 = g t.1) → pg f ts = pg g ts
  | [], _ => rfl
  | t :: ts, h => by rw [pg_cons, pg_cons, h t List.mem_cons_self, pg_congr fun u hu => h u (List.mem_cons_of_mem _ hu)]
theorem pg_nz (f : List Int → Rat) : ∀ ts : Tms, pg f (ts.filter fun e => !decide (e.2 = 0)) = pg f ts
  | [] => rfl
  | t :: ts => by
    have ih := pg_nz f ts
    rw [List.filter_cons]
    by_cases h : t.2 = 0
    · rw [if_neg (by simp [h]), ih, pg_cons, h]; grind
    · rw [if_pos (by simp [h]), pg_cons, pg_cons, ih]
theorem pg_polyOf (f : List Int → Rat) (xs : Tms) : pg f (polyOf xs) = pg f xs := by
  unfold polyOf
  rw [pg_nz, pg_perm f (srtK_perm xs)]
theorem pg_addT (f : List Int → Rat) (k : List Int) (c : Int) : ∀ {acc : Tms}, (acc.map (·.1)).Nodup → pg f (addT acc k c) = pg f acc + (c : Rat) * f k
  | [], _ => by
    show pg f [(k, 0 + c)] = _
    rw [pg_cons, pg_nil, Int.zero_add]; grind
  | x :: xs, h => by
    rw [List.map_cons] at h
    obtain ⟨h1, h2⟩ := List.nodup_cons.mp h
    by_cases e : x.1 = k
    · subst e
      unfold addT
      rw [ptT_cons_eq h1, lkT_cons, if_pos rfl, pg_cons, pg_cons]
      show ((x.2 + c : Int) : Rat) * f x.1 + pg f xs = _
      rw [Rat.intCast_add]; grind
    · unfold addT
      rw [ptT_cons_ne e, lkT_cons, if_neg e, pg_cons, pg_cons]
      have := pg_addT f k c h2
      unfold addT at this
      rw [this]; grind
theorem ptT_new {acc : Tms} {k : List Int} {c : Int} (h : k ∉ acc.map (·.1)) : ptT acc k c = acc ++ [(k, c)] := by
  unfold ptT
  rw [lkT_none h, if_neg (by simp)]
/-- a dict made of terms whose keys differ: the terms themselves -/
theorem dict_from : ∀ (a acc : Tms), ((acc ++ a).map (·.1)).Nodup → a.foldl (fun acc p => ptT acc p.1 p.2) acc = acc ++ a
  | [], acc, _ => by simp
  | t :: a, acc, h => by
    rw [List.foldl_cons, ptT_new, dict_from a (acc ++ [(t.1, t.2)])]
    · simp
    · rw [List.append_assoc]; exact h
    · rw [List.map_append, List.map_cons, List.nodup_append] at h
      intro hm
      exact h.2.2 _ hm _ List.mem_cons_self rfl
theorem dictOf_self {a : Tms} (h : (a.map (·.1)).Nodup) : dictOf a = a := by
  have := dict_from a [] (by simpa using h)
  simpa [dictOf] using this
theorem pg_sumD (f : List Int → Rat) {a b : Tms} {m : Int} (ha : Kys a) (hb : ∀ e ∈ b, e.1.length = 4) : pg f (sumD a b m) = pg f a + (m : Rat) * pg f b := by
  have : ∀ (b acc : Tms), (∀ e ∈ b, e.1.length = 4) → Kys acc → pg f (b.foldl (fun acc t => addT acc t.1 (m * t.2)) acc) = pg f acc + (m : Rat) * pg f b := by
    intro b
    induction b with
    | nil => intro acc _ _; rw [pg_nil]; show pg f acc = _; grind
    | cons t b ih =>
      intro acc hb k
      rw [List.foldl_cons, ih _ (fun e he => hb e (List.mem_cons_of_mem _ he)) (k.addT (hb t List.mem_cons_self)), pg_addT f _ _ k.1, pg_cons, Rat.intCast_mul]
      grind
  unfold sumD
  rw [dictOf_self ha.1]
  exact this b a hb ha
theorem pg_sumWith (f : List Int → Rat) {a b : Tms} {m : Int} (ha : Kys a) (hb : ∀ e ∈ b, e.1.length = 4) : pg f (sumWith a b m) = pg f a + (m : Rat) * pg f b := by
  unfold sumWith
  rw [pg_polyOf, pg_sumD f ha hb]
theorem pg_rowD (f : List Int → Rat) {acc b : Tms} {s : List Int × Int} (k : Kys acc) : pg f (rowD acc s b) = pg f acc + (s.2 : Rat) * pg (fun q => f (adk s.1 q)) b := by
  have : ∀ (b acc : Tms), Kys acc → pg f (b.foldl (fun acc t => addT acc (adk s.1 t.1) (s.2 * t.2)) acc) = pg f acc + (s.2 : Rat) * pg (fun q => f (adk s.1 q)) b := by
    intro b
    induction b with
    | nil => intro acc _; rw [pg_nil]; show pg f acc = _; grind
    | cons t b ih =>
      intro acc k
      rw [List.foldl_cons, ih _ (k.addT rfl), pg_addT f _ _ k.1, pg_cons, Rat.intCast_mul]
      grind
  exact this b acc k
theorem pg_timD (f : List Int → Rat) (a b : Tms) : pg f (timD a b) = pg (fun p => pg (fun q => f (adk p q)) b) a := by
  have : ∀ (a acc : Tms), Kys acc → pg f (a.foldl (fun acc s => rowD acc s b) acc) = pg f acc + pg (fun p => pg (fun q => f (adk p q)) b) a := by
    intro a
    induction a with
    | nil => intro acc _; rw [pg_nil]; show pg f acc = _; grind
    | cons t a ih =>
      intro acc k
      rw [List.foldl_cons, ih _ (rowD_kys k), pg_rowD f k, pg_cons]
      grind
  unfold timD
  rw [this a [] Kys.nil, pg_nil]; grind
theorem pg_timesP (f : List Int → Rat) (a b : Tms) : pg f (timesP a b) = pg (fun p => pg (fun q => f (adk p q)) b) a := by
  unfold timesP
  rw [pg_polyOf, pg_timD]
theorem pg_constP (f : List Int → Rat) (n : Int) : pg f (constP n) = (n : Rat) * f noP := by
  unfold constP
  rw [pg_polyOf, pg_cons, pg_nil]; grind
theorem pg_unkP (f : List Int → Rat) (k n : Int) : pg f (unkP k n) = f (powersOf k n) := by
  unfold unkP
  rw [pg_polyOf, pg_cons, pg_nil]
  show ((1 : Int) : Rat) * _ + 0 = _
  rw [Rat.intCast_one]
  grind
theorem pg_add (f g : List Int → Rat) : ∀ ts : Tms, pg (fun p => f p + g p) ts = pg f ts + pg g ts
  | [] => by rw [pg_nil, pg_nil, pg_nil]; grind
  | t :: ts => by rw [pg_cons, pg_cons, pg_cons, pg_add f g ts]; grind
theorem pg_smul (c : Rat) (f : List Int → Rat) : ∀ ts : Tms, pg (fun p => c * f p) ts = c * pg f ts
  | [] => by rw [pg_nil, pg_nil]; grind
  | t :: ts => by rw [pg_cons, pg_cons, pg_smul c f ts]; grind
theorem pg_zero : ∀ ts : Tms, pg (fun _ => 0) ts = 0
  | [] => rfl
  | t :: ts => by rw [pg_cons, pg_zero ts]; grind
/-- finite sums -/
def sm : Nat → (Nat → Rat) → Rat
  | 0, _ => 0
  | n + 1, f => sm n f + f n
theorem sm_congr {f g : Nat → Rat} : ∀ {n : Nat}, (∀ i, i < n → f i = g i) → sm n f = sm n g
  | 0, _ => rfl
  | n + 1, h => by unfold sm; rw [sm_congr fun i hi => h i (by omega), h n (by omega)]
theorem sm_add (f g : Nat → Rat) : ∀ n, sm n (fun i => f i + g i) = sm n f + sm n g
  | 0 => by unfold sm; grind
  | n + 1 => by unfold sm; rw [sm_add f g n]; grind
theorem sm_smul (c : Rat) (f : Nat → Rat) : ∀ n, sm n (fun i => c * f i) = c * sm n f
  | 0 => by unfold sm; grind
  | n + 1 => by unfold sm; rw [sm_smul c f n]; grind
theorem sm_mulr (c : Rat) (f : Nat → Rat) (n : Nat) : sm n (fun i => f i * c) = sm n f * c := by
  rw [Rat.mul_comm, ← sm_smul]
  exact sm_congr fun i _ => Rat.mul_comm _ _
theorem sm_zero : ∀ n, sm n (fun _ => 0) = 0
  | 0 => rfl
  | n + 1 => by unfold sm; rw [sm_zero n]; grind
theorem pg_sm (f : Nat → List Int → Rat) (ts : Tms) : ∀ n, pg (fun p => sm n (fun i => f i p)) ts = sm n (fun i => pg (f i) ts)
  | 0 => pg_zero ts
  | n + 1 => by
    show pg (fun p => sm n (fun i => f i p) + f n p) ts = _
    rw [pg_add (fun p => sm n (fun i => f i p)) (f n), pg_sm f ts n]; rfl
/-- one summand alone -/
theorem sm_one {f : Nat → Rat} {j : Nat} : ∀ {n : Nat}, j < n → (∀ i, i < n → i ≠ j → f i = 0) → sm n f = f j
  | n + 1, hj, h => by
    unfold sm
    by_cases e : j = n
    · subst e
      rw [sm_congr (g := fun _ => 0) fun i hi => h i (by omega) (by omega), sm_zero]; grind
    · rw [sm_one (j := j) (by omega) fun i hi => h i (by omega), h n (by omega) (fun z => e z.symm)]; grind
theorem sm_none {f : Nat → Rat} {n : Nat} (h : ∀ i, i < n → f i = 0) : sm n f = 0 := by
  rw [sm_congr (g := fun _ => 0) h, sm_zero]
/-- one term alone -/
theorem pg_single {f : List Int → Rat} {t : List Int × Int} : ∀ {ts : Tms}, (ts.map (·.1)).Nodup → t ∈ ts → (∀ u ∈ ts, u.1 ≠ t.1 → f u.1 = 0) → pg f ts = (t.2 : Rat) * f t.1
  | x :: xs, hn, hm, h => by
    rw [List.map_cons] at hn
    obtain ⟨h1, h2⟩ := List.nodup_cons.mp hn
    rw [pg_cons]
    rcases List.mem_cons.mp hm with rfl | hm
    · have : pg f xs = 0 := by
        rw [pg_congr (g := fun _ => 0) fun u hu => h u (List.mem_cons_of_mem _ hu) fun e => h1 (by rw [← e]; exact List.mem_map_of_mem hu), pg_zero]
      rw [this]; grind
    · have e : x.1 ≠ t.1 := fun z => h1 (by rw [z]; exact List.mem_map_of_mem hm)
      rw [h x List.mem_cons_self e, pg_single h2 hm fun u hu => h u (List.mem_cons_of_mem _ hu)]; grind
/-- a sum that does not vanish has a term that does not -/
theorem pg_ne {f : List Int → Rat} : ∀ {ts : Tms}, pg f ts ≠ 0 → ∃ t ∈ ts, f t.1 ≠ 0
  | [], h => absurd rfl h
  | x :: xs, h => by
    by_cases e : f x.1 = 0
    · rw [pg_cons, e] at h
      obtain ⟨t, ht, h2⟩ := pg_ne (f := f) (ts := xs) (fun z => h (by rw [z]; grind))
      exact ⟨t, List.mem_cons_of_mem _ ht, h2⟩
    · exact ⟨x, List.mem_cons_self, e⟩
end Bx

set_option Elab.async false
set_option linter.all false
set_option maxRecDepth 100000
set_option maxHeartbeats 2000000
namespace Bx
/-! ### functionals that are products -/
def pf (w : Nat → Int → Rat) (p : List Int) : Rat := w 0 (gd p 0) * w 1 (gd p 1) * w 2 (gd p 2) * w 3 (gd p 3)
def upW (w : Nat → Int → Rat) (k : Nat) (g : Int → Rat) : Nat → Int → Rat := fun l => if l = k then g else w l
theorem upW_same {w k g} : upW w k g k = g := by unfold upW; rw [if_pos rfl]
theorem upW_ne {w k g l} (h : l ≠ k) : upW w k g l = w l := by unfold upW; rw [if_neg h]
theorem upW_upW {w k g h} : upW (upW w k g) k h = upW w k h := by
  funext l; unfold upW; split <;> rfl
theorem gd_set {p : List Int} {k l : Nat} {x : Int} (h : k < p.length) : gd (p.set k x) l = if l = k then x else gd p l := by
  unfold gd
  rw [List.getD_eq_getElem?_getD, List.getElem?_set]
  by_cases e : k = l
  · subst e; simp [h]
  · rw [if_neg e, if_neg (fun z => e z.symm), ← List.getD_eq_getElem?_getD]
theorem gd_adk (p q : List Int) : ∀ {l : Nat}, l < 4 → gd (adk p q) l = gd p l + gd q l
  | 0, _ => rfl
  | 1, _ => rfl
  | 2, _ => rfl
  | 3, _ => rfl
  | n + 4, h => by omega
theorem gd_noP (l : Nat) : gd noP l = 0 := by
  match l with
  | 0 => rfl
  | 1 => rfl
  | 2 => rfl
  | 3 => rfl
  | n + 4 => exact gd_out (by show 4 ≤ n + 4; omega)
theorem gd_powersOf {k l : Nat} {n : Int} (h : l < 4) : gd (powersOf (k : Int) n) l = if l = k then n else 0 := by
  unfold gd powersOf
  rw [List.getD_eq_getElem?_getD, List.getElem?_map, List.getElem?_range h]
  show (if ((l : Nat) : Int) = (k : Int) then n else 0) = _
  by_cases e : l = k
  · rw [if_pos e, if_pos (by omega)]
  · rw [if_neg e, if_neg (by omega)]
theorem pf_gd {w : Nat → Int → Rat} {p q : List Int} (h : ∀ l, l < 4 → gd p l = gd q l) : pf w p = pf w q := by
  unfold pf
  rw [h 0 (by decide), h 1 (by decide), h 2 (by decide), h 3 (by decide)]
/-- the factors' values -/
theorem pf_vals {w w' : Nat → Int → Rat} {p q : List Int} (h : ∀ l, l < 4 → w l (gd p l) = w' l (gd q l)) : pf w p = pf w' q := by
  unfold pf
  rw [h 0 (by decide), h 1 (by decide), h 2 (by decide), h 3 (by decide)]
theorem pf_noP (w : Nat → Int → Rat) (p : List Int) : pf w (adk p noP) = pf w p := pf_gd fun l hl => by rw [gd_adk _ _ hl, gd_noP, Int.add_zero]
theorem pf_adk {w : Nat → Int → Rat} {k : Nat} {n : Int} (p : List Int) : pf w (adk p (powersOf (k : Int) n)) = pf (upW w k fun x => w k (x + n)) p := pf_vals fun l hl => by
  rw [gd_adk _ _ hl, gd_powersOf hl]
  by_cases e : l = k
  · subst e; rw [if_pos rfl, upW_same]
  · rw [if_neg e, upW_ne e, Int.add_zero]
theorem pf_adk2 {w : Nat → Int → Rat} {k : Nat} {n : Int} (p : List Int) : pf w (adk p (adk noP (powersOf (k : Int) n))) = pf (upW w k fun x => w k (x + n)) p := by
  rw [← pf_adk]
  exact pf_gd fun l hl => by rw [gd_adk _ _ hl, gd_adk _ _ hl, gd_adk _ _ hl, gd_noP, Int.zero_add]
theorem pf_set {w : Nat → Int → Rat} {k : Nat} {x : Int} {p : List Int} (h4 : p.length = 4) (hk : k < 4) : pf w (p.set k x) = pf (upW w k fun _ => w k x) p := pf_vals fun l hl => by
  rw [gd_set (by omega)]
  by_cases e : l = k
  · subst e; rw [if_pos rfl, upW_same]
  · rw [if_neg e, upW_ne e]
theorem pf_lin {w : Nat → Int → Rat} {k : Nat} {a b : Rat} {g h : Int → Rat} (hk : k < 4) (p : List Int) : a * pf (upW w k g) p + b * pf (upW w k h) p = pf (upW w k fun x => a * g x + b * h x) p := by
  match k, hk with
  | 0, _ => unfold pf; simp only [upW]; simp; grind
  | 1, _ => unfold pf; simp only [upW]; simp; grind
  | 2, _ => unfold pf; simp only [upW]; simp; grind
  | 3, _ => unfold pf; simp only [upW]; simp; grind
theorem pf_smul {w : Nat → Int → Rat} {k : Nat} {a : Rat} {g : Int → Rat} (hk : k < 4) (p : List Int) : a * pf (upW w k g) p = pf (upW w k fun x => a * g x) p := by
  match k, hk with
  | 0, _ => unfold pf; simp only [upW]; simp; grind
  | 1, _ => unfold pf; simp only [upW]; simp; grind
  | 2, _ => unfold pf; simp only [upW]; simp; grind
  | 3, _ => unfold pf; simp only [upW]; simp; grind
theorem pf_0 {w : Nat → Int → Rat} {k : Nat} {p : List Int} (hk : k < 4) (h : w k (gd p k) = 0) : pf w p = 0 := by
  match k, hk with
  | 0, _ => unfold pf; rw [h]; grind
  | 1, _ => unfold pf; rw [h]; grind
  | 2, _ => unfold pf; rw [h]; grind
  | 3, _ => unfold pf; rw [h]; grind
theorem upW_self {w : Nat → Int → Rat} {k : Nat} : upW w k (w k) = w := by
  funext l; unfold upW; split
  · rename_i h; rw [h]
  · rfl
theorem pf_sm {w : Nat → Int → Rat} {k : Nat} {g : Nat → Int → Rat} (hk : k < 4) (p : List Int) : ∀ n, sm n (fun i => pf (upW w k (g i)) p) = pf (upW w k fun x => sm n (fun i => g i x)) p
  | 0 => (pf_0 hk (by rw [upW_same]; rfl)).symm
  | n + 1 => by
    show sm n (fun i => pf (upW w k (g i)) p) + pf (upW w k (g n)) p = _
    rw [pf_sm hk p n]
    have := pf_lin (w := w) (k := k) (a := 1) (b := 1) (g := fun x => sm n (fun i => g i x)) (h := g n) hk p
    rw [Rat.one_mul, Rat.one_mul] at this
    rw [this]
    congr 1
    funext l
    unfold upW
    split
    · funext x; show 1 * sm n (fun i => g i x) + 1 * g n x = sm n (fun i => g i x) + g n x; rw [Rat.one_mul, Rat.one_mul]
    · rfl
/-! ### the counts by one unknown -/
theorem partD_eq {ts : Tms} {k j : Nat} (h : Kys ts) (hk : k < 4) : partD ts k j = (ts.filter fun t => decide (gd t.1 k = (j : Int))).map fun t => (t.1.set k 0, t.2) := by
  have h1 : ∀ (b acc : Tms), b.foldl (fun acc t => if gd t.1 k = (j : Int) then ptT acc (t.1.set k 0) t.2 else acc) acc = ((b.filter fun t => decide (gd t.1 k = (j : Int))).map fun t => (t.1.set k 0, t.2)).foldl (fun acc p => ptT acc p.1 p.2) acc := by
    intro b
    induction b with
    | nil => intro acc; rfl
    | cons t b ih =>
      intro acc
      rw [List.foldl_cons, List.filter_cons]
      by_cases e : gd t.1 k = (j : Int)
      · rw [if_pos e, if_pos (by simp [e]), ih]; rfl
      · rw [if_neg e, if_neg (by simp [e]), ih]
  unfold partD
  rw [h1 ts []]
  refine dictOf_self ?_
  rw [List.map_map]
  have h2 : ((ts.filter fun t => decide (gd t.1 k = (j : Int))).map (·.1)).Nodup := h.1.sublist ((List.filter_sublist).map _)
  have h3 : ∀ t ∈ ts.filter fun t => decide (gd t.1 k = (j : Int)), t.1.length = 4 ∧ gd t.1 k = (j : Int) := fun t ht => by
    obtain ⟨h4, h5⟩ := List.mem_filter.mp ht
    exact ⟨h.2 t h4, by simpa using h5⟩
  generalize (ts.filter fun t => decide (gd t.1 k = (j : Int))) = l at h2 h3
  induction l with
  | nil => exact .nil
  | cons t l ih =>
    rw [List.map_cons] at h2 ⊢
    obtain ⟨q1, q2⟩ := List.nodup_cons.mp h2
    refine List.nodup_cons.mpr ⟨fun hm => ?_, ih q2 fun u hu => h3 u (List.mem_cons_of_mem _ hu)⟩
    obtain ⟨u, hu, e⟩ := List.mem_map.mp hm
    have e : u.1.set k 0 = t.1.set k 0 := e
    obtain ⟨a1, a2⟩ := h3 t List.mem_cons_self
    obtain ⟨b1, b2⟩ := h3 u (List.mem_cons_of_mem _ hu)
    refine q1 ?_
    have : u.1 = t.1 := by
      apply List.ext_getElem?
      intro n
      by_cases hn : n < 4
      · rw [gd_get (by omega), gd_get (by omega)]
        congr 1
        have z : gd (u.1.set k 0) n = gd (t.1.set k 0) n := by rw [e]
        rw [gd_set (by omega), gd_set (by omega)] at z
        by_cases hnk : n = k
        · subst hnk; rw [a2, b2]
        · rw [if_neg hnk, if_neg hnk] at z; exact z
      · rw [List.getElem?_eq_none (by omega), List.getElem?_eq_none (by omega)]
    rw [← this]
    exact List.mem_map_of_mem hu
theorem pg_filter (f : List Int → Rat) (b : List Int → Bool) : ∀ ts : Tms, pg f (ts.filter fun t => b t.1) = pg (fun p => if b p = true then f p else 0) ts
  | [] => rfl
  | t :: ts => by
    rw [List.filter_cons]
    by_cases h : b t.1 = true
    · rw [if_pos h, pg_cons, pg_cons, pg_filter f b ts, if_pos h]
    · rw [if_neg h, pg_cons, pg_filter f b ts, if_neg h]; grind
theorem pg_map (f : List Int → Rat) (g : List Int → List Int) : ∀ ts : Tms, pg f (ts.map fun t => (g t.1, t.2)) = pg (fun p => f (g p)) ts
  | [] => rfl
  | t :: ts => by rw [List.map_cons, pg_cons, pg_cons, pg_map f g ts]
abbrev cpoly (ts : Tms) (k j : Nat) : Tms := polyOf (partD ts k j)
theorem pg_cpoly (f : List Int → Rat) {ts : Tms} {k j : Nat} (h : Kys ts) (hk : k < 4) : pg f (cpoly ts k j) = pg (fun p => if gd p k = (j : Int) then f (p.set k 0) else 0) ts := by
  rw [pg_polyOf, partD_eq h hk, pg_map f (fun p => p.set k 0), pg_filter (fun p => f (p.set k 0)) (fun p => decide (gd p k = (j : Int)))]
  apply pg_congr
  intro t _
  by_cases e : gd t.1 k = (j : Int)
  · rw [if_pos e, if_pos (by simp [e])]
  · rw [if_neg e, if_neg (by simp [e])]
/-! ### moved -/
def Top (s : Stretch) (g : Int → Rat) : Int → Rat := fun x => (begS s : Rat) * g x + (sloS s : Rat) * g (x + 1)
def itT (s : Stretch) : Nat → (Int → Rat) → Int → Rat
  | 0, g => g
  | i + 1, g => itT s i (Top s g)
def hF (line : Tms) (bot : Int) (cs : List Tms) : Tms × Int := cs.foldr (fun c st => hStep line bot st c) (constP 0, 1)
theorem hF_kys {line : Tms} {bot : Int} : ∀ {cs : List Tms}, (∀ c ∈ cs, Kys c) → Kys (hF line bot cs).1
  | [], _ => kys_constP 0
  | c :: cs, h => kys_sumWith (kys_timesP _ _).2 (h c List.mem_cons_self).2
theorem hF_fac {line : Tms} {bot : Int} : ∀ cs : List Tms, (hF line bot cs).2 = bot ^ cs.length
  | [] => by rw [List.length_nil, Int.pow_zero]; rfl
  | c :: cs => by
    show (hF line bot cs).2 * bot = _
    rw [hF_fac cs, List.length_cons, Int.pow_succ]
theorem pg_line (f : List Int → Rat) (k : Nat) (s : Stretch) : pg f (lineP k s) = (begS s : Rat) * f noP + (sloS s : Rat) * f (adk noP (powersOf (k : Int) 1)) := by
  unfold lineP
  rw [pg_sumWith f (kys_constP _) (kys_timesP _ _).2, pg_constP, pg_timesP, pg_constP, pg_unkP, Rat.intCast_one]
  grind
theorem pf_step {w : Nat → Int → Rat} {k : Nat} {s : Stretch} (hk : k < 4) (p : List Int) : pg (fun q => pf w (adk p q)) (lineP k s) = pf (upW w k (Top s (w k))) p := by
  rw [pg_line, pf_noP, pf_adk2]
  have := pf_lin (w := w) (k := k) (a := (begS s : Rat)) (b := (sloS s : Rat)) (g := w k) (h := fun x => w k (x + 1)) hk p
  rw [upW_self] at this
  exact this
theorem sm_first (f : Nat → Rat) : ∀ n, sm (n + 1) f = f 0 + sm n (fun i => f (i + 1))
  | 0 => by unfold sm; unfold sm; grind
  | n + 1 => by
    show sm (n + 1) f + f (n + 1) = f 0 + (sm n (fun i => f (i + 1)) + f (n + 1))
    rw [sm_first f n]; grind
theorem pg_hF {ts : Tms} {k : Nat} {s : Stretch} (h : Kys ts) (hk : k < 4) : ∀ (n b : Nat) (w : Nat → Int → Rat), pg (pf w) (hF (lineP k s) (botS s) ((List.range' b n).map fun j => cpoly ts k j)).1 = sm n (fun i => (botS s : Rat) ^ (n - 1 - i) * pg (pf (upW w k (itT s i (w k)))) (cpoly ts k (b + i)))
  | 0, b, w => by
    show pg (pf w) (constP 0) = 0
    rw [pg_constP, Rat.intCast_zero]; grind
  | n + 1, b, w => by
    have ck : ∀ c ∈ (List.range' (b + 1) n).map fun j => cpoly ts k j, Kys c := fun c hc => by
      obtain ⟨j, _, rfl⟩ := List.mem_map.mp hc
      exact polyOf_kys (partD_kys h.2)
    rw [List.range'_succ, List.map_cons]
    show pg (pf w) (sumWith (timesP (hF (lineP k s) (botS s) ((List.range' (b + 1) n).map fun j => cpoly ts k j)).1 (lineP k s)) (cpoly ts k b) (hF (lineP k s) (botS s) ((List.range' (b + 1) n).map fun j => cpoly ts k j)).2) = _
    rw [pg_sumWith _ (kys_timesP _ _) (polyOf_kys (partD_kys h.2)).2, pg_timesP, hF_fac, List.length_map, List.length_range', pg_congr (g := pf (upW w k (Top s (w k)))) (fun t _ => pf_step hk t.1), pg_hF h hk n (b + 1) (upW w k (Top s (w k))), sm_first, Rat.intCast_pow]
    have e1 : upW w k (itT s 0 (w k)) = w := upW_self
    rw [e1, Nat.add_zero, Nat.add_sub_cancel, Nat.sub_zero]
    have e2 : sm n (fun i => (botS s : Rat) ^ (n - 1 - i) * pg (pf (upW (upW w k (Top s (w k))) k (itT s i (upW w k (Top s (w k)) k)))) (cpoly ts k (b + 1 + i))) = sm n (fun i => (botS s : Rat) ^ (n - (i + 1)) * pg (pf (upW w k (itT s (i + 1) (w k)))) (cpoly ts k (b + (i + 1)))) := by
      apply sm_congr
      intro i hi
      rw [upW_upW, upW_same, show n - 1 - i = n - (i + 1) by omega, show b + 1 + i = b + (i + 1) by omega]
      rfl
    rw [e2]
    grind
/-- the sum over the terms instead -/
theorem pg_hF2 {ts : Tms} {k : Nat} {s : Stretch} (h : Kys ts) (hk : k < 4) (n b : Nat) (w : Nat → Int → Rat) : pg (pf w) (hF (lineP k s) (botS s) ((List.range' b n).map fun j => cpoly ts k j)).1 =
    pg (fun p => sm n (fun i => if gd p k = ((b + i : Nat) : Int) then pf (upW w k fun _ => (botS s : Rat) ^ (n - 1 - i) * itT s i (w k) 0) p else 0)) ts := by
  rw [pg_hF h hk, pg_sm (fun i p => if gd p k = ((b + i : Nat) : Int) then pf (upW w k fun _ => (botS s : Rat) ^ (n - 1 - i) * itT s i (w k) 0) p else 0)]
  apply sm_congr
  intro i hi
  rw [pg_cpoly _ h hk, ← pg_smul]
  apply pg_congr
  intro t ht
  by_cases e : gd t.1 k = ((b + i : Nat) : Int)
  · rw [if_pos e, if_pos e, pf_set (h.2 t ht) hk, upW_upW, upW_same, pf_smul hk]
  · rw [if_neg e, if_neg e]; grind
theorem countsBy_eq (ts : Tms) (k : Nat) : countsBy ts k = (List.range' 0 ((degI ts k).toNat + 1)).map fun j => cpoly ts k j := by
  unfold countsBy
  rw [List.range_eq_range']
theorem hornE_eq (ts : Tms) (k : Nat) (s : Stretch) : hornE ts k s = hF (lineP k s) (botS s) (countsBy ts k) := by
  unfold hornE hF
  rw [List.foldl_reverse]
theorem hornS_eq (ts : Tms) (k : Nat) (s : Stretch) (i : Nat) (h : i ≤ (degI ts k).toNat + 1) : hornS ts k s i = hF (lineP k s) (botS s) ((List.range' ((degI ts k).toNat + 1 - i) i).map fun j => cpoly ts k j) := by
  unfold hornS hF
  have hl : (countsBy ts k).length = (degI ts k).toNat + 1 := by unfold countsBy; rw [List.length_map, List.length_range]
  rw [List.take_reverse, List.foldl_reverse, hl, countsBy_eq, ← List.map_drop, List.drop_range']
  congr 3
  · omega
  · omega
def Mv (s : Stretch) (D : Nat) (g : Int → Rat) : Int → Rat := fun x => (botS s : Rat) ^ (D - x.toNat) * itT s x.toNat g 0
theorem pg_moved {ts : Tms} {k : Nat} {s : Stretch} (h : Kys ts) (hk : k < 4) (hp : ∀ e ∈ ts, 0 ≤ gd e.1 k) (w : Nat → Int → Rat) : pg (pf w) (movedP ts k s).1 = pg (pf (upW w k (Mv s (degI ts k).toNat (w k)))) ts := by
  show pg (pf w) (hornE ts k s).1 = _
  rw [hornE_eq, countsBy_eq, pg_hF2 h hk]
  apply pg_congr
  intro t ht
  have h1 := hp t ht
  have h2 : gd t.1 k ≤ degI ts k := nn_gd ht
  rw [sm_one (j := (gd t.1 k).toNat) (by omega) (fun i hi hne => if_neg (by omega)), if_pos (by omega)]
  refine pf_vals fun l hl => ?_
  by_cases e : l = k
  · subst e
    rw [upW_same, upW_same]
    rfl
  · rw [upW_ne e, upW_ne e]
theorem moved_fac (ts : Tms) (k : Nat) (s : Stretch) : (movedP ts k s).2 = botS s ^ (degI ts k).toNat := by
  show (hornE ts k s).2 / botS s = _
  rw [hornE_eq, hF_fac, show (countsBy ts k).length = (degI ts k).toNat + 1 by unfold countsBy; rw [List.length_map, List.length_range], Int.pow_succ]
  exact Int.mul_ediv_cancel _ (by have := bot_pos s; omega)
/-! ### told -/
def Td (D : Nat) (g : Int → Rat) : Int → Rat := fun x => sm (D + 1) (fun i => if x ≤ (i : Int) then (tc D i x.toNat : Rat) * g (i : Int) else 0)
theorem pg_here {ts : Tms} {k D i : Nat} (h : Kys ts) (f : List Int → Rat) : ∀ n, n ≤ (degI ts k).toNat + 1 → pg f (hereP (countsBy ts k) D i n) = sm n (fun j => (tc D i j : Rat) * pg f (cpoly ts k j))
  | 0, _ => by
    show pg f (constP 0) = 0
    rw [pg_constP, Rat.intCast_zero]; grind
  | n + 1, hn => by
    have bk := by_kys (k := k) h.2
    obtain ⟨g1, g2⟩ := by_get (ts := ts) (k := k) (j := n) (by omega)
    have e : (countsBy ts k).getD n [] = cpoly ts k n := by
      rw [List.getD_eq_getElem?_getD]
      unfold countsBy
      rw [List.getElem?_map, List.getElem?_range (by omega)]; rfl
    unfold hereP
    rw [range_foldl]
    have ih := pg_here (ts := ts) (k := k) (D := D) (i := i) h f n (by omega)
    have kh := hereP_kys _ bk D i n
    unfold hereP at ih kh
    rw [pg_sumWith f kh (bk _ g2).2, ih, e]
    rfl
theorem pg_toldS {ts : Tms} {k : Nat} (h : Kys ts) (f : List Int → Rat) (D : Nat) : ∀ n, pg f (toldS (countsBy ts k) D k n) = sm n (fun i => pg (fun p => f (adk p (powersOf (k : Int) (i : Int)))) (hereP (countsBy ts k) D i (i + 1)))
  | 0 => by
    show pg f (constP 0) = 0
    rw [pg_constP, Rat.intCast_zero]; grind
  | n + 1 => by
    unfold toldS
    rw [range_foldl]
    have ih := pg_toldS (ts := ts) (k := k) h f D n
    have kt := toldS_kys (countsBy ts k) D k n
    unfold toldS at ih kt
    rw [pg_sumWith f kt (kys_timesP _ _).2, ih, pg_timesP, Rat.intCast_one]
    have e : pg (fun p => pg (fun q => f (adk p q)) (unkP (k : Int) (n : Int))) (hereP (countsBy ts k) D n (n + 1)) = pg (fun p => f (adk p (powersOf (k : Int) (n : Int)))) (hereP (countsBy ts k) D n (n + 1)) := pg_congr fun t _ => pg_unkP _ _ _
    rw [e]
    show _ = sm n _ + _
    grind
theorem pg_toldS2 {ts : Tms} {k : Nat} (h : Kys ts) (hk : k < 4) (D n : Nat) (hn : n ≤ (degI ts k).toNat + 1) (w : Nat → Int → Rat) : pg (pf w) (toldS (countsBy ts k) D k n) =
    pg (fun p => sm n (fun i => sm (i + 1) (fun j => if gd p k = (j : Int) then pf (upW w k fun _ => (tc D i j : Rat) * w k (i : Int)) p else 0))) ts := by
  rw [pg_toldS h, pg_sm (fun i p => sm (i + 1) (fun j => if gd p k = (j : Int) then pf (upW w k fun _ => (tc D i j : Rat) * w k (i : Int)) p else 0))]
  apply sm_congr
  intro i hi
  rw [pg_here h _ (i + 1) (by omega), pg_sm (fun j p => if gd p k = (j : Int) then pf (upW w k fun _ => (tc D i j : Rat) * w k (i : Int)) p else 0)]
  apply sm_congr
  intro j hj
  rw [pg_cpoly _ h hk, ← pg_smul]
  apply pg_congr
  intro t ht
  by_cases e : gd t.1 k = (j : Int)
  · rw [if_pos e, if_pos e, pf_adk, pf_set (h.2 t ht) hk, upW_upW, upW_same, pf_smul hk]
    congr 2
    funext x
    rw [Int.zero_add]
  · rw [if_neg e, if_neg e]; grind
theorem pg_told {ts : Tms} {k : Nat} (h : Kys ts) (hk : k < 4) (hp : ∀ e ∈ ts, 0 ≤ gd e.1 k) (w : Nat → Int → Rat) : pg (pf w) (toldP ts k) = pg (pf (upW w k (Td (degI ts k).toNat (w k)))) ts := by
  unfold toldP
  rw [pg_toldS2 h hk _ _ (Nat.le_refl _)]
  apply pg_congr
  intro t ht
  have h1 := hp t ht
  have e : ∀ i, sm (i + 1) (fun j => if gd t.1 k = (j : Int) then pf (upW w k fun _ => (tc (degI ts k).toNat i j : Rat) * w k (i : Int)) t.1 else 0) = pf (upW w k fun x => if x ≤ (i : Int) then (tc (degI ts k).toNat i x.toNat : Rat) * w k (i : Int) else 0) t.1 := by
    intro i
    by_cases hi : gd t.1 k ≤ (i : Int)
    · rw [sm_one (j := (gd t.1 k).toNat) (by omega) (fun j _ hne => if_neg (by omega)), if_pos (by omega)]
      refine pf_vals fun l hl => ?_
      by_cases e : l = k
      · subst e
        rw [upW_same, upW_same, if_pos hi]
      · rw [upW_ne e, upW_ne e]
    · rw [sm_none (fun j hj => if_neg (by omega)), pf_0 hk]
      rw [upW_same, if_neg hi]
  rw [sm_congr fun i _ => e i, pf_sm (g := fun i x => if x ≤ (i : Int) then (tc (degI ts k).toNat i x.toNat : Rat) * w k (i : Int) else 0) hk]
  rfl
end Bx

set_option Elab.async false
set_option linter.all false
set_option maxRecDepth 100000
set_option maxHeartbeats 2000000
namespace Bx
/-! ### indicators, supports, degrees -/
def ind (m : Int) : Int → Rat := fun x => if x = m then 1 else 0
theorem ind_self (m : Int) : ind m m = 1 := if_pos rfl
theorem ind_ne {m x : Int} (h : ind m x ≠ 0) : x = m := by
  unfold ind at h
  by_cases e : x = m
  · exact e
  · rw [if_neg e] at h; exact absurd rfl h
def wq (q : List Int) : Nat → Int → Rat := fun l => ind (gd q l)
theorem pf_ne {w : Nat → Int → Rat} {p : List Int} (h : pf w p ≠ 0) : ∀ l, l < 4 → w l (gd p l) ≠ 0 := fun l hl e => h (pf_0 hl e)
theorem list4 {p q : List Int} (hp : p.length = 4) (hq : q.length = 4) (h : ∀ l, l < 4 → gd p l = gd q l) : p = q := by
  apply List.ext_getElem?
  intro n
  by_cases hn : n < 4
  · rw [gd_get (by omega), gd_get (by omega), h n hn]
  · rw [List.getElem?_eq_none (by omega), List.getElem?_eq_none (by omega)]
theorem pf_wq {p q : List Int} (hp : p.length = 4) (hq : q.length = 4) : pf (wq q) p = if p = q then 1 else 0 := by
  by_cases e : p = q
  · subst e
    rw [if_pos rfl]
    unfold pf wq
    rw [ind_self, ind_self, ind_self, ind_self]; grind
  · rw [if_neg e]
    apply Classical.byContradiction
    intro h
    exact e (list4 hp hq fun l hl => ind_ne (pf_ne h l hl))
/-- the count of a key -/
theorem pg_coef {ts : Tms} {q : List Int} (h : Kys ts) (hq : q.length = 4) : pg (pf (wq q)) ts = (((lkT ts q).getD 0 : Int) : Rat) := by
  cases e : lkT ts q with
  | some c =>
    have m := lkT_some e
    rw [pg_single h.1 m fun u hu hne => by rw [pf_wq (h.2 u hu) hq, if_neg hne], pf_wq hq hq, if_pos rfl]
    show (c : Rat) * 1 = (c : Rat)
    rw [Rat.mul_one]
  | none =>
    rw [pg_congr (g := fun _ => 0) fun t ht => ?_, pg_zero]
    · rfl
    · rw [pf_wq (h.2 t ht) hq, if_neg]
      intro z
      rw [← z, lkT_mem h.1 ht] at e
      cases e
def Nz (ts : Tms) : Prop := ∀ e ∈ ts, e.2 ≠ 0
theorem nz_polyOf (xs : Tms) : Nz (polyOf xs) := fun e he => (polyOf_sub he).2
theorem coef_ne {ts : Tms} {e : List Int × Int} (h : Kys ts) (hz : Nz ts) (he : e ∈ ts) : pg (pf (wq e.1)) ts ≠ 0 := by
  rw [pg_coef h (h.2 e he), lkT_mem h.1 he]
  intro z
  exact hz e he (by simpa using z)
theorem key_of {ts : Tms} {q : List Int} (h : Kys ts) (hq : q.length = 4) (hc : pg (pf (wq q)) ts ≠ 0) : ∃ e ∈ ts, e.1 = q := by
  rw [pg_coef h hq] at hc
  cases e : lkT ts q with
  | some c => exact ⟨_, lkT_some e, rfl⟩
  | none => rw [e] at hc; exact absurd rfl hc
theorem sm_ne {f : Nat → Rat} : ∀ {n : Nat}, sm n f ≠ 0 → ∃ i, i < n ∧ f i ≠ 0
  | 0, h => absurd rfl h
  | n + 1, h => by
    by_cases e : f n = 0
    · obtain ⟨i, hi, h2⟩ := sm_ne (f := f) (n := n) (fun z => h (by unfold sm; rw [z, e]; grind))
      exact ⟨i, by omega, h2⟩
    · exact ⟨n, by omega, e⟩
theorem itT_ne {s : Stretch} : ∀ {i : Nat} {g : Int → Rat} {y : Int}, itT s i g y ≠ 0 → ∃ j : Nat, j ≤ i ∧ g (y + (j : Int)) ≠ 0
  | 0, g, y, h => ⟨0, Nat.le_refl _, by have e : y + ((0 : Nat) : Int) = y := by omega
                                        rw [e]; exact h⟩
  | i + 1, g, y, h => by
    obtain ⟨j, hj, h2⟩ := itT_ne (i := i) (g := Top s g) h
    unfold Top at h2
    by_cases e : g (y + (j : Int)) = 0
    · refine ⟨j + 1, by omega, fun z => h2 ?_⟩
      have e2 : y + (j : Int) + 1 = y + ((j + 1 : Nat) : Int) := by omega
      rw [e, e2, z]; grind
    · exact ⟨j, by omega, e⟩
/-- where the terms of the first i steps lie -/
theorem horn_sup {ts : Tms} {k : Nat} {s : Stretch} (h : Kys ts) (hk : k < 4) {n b : Nat} {e : List Int × Int} (he : e ∈ (hF (lineP k s) (botS s) ((List.range' b n).map fun j => cpoly ts k j)).1) :
    ∃ t ∈ ts, (∀ l, l < 4 → l ≠ k → gd e.1 l = gd t.1 l) ∧ 0 ≤ gd e.1 k ∧ gd e.1 k ≤ gd t.1 k := by
  have ck : ∀ c ∈ (List.range' b n).map fun j => cpoly ts k j, Kys c := fun c hc => by
    obtain ⟨j, _, rfl⟩ := List.mem_map.mp hc
    exact polyOf_kys (partD_kys h.2)
  have kh := hF_kys (line := lineP k s) (bot := botS s) ck
  have nz : Nz (hF (lineP k s) (botS s) ((List.range' b n).map fun j => cpoly ts k j)).1 := by
    cases hl : (List.range' b n).map fun j => cpoly ts k j with
    | nil => exact nz_polyOf _
    | cons c cs => exact nz_polyOf _
  have c := coef_ne kh nz he
  rw [pg_hF2 h hk] at c
  obtain ⟨t, ht, c2⟩ := pg_ne c
  obtain ⟨i, hi, c3⟩ := sm_ne c2
  by_cases hg : gd t.1 k = ((b + i : Nat) : Int)
  · rw [if_pos hg] at c3
    have c4 := pf_ne c3
    refine ⟨t, ht, fun l hl hne => ?_, ?_⟩
    · have := c4 l hl
      rw [upW_ne hne] at this
      exact (ind_ne this).symm
    · have := c4 k hk
      rw [upW_same] at this
      have h5 : itT s i (wq e.1 k) 0 ≠ 0 := fun z => this (by rw [z]; grind)
      obtain ⟨j, hj, h6⟩ := itT_ne h5
      have h7 := ind_ne h6
      omega
  · rw [if_neg hg] at c3; exact absurd rfl c3
theorem here_sup {ts : Tms} {k D i n : Nat} (h : Kys ts) (hk : k < 4) (hn : n ≤ (degI ts k).toNat + 1) {e : List Int × Int} (he : e ∈ hereP (countsBy ts k) D i n) :
    ∃ t ∈ ts, (∀ l, l < 4 → l ≠ k → gd e.1 l = gd t.1 l) ∧ gd e.1 k = 0 := by
  have kh := hereP_kys _ (by_kys (k := k) h.2) D i n
  have nz : Nz (hereP (countsBy ts k) D i n) := by
    cases n with
    | zero => exact nz_polyOf _
    | succ n => unfold hereP; rw [range_foldl]; exact nz_polyOf _
  have h4 := kh.2 e he
  have c := coef_ne kh nz he
  rw [pg_here h _ n hn] at c
  obtain ⟨j, hj, c2⟩ := sm_ne c
  have c3 : pg (pf (wq e.1)) (cpoly ts k j) ≠ 0 := fun z => c2 (by rw [z]; grind)
  rw [pg_cpoly _ h hk] at c3
  obtain ⟨t, ht, c4⟩ := pg_ne c3
  by_cases hg : gd t.1 k = (j : Int)
  · rw [if_pos hg] at c4
    have c5 := pf_ne c4
    refine ⟨t, ht, fun l hl hne => ?_, ?_⟩
    · have := ind_ne (c5 l hl)
      rw [gd_set (by rw [h.2 t ht]; exact hk), if_neg hne] at this
      exact this.symm
    · have := ind_ne (c5 k hk)
      rw [gd_set (by rw [h.2 t ht]; exact hk), if_pos rfl] at this
      exact this.symm
  · rw [if_neg hg] at c4; exact absurd rfl c4
theorem told_sup {ts : Tms} {k D n : Nat} (h : Kys ts) (hk : k < 4) (hn : n ≤ (degI ts k).toNat + 1) {e : List Int × Int} (he : e ∈ toldS (countsBy ts k) D k n) :
    ∃ t ∈ ts, (∀ l, l < 4 → l ≠ k → gd e.1 l = gd t.1 l) ∧ gd t.1 k ≤ gd e.1 k ∧ 0 ≤ gd e.1 k ∧ gd e.1 k < (n : Int) := by
  have kh := toldS_kys (countsBy ts k) D k n
  have nz : Nz (toldS (countsBy ts k) D k n) := by
    cases n with
    | zero => exact nz_polyOf _
    | succ n => unfold toldS; rw [range_foldl]; exact nz_polyOf _
  have c := coef_ne kh nz he
  rw [pg_toldS2 h hk D n hn] at c
  obtain ⟨t, ht, c2⟩ := pg_ne c
  obtain ⟨i, hi, c3⟩ := sm_ne c2
  obtain ⟨j, hj, c4⟩ := sm_ne c3
  by_cases hg : gd t.1 k = (j : Int)
  · rw [if_pos hg] at c4
    have c5 := pf_ne c4
    refine ⟨t, ht, fun l hl hne => ?_, ?_⟩
    · have := c5 l hl
      rw [upW_ne hne] at this
      exact (ind_ne this).symm
    · have := c5 k hk
      rw [upW_same] at this
      have h5 : wq e.1 k (i : Int) ≠ 0 := fun z => this (by rw [z]; grind)
      have h7 := ind_ne h5
      omega
  · rw [if_neg hg] at c4; exact absurd rfl c4
theorem moved_kys {ts : Tms} {k : Nat} {s : Stretch} (h : Kys ts) : Kys (movedP ts k s).1 := by
  show Kys (hornE ts k s).1
  rw [hornE_eq]
  exact hF_kys (by_kys h.2)
theorem moved_nz {ts : Tms} {k : Nat} {s : Stretch} : Nz (movedP ts k s).1 := by
  show Nz (hornE ts k s).1
  rw [hornE_eq]
  cases countsBy ts k with
  | nil => exact nz_polyOf _
  | cons c cs => exact nz_polyOf _
theorem told_kys (ts : Tms) (k : Nat) : Kys (toldP ts k) := toldS_kys _ _ _ _
theorem told_nz (ts : Tms) (k : Nat) : Nz (toldP ts k) := by unfold toldP toldS; rw [range_foldl]; exact nz_polyOf _
theorem moved_sup {ts : Tms} {k : Nat} {s : Stretch} (h : Kys ts) (hk : k < 4) {e : List Int × Int} (he : e ∈ (movedP ts k s).1) :
    ∃ t ∈ ts, (∀ l, l < 4 → l ≠ k → gd e.1 l = gd t.1 l) ∧ 0 ≤ gd e.1 k ∧ gd e.1 k ≤ gd t.1 k := by
  have he : e ∈ (hornE ts k s).1 := he
  rw [hornE_eq, countsBy_eq] at he
  exact horn_sup h hk he
/-! ### degrees -/
theorem degI_le {ts : Tms} {k : Nat} {c : Int} (h0 : 0 ≤ c) (h : ∀ e ∈ ts, gd e.1 k ≤ c) : degI ts k ≤ c := by
  unfold degI
  rcases List.mem_cons.mp (mxI_mem (ts.map fun t => gd t.1 k)) with e | e
  · rw [e]; exact h0
  · obtain ⟨t, ht, e2⟩ := List.mem_map.mp e
    rw [← e2]; exact h t ht
theorem degI_at {ts : Tms} {k : Nat} (h : 0 < degI ts k) : ∃ t ∈ ts, gd t.1 k = degI ts k := by
  unfold degI at *
  rcases List.mem_cons.mp (mxI_mem (ts.map fun t => gd t.1 k)) with e | e
  · omega
  · obtain ⟨t, ht, e2⟩ := List.mem_map.mp e
    exact ⟨t, ht, e2⟩
theorem degI_0 (ts : Tms) (k : Nat) : 0 ≤ degI ts k := mxI_0 _
/-- a term of the class with the greatest value -/
theorem arg_max (P : List Int × Int → Prop) (f : List Int × Int → Int) : ∀ {ts : Tms}, (∃ t ∈ ts, P t) → ∃ t ∈ ts, P t ∧ ∀ u ∈ ts, P u → f u ≤ f t
  | [], ⟨t, h, _⟩ => nomatch h
  | x :: xs, ⟨t, ht, pt⟩ => by
    by_cases hx : ∃ u ∈ xs, P u
    · obtain ⟨u, hu, pu, mu⟩ := arg_max P f hx
      by_cases px : P x ∧ f u < f x
      · refine ⟨x, List.mem_cons_self, px.1, fun v hv pv => ?_⟩
        rcases List.mem_cons.mp hv with rfl | hv
        · exact Int.le_refl _
        · have := mu v hv pv; omega
      · refine ⟨u, List.mem_cons_of_mem _ hu, pu, fun v hv pv => ?_⟩
        rcases List.mem_cons.mp hv with rfl | hv
        · by_cases z : f u < f v
          · exact absurd ⟨pv, z⟩ px
          · omega
        · exact mu v hv pv
    · rcases List.mem_cons.mp ht with rfl | ht
      · refine ⟨t, List.mem_cons_self, pt, fun v hv pv => ?_⟩
        rcases List.mem_cons.mp hv with rfl | hv
        · exact Int.le_refl _
        · exact absurd ⟨v, hv, pv⟩ hx
      · exact absurd ⟨t, ht, pt⟩ hx
theorem itT_lin {s : Stretch} {a b : Rat} : ∀ {i : Nat} {g h : Int → Rat} {y : Int}, itT s i (fun x => a * g x + b * h x) y = a * itT s i g y + b * itT s i h y
  | 0, g, h, y => rfl
  | i + 1, g, h, y => by
    show itT s i (Top s fun x => a * g x + b * h x) y = a * itT s i (Top s g) y + b * itT s i (Top s h) y
    rw [← itT_lin]
    congr 1
    funext x
    unfold Top
    grind
theorem itT_ind {s : Stretch} : ∀ (i : Nat) (y : Int), itT s i (ind (y + (i : Int))) y = (sloS s : Rat) ^ i
  | 0, y => by
    have e : y + ((0 : Nat) : Int) = y := by omega
    rw [e, Rat.pow_zero]; exact ind_self y
  | i + 1, y => by
    have e1 : Top s (ind (y + ((i + 1 : Nat) : Int))) = fun x => (begS s : Rat) * ind (y + ((i + 1 : Nat) : Int)) x + (sloS s : Rat) * ind (y + (i : Int)) x := by
      funext x
      unfold Top ind
      congr 2
      by_cases e : x = y + (i : Int)
      · rw [if_pos e, if_pos (by omega)]
      · rw [if_neg e, if_neg (by omega)]
    show itT s i (Top s (ind (y + ((i + 1 : Nat) : Int)))) y = _
    rw [e1, itT_lin, itT_ind i y, Rat.pow_succ]
    have e2 : itT s i (ind (y + ((i + 1 : Nat) : Int))) y = 0 := by
      apply Classical.byContradiction
      intro z
      obtain ⟨j, hj, h2⟩ := itT_ne z
      have := ind_ne h2
      omega
    rw [e2]; grind
theorem rpow_ne {a : Rat} (h : a ≠ 0) : ∀ n : Nat, a ^ n ≠ 0
  | 0 => by rw [Rat.pow_zero]; decide
  | n + 1 => by
    rw [Rat.pow_succ]
    intro z
    rcases Rat.mul_eq_zero.mp z with e | e
    · exact rpow_ne h n e
    · exact h e
theorem mul4_ne {a b c d : Rat} (h1 : a ≠ 0) (h2 : b ≠ 0) (h3 : c ≠ 0) (h4 : d ≠ 0) : a * b * c * d ≠ 0 := by
  intro z
  rcases Rat.mul_eq_zero.mp z with e | e
  · rcases Rat.mul_eq_zero.mp e with e | e
    · rcases Rat.mul_eq_zero.mp e with e | e
      · exact h1 e
      · exact h2 e
    · exact h3 e
  · exact h4 e
theorem pf_ne_of {w : Nat → Int → Rat} {p : List Int} (h : ∀ l, l < 4 → w l (gd p l) ≠ 0) : pf w p ≠ 0 := mul4_ne (h 0 (by decide)) (h 1 (by decide)) (h 2 (by decide)) (h 3 (by decide))
theorem moved_deg {ts : Tms} {k : Nat} {s : Stretch} (h : Kys ts) (hz : Nz ts) (hk : k < 4) (hp : ∀ e ∈ ts, ∀ l, 0 ≤ gd e.1 l) (hs : sloS s ≠ 0) {l : Nat} (hl : l < 4) : degI (movedP ts k s).1 l = degI ts l := by
  apply Int.le_antisymm
  · refine degI_le (degI_0 _ _) fun e he => ?_
    obtain ⟨t, ht, h1, h2, h3⟩ := moved_sup h hk he
    have h4 : gd t.1 l ≤ degI ts l := nn_gd ht
    by_cases e2 : l = k
    · subst e2; omega
    · rw [h1 l hl e2]; exact h4
  · by_cases h0 : degI ts l = 0
    · rw [h0]; exact degI_0 _ _
    · have hpos : 0 < degI ts l := by have := degI_0 ts l; omega
      obtain ⟨t, ht, pt, mt⟩ := arg_max (fun t => gd t.1 l = degI ts l) (fun t => gd t.1 k) (degI_at hpos)
      have g0 := hp t ht k
      have gD : gd t.1 k ≤ degI ts k := nn_gd ht
      have h4 := h.2 t ht
      have c : pg (pf (wq t.1)) (movedP ts k s).1 ≠ 0 := by
        rw [pg_moved h hk (fun e he => hp e he k), pg_single h.1 ht fun u hu hne => ?_]
        · intro z
          rcases Rat.mul_eq_zero.mp z with e | e
          · exact hz t ht (by simpa using e)
          · refine pf_ne_of (fun l' hl' => ?_) e
            by_cases e2 : l' = k
            · subst e2
              rw [upW_same]
              unfold Mv wq
              have e3 := itT_ind (s := s) (gd t.1 l').toNat 0
              rw [Int.zero_add, Int.toNat_of_nonneg g0] at e3
              rw [e3]
              intro z2
              rcases Rat.mul_eq_zero.mp z2 with e | e
              · exact rpow_ne (by have := bot_pos s; intro z; have : botS s = 0 := by simpa using z
                                  omega) _ e
              · exact rpow_ne (by intro z; exact hs (by simpa using z)) _ e
            · rw [upW_ne e2]; unfold wq; rw [ind_self]; decide
        · apply Classical.byContradiction
          intro z
          have c5 := pf_ne z
          apply hne
          have hoff : ∀ l', l' < 4 → l' ≠ k → gd u.1 l' = gd t.1 l' := fun l' hl' hn => by
            have := c5 l' hl'
            rw [upW_ne hn] at this
            exact ind_ne this
          have hkk : gd t.1 k ≤ gd u.1 k := by
            have := c5 k hk
            rw [upW_same] at this
            have h5 : itT s (gd u.1 k).toNat (wq t.1 k) 0 ≠ 0 := fun z => this (by unfold Mv; rw [z]; grind)
            obtain ⟨j, hj, h6⟩ := itT_ne h5
            have h7 := ind_ne h6
            have := hp u hu k
            omega
          have hPu : gd u.1 l = degI ts l := by
            by_cases e2 : l = k
            · subst e2
              have : gd u.1 l ≤ degI ts l := nn_gd hu
              omega
            · rw [hoff l hl e2]; exact pt
          have hle := mt u hu hPu
          exact list4 (h.2 u hu) h4 fun l' hl' => by
            by_cases e2 : l' = k
            · subst e2; omega
            · exact hoff l' hl' e2
      obtain ⟨e, he, ee⟩ := key_of (moved_kys h) h4 c
      have : gd e.1 l ≤ degI (movedP ts k s).1 l := nn_gd he
      rw [ee, pt] at this
      exact this
theorem told_deg {ts : Tms} {k : Nat} (h : Kys ts) (hz : Nz ts) (hk : k < 4) (hp : ∀ e ∈ ts, ∀ l, 0 ≤ gd e.1 l) {l : Nat} (hl : l < 4) (hlk : l ≠ k) : degI (toldP ts k) l = degI ts l := by
  apply Int.le_antisymm
  · refine degI_le (degI_0 _ _) fun e he => ?_
    obtain ⟨t, ht, h1, _⟩ := told_sup h hk (Nat.le_refl _) he
    rw [h1 l hl hlk]; exact nn_gd ht
  · by_cases h0 : degI ts l = 0
    · rw [h0]; exact degI_0 _ _
    · have hpos : 0 < degI ts l := by have := degI_0 ts l; omega
      obtain ⟨t, ht, pt, mt⟩ := arg_max (fun t => gd t.1 l = degI ts l) (fun t => - gd t.1 k) (degI_at hpos)
      have g0 := hp t ht k
      have gD : gd t.1 k ≤ degI ts k := nn_gd ht
      have h4 := h.2 t ht
      have c : pg (pf (wq t.1)) (toldP ts k) ≠ 0 := by
        rw [pg_told h hk (fun e he => hp e he k), pg_single h.1 ht fun u hu hne => ?_]
        · intro z
          rcases Rat.mul_eq_zero.mp z with e | e
          · exact hz t ht (by simpa using e)
          · refine pf_ne_of (fun l' hl' => ?_) e
            by_cases e2 : l' = k
            · subst e2
              rw [upW_same]
              unfold Td wq
              rw [sm_one (j := (gd t.1 l').toNat) (by omega) (fun i hi hne => ?_), if_pos (by omega), Int.toNat_of_nonneg g0, ind_self, Rat.mul_one]
              · intro z
                have z2 : tc (degI ts l').toNat (gd t.1 l').toNat (gd t.1 l').toNat = 0 := by simpa using z
                unfold tc at z2
                rw [Nat.sub_self] at z2
                have f1 := fct_pos (gd t.1 l').toNat
                have f2 := fct_pos ((degI ts l').toNat - (gd t.1 l').toNat)
                rw [show (fct 0 : Int) = 1 from rfl, Int.ediv_one] at z2
                rcases Int.mul_eq_zero.mp z2 with e | e <;> omega
              · by_cases hc : gd t.1 l' ≤ (i : Int)
                · rw [if_pos hc]
                  have : ind (gd t.1 l') (i : Int) = 0 := by unfold ind; rw [if_neg (by omega)]
                  rw [this]; grind
                · rw [if_neg hc]
            · rw [upW_ne e2]; unfold wq; rw [ind_self]; decide
        · apply Classical.byContradiction
          intro z
          have c5 := pf_ne z
          apply hne
          have hoff : ∀ l', l' < 4 → l' ≠ k → gd u.1 l' = gd t.1 l' := fun l' hl' hn => by
            have := c5 l' hl'
            rw [upW_ne hn] at this
            exact ind_ne this
          have hkk : gd u.1 k ≤ gd t.1 k := by
            have := c5 k hk
            rw [upW_same] at this
            unfold Td at this
            obtain ⟨i, hi, h6⟩ := sm_ne this
            by_cases hc : gd u.1 k ≤ (i : Int)
            · rw [if_pos hc] at h6
              have h7 : wq t.1 k (i : Int) ≠ 0 := fun z => h6 (by rw [z]; grind)
              have := ind_ne h7
              omega
            · rw [if_neg hc] at h6; exact absurd rfl h6
          have hPu : gd u.1 l = degI ts l := by rw [hoff l hl hlk]; exact pt
          have hle := mt u hu hPu
          have hle : - gd u.1 k ≤ - gd t.1 k := hle
          exact list4 (h.2 u hu) h4 fun l' hl' => by
            by_cases e2 : l' = k
            · subst e2; omega
            · exact hoff l' hl' e2
      obtain ⟨e, he, ee⟩ := key_of (told_kys ts k) h4 c
      have : gd e.1 l ≤ degI (toldP ts k) l := nn_gd he
      rw [ee, pt] at this
      exact this
end Bx

set_option Elab.async false
set_option linter.all false
set_option maxRecDepth 100000
set_option maxHeartbeats 2000000
namespace Bx
/-! ### how many terms, how great -/
theorem idxs_has : ∀ (ds : List Nat) (a : List (List Int)) (z y : List Int), z ∈ a → PySem.Paired (fun (d : Nat) (x : Int) => 0 ≤ x ∧ x ≤ (d : Int)) ds y → z ++ y ∈ ds.foldl (fun found m => found.flatMap fun ix => (List.range (m + 1)).map fun (h : Nat) => ix ++ [(h : Int)]) a
  | [], a, z, y, hz, p => by cases p; rw [List.append_nil]; exact hz
  | d :: ds, a, z, y, hz, p => by
    cases p with
    | @cons _ x _ ys h t =>
    rw [List.foldl_cons]
    have := idxs_has ds (a.flatMap fun ix => (List.range (d + 1)).map fun (h : Nat) => ix ++ [(h : Int)]) (z ++ [x]) ys (List.mem_flatMap.mpr ⟨z, hz, List.mem_map.mpr ⟨x.toNat, List.mem_range.mpr (by omega), by rw [Int.toNat_of_nonneg h.1]⟩⟩) t
    rw [List.append_assoc] at this
    exact this
theorem idxs_mem {ds : List Nat} {y : List Int} (h : PySem.Paired (fun (d : Nat) (x : Int) => 0 ≤ x ∧ x ≤ (d : Int)) ds y) : y ∈ idxs ds := idxs_has ds [[]] [] y List.mem_cons_self h
/-- all powers within g -/
def Grid (g : Nat → Nat) (ts : Tms) : Prop := ∀ e ∈ ts, ∀ l, l < 4 → 0 ≤ gd e.1 l ∧ gd e.1 l ≤ (g l : Int)
def vol (g : Nat → Nat) : Nat := (g 0 + 1) * ((g 1 + 1) * ((g 2 + 1) * (g 3 + 1)))
theorem list4_eta {p : List Int} (h : p.length = 4) : p = [gd p 0, gd p 1, gd p 2, gd p 3] := list4 h rfl fun l hl => by
  match l, hl with
  | 0, _ => rfl
  | 1, _ => rfl
  | 2, _ => rfl
  | 3, _ => rfl
theorem grid_len {g : Nat → Nat} {ts : Tms} (h : Kys ts) (hg : Grid g ts) : ts.length ≤ vol g := by
  have h1 : (ts.map (·.1)).length ≤ (idxs [g 0, g 1, g 2, g 3]).length := by
    refine List.Nodup.length_le_of_subset h.1 fun p hp => ?_
    obtain ⟨e, he, rfl⟩ := List.mem_map.mp hp
    rw [list4_eta (h.2 e he)]
    exact idxs_mem (.cons (hg e he 0 (by decide)) (.cons (hg e he 1 (by decide)) (.cons (hg e he 2 (by decide)) (.cons (hg e he 3 (by decide)) .nil))))
  rw [List.length_map, idxs_len] at h1
  have e : ([g 0, g 1, g 2, g 3].map (· + 1)).foldr (· * ·) 1 = vol g := by
    show (g 0 + 1) * ((g 1 + 1) * ((g 2 + 1) * ((g 3 + 1) * 1))) = _
    rw [Nat.mul_one]; rfl
  rw [e] at h1
  exact h1
theorem hF_nm {line : Tms} {bot : Int} {X N : Nat} (h1 : nm line ≤ X) (h2 : bot.natAbs ≤ X) (hX : 1 ≤ X) : ∀ {cs : List Tms}, (∀ c ∈ cs, Kys c) → (∀ c ∈ cs, nm c ≤ N) → nm (hF line bot cs).1 ≤ cs.length * X ^ cs.length * N
  | [], _, _ => by
    show nm (constP 0) ≤ _
    have := nm_constP 0
    simp at this ⊢
    exact this
  | c :: cs, hk, hc => by
    have ih := hF_nm h1 h2 hX (cs := cs) (fun c hc => hk c (List.mem_cons_of_mem _ hc)) (fun d hd => hc d (List.mem_cons_of_mem _ hd))
    show nm (sumWith (timesP (hF line bot cs).1 line) c (hF line bot cs).2) ≤ _
    have q1 := nm_sumWith (m := (hF line bot cs).2) (kys_timesP (hF line bot cs).1 line).2 (hk c List.mem_cons_self).2
    have q2 := nm_timesP (hF line bot cs).1 line
    have q3 : (hF line bot cs).2.natAbs ≤ X ^ cs.length := by
      rw [hF_fac, Int.natAbs_pow]
      exact Nat.pow_le_pow_left h2 _
    have q4 := Nat.mul_le_mul ih h1
    have q5 := Nat.mul_le_mul q3 (hc c List.mem_cons_self)
    rw [List.length_cons]
    have e1 : cs.length * X ^ cs.length * N * X = cs.length * X ^ (cs.length + 1) * N := by rw [Nat.pow_succ]; grind
    have e2 : X ^ cs.length * N ≤ X ^ (cs.length + 1) * N := Nat.mul_le_mul_right _ (Nat.pow_le_pow_right hX (Nat.le_succ _))
    have e3 : (cs.length + 1) * X ^ (cs.length + 1) * N = cs.length * X ^ (cs.length + 1) * N + X ^ (cs.length + 1) * N := by rw [Nat.add_mul, Nat.add_mul, Nat.one_mul]
    omega
theorem here_nm {ts : Tms} {k D i : Nat} {C : Nat} (h : Kys ts) (hC : ∀ j, (tc D i j).natAbs ≤ C) : ∀ n, n ≤ (degI ts k).toNat + 1 → nm (hereP (countsBy ts k) D i n) ≤ n * (C * nm ts)
  | 0, _ => by
    show nm (constP 0) ≤ _
    have := nm_constP 0
    simp at this ⊢
    exact this
  | n + 1, hn => by
    have bk := by_kys (k := k) h.2
    obtain ⟨g1, g2⟩ := by_get (ts := ts) (k := k) (j := n) (by omega)
    have ih := here_nm (ts := ts) (k := k) (D := D) (i := i) h hC n (by omega)
    have kh := hereP_kys _ bk D i n
    unfold hereP at ih kh ⊢
    rw [range_foldl]
    have q1 := nm_sumWith (m := tc D i n) kh.2 (bk _ g2).2
    have q2 := Nat.mul_le_mul (hC n) (by_nm (k := k) h.2 _ g2)
    rw [Nat.add_mul, Nat.one_mul]
    omega
theorem toldS_nm {ts : Tms} {k D : Nat} {B : Nat} (hB : ∀ i, i ≤ (degI ts k).toNat → nm (hereP (countsBy ts k) D i (i + 1)) ≤ B) : ∀ n, n ≤ (degI ts k).toNat + 1 → nm (toldS (countsBy ts k) D k n) ≤ n * B
  | 0, _ => by
    show nm (constP 0) ≤ _
    have := nm_constP 0
    simp at this ⊢
    exact this
  | n + 1, hn => by
    have ih := toldS_nm (ts := ts) (k := k) (D := D) hB n (by omega)
    have kt := toldS_kys (countsBy ts k) D k n
    unfold toldS at ih kt ⊢
    rw [range_foldl]
    have q1 := nm_sumWith (m := 1) kt.2 (kys_timesP (hereP (countsBy ts k) D n (n + 1)) (unkP (k : Int) (n : Int))).2
    have q2 := nm_timesP (hereP (countsBy ts k) D n (n + 1)) (unkP (k : Int) (n : Int))
    have q3 := Nat.mul_le_mul (hB n (by omega)) (nm_unkP (k : Int) (n : Int))
    have e : (1 : Int).natAbs = 1 := rfl
    rw [e, Nat.one_mul] at q1
    rw [Nat.add_mul, Nat.one_mul]
    omega
/-! ### a stretch -/
theorem StrOk.w {s : Stretch} (h : StrOk s) : nm (lineP 0 s) ≤ 2 ^ 52 ∧ (begS s).natAbs < 2 ^ 50 ∧ (sloS s).natAbs < 2 ^ 51 ∧ (botS s).natAbs ≤ 2 ^ 40 := by
  obtain ⟨q1, q2, d1, d2⟩ := h.bq
  have b := beg_lt q1 q2
  have sl := slo_lt q1 q2
  have l := line_nm 0 s
  have t1 : (2 : Nat) ^ 50 = 1125899906842624 := rfl
  have t2 : (2 : Nat) ^ 51 = 2251799813685248 := rfl
  have t3 : (2 : Nat) ^ 52 = 4503599627370496 := rfl
  have t4 : (2 : Nat) ^ 40 = 1099511627776 := rfl
  refine ⟨by omega, b, sl, ?_⟩
  unfold botS
  rw [Int.natAbs_mul]
  have e1 : ((s.2.den : Int) / comS s).natAbs ≤ (s.2.den : Int).natAbs := Int.natAbs_ediv_le_natAbs _ _
  rw [Int.natAbs_natCast] at e1 ⊢
  have := Nat.mul_le_mul d1 (Nat.le_trans e1 d2)
  omega
theorem line_le {s : Stretch} (h : StrOk s) (k : Nat) : nm (lineP k s) ≤ 2 ^ 52 := by
  obtain ⟨_, b, sl, _⟩ := h.w
  have l := line_nm k s
  have t1 : (2 : Nat) ^ 50 = 1125899906842624 := rfl
  have t2 : (2 : Nat) ^ 51 = 2251799813685248 := rfl
  have t3 : (2 : Nat) ^ 52 = 4503599627370496 := rfl
  omega
theorem num_den (x : Rat) : (x.num : Rat) = x * (x.den : Rat) := by
  have h := Rat.num_divInt_den x
  rw [Rat.divInt_eq_div] at h
  have hd : (((x.den : Int) : Rat)) ≠ 0 := by
    intro z
    have := x.den_pos
    have : (x.den : Int) = 0 := by simpa using z
    omega
  have h2 : ((x.num : Rat) / ((x.den : Int) : Rat)) * ((x.den : Int) : Rat) = (x.num : Rat) := by grind
  rw [h] at h2
  rw [← h2]; rfl
theorem den_ne (x : Rat) : (x.den : Rat) ≠ 0 := by
  intro z
  have := x.den_pos
  have : x.den = 0 := by simpa using z
  omega
/-- the parts of the line, by the ends -/
theorem str_rat (s : Stretch) : (begS s : Rat) = (botS s : Rat) * s.1 ∧ (sloS s : Rat) = (botS s : Rat) * (s.2 - s.1) := by
  have hd0 : ((s.2.den : Int)) ≠ 0 := by have := s.2.den_pos; omega
  have cp : 0 < comS s := gcd_pos hd0
  have e2 : ((s.2.den : Int) / comS s) * comS s = (s.2.den : Int) := Int.ediv_mul_cancel (Int.gcd_dvd_right _ _)
  have e1 : ((s.1.den : Int) / comS s) * comS s = (s.1.den : Int) := Int.ediv_mul_cancel (Int.gcd_dvd_left _ _)
  unfold begS sloS botS begS
  generalize (s.2.den : Int) / comS s = v at *
  generalize (s.1.den : Int) / comS s = u at *
  have f1 : (s.1.den : Rat) = (u : Rat) * (comS s : Rat) := by
    have : ((s.1.den : Int) : Rat) = ((u * comS s : Int) : Rat) := by rw [e1]
    rw [Rat.intCast_mul] at this
    exact this
  have f2 : (s.2.den : Rat) = (v : Rat) * (comS s : Rat) := by
    have : ((s.2.den : Int) : Rat) = ((v * comS s : Int) : Rat) := by rw [e2]
    rw [Rat.intCast_mul] at this
    exact this
  have n1 := num_den s.1
  have n2 := num_den s.2
  have g1 : ((s.1.num * v : Int) : Rat) = (((s.1.den : Int) * v : Int) : Rat) * s.1 := by
    rw [Rat.intCast_mul, Rat.intCast_mul, n1]
    show _ * (s.1.den : Rat) * _ = (s.1.den : Rat) * _ * _
    grind
  refine ⟨g1, ?_⟩
  rw [Rat.intCast_sub, g1, Rat.intCast_mul, Rat.intCast_mul, n2]
  show s.2 * (s.2.den : Rat) * (u : Rat) - (s.1.den : Rat) * (v : Rat) * s.1 = (s.1.den : Rat) * (v : Rat) * (s.2 - s.1)
  rw [f1, f2]
  grind
theorem bot_ne (s : Stretch) : (botS s : Rat) ≠ 0 := by
  intro z
  have := bot_pos s
  have : botS s = 0 := by simpa using z
  omega
theorem slo_ne {s : Stretch} (h : s.1 < s.2) : sloS s ≠ 0 := by
  intro z
  have e := (str_rat s).2
  rw [z, Rat.intCast_zero] at e
  rcases Rat.mul_eq_zero.mp e.symm with e | e
  · exact bot_ne s e
  · have := (Rat.lt_iff_sub_pos s.1 s.2).mp h
    rw [e] at this
    exact absurd this (by decide)
/-! ### the steps of whole_counts -/
def facS (box : List Stretch) (g : Nat → Nat) : Nat → Int
  | 0 => 1
  | i + 1 => facS box g i * (botS (box.getD i s00) ^ g i * (fct (g i) : Int))
structure Stp (box : List Stretch) (g : Nat → Nat) (i : Nat) (st : Tms × Int) : Prop where
  kys : Kys st.1
  nz : Nz st.1
  grid : Grid g st.1
  deg : ∀ l, i ≤ l → l < 4 → degI st.1 l = (g l : Int)
  nmb : nm st.1 < 2 ^ (100 + 5000 * i)
  fac : st.2 = facS box g i
theorem Kys.pos {g : Nat → Nat} {ts : Tms} (h : Kys ts) (hg : Grid g ts) : ∀ e ∈ ts, ∀ l, 0 ≤ gd e.1 l := fun e he l => by
  by_cases hl : l < 4
  · exact (hg e he l hl).1
  · rw [gd_out (by rw [h.2 e he]; omega)]; exact Int.le_refl _
theorem facS_abs {box : List Stretch} {g : Nat → Nat} (hs : ∀ s ∈ box, StrOk s) (hg : ∀ k, g k ≤ 100) : ∀ i, i ≤ box.length → 0 < facS box g i ∧ (facS box g i).natAbs ≤ 2 ^ (47 * (((List.range i).map g).sum))
  | 0, _ => ⟨by show (0 : Int) < 1; decide, by show (1 : Int).natAbs ≤ _; exact Nat.one_le_two_pow⟩
  | i + 1, hi => by
    obtain ⟨a1, a2⟩ := facS_abs hs hg i (by omega)
    have hm : box.getD i s00 ∈ box := by
      rw [List.getD_eq_getElem?_getD, List.getElem?_eq_getElem (by omega)]
      exact List.getElem_mem _
    obtain ⟨_, _, _, w⟩ := (hs _ hm).w
    have bp := bot_pos (box.getD i s00)
    have fp := fct_pos (g i)
    unfold facS
    refine ⟨Int.mul_pos a1 (Int.mul_pos (Int.pow_pos bp) (by omega)), ?_⟩
    rw [Int.natAbs_mul, Int.natAbs_mul, Int.natAbs_pow, Int.natAbs_natCast]
    have h1 : (botS (box.getD i s00)).natAbs ^ g i ≤ (2 ^ 40) ^ g i := Nat.pow_le_pow_left w _
    have h2 : fct (g i) ≤ (2 ^ 7) ^ g i := fct_le _ (hg i)
    rw [← Nat.pow_mul] at h1 h2
    have h3 := Nat.mul_le_mul a2 (Nat.mul_le_mul h1 h2)
    rw [← Nat.pow_add, ← Nat.pow_add] at h3
    refine Nat.le_trans h3 (pow_t _ _ ?_)
    rw [List.range_succ, List.map_append, List.sum_append]
    simp
    omega
theorem bits_mul {a b x y : Nat} (h1 : a ≤ 2 ^ x) (h2 : b < 2 ^ y) : a * b < 2 ^ (x + y) := by
  rw [Nat.pow_add]
  exact Nat.lt_of_le_of_lt (Nat.mul_le_mul_right _ h1) (Nat.mul_lt_mul_of_pos_left h2 (Nat.two_pow_pos _))
theorem step_ok {box : List Stretch} {g : Nat → Nat} {i : Nat} {st : Tms × Int} {s : Stretch} (S : Stp box g i st) (hi : i < 3) (hx : box[i]? = some s) (so : StrOk s) (hv : vol g ≤ 64) (h60 : ∀ k, g k ≤ 60) : MvOk st.1 i s ∧ TdOk (movedP st.1 i s).1 i ∧ Stp box g (i + 1) (wStep st (s, i)) ∧ (movedP st.1 i s).2.natAbs < 2 ^ 3000 := by
  obtain ⟨ky, nz, gr, dg, nb, fc⟩ := S
  have hk : i < 4 := by omega
  have pos := ky.pos gr
  have dgi := dg i (Nat.le_refl _) hk
  have hD : (degI st.1 i).toNat = g i := by rw [dgi]; exact Int.toNat_natCast _
  have g60 := h60 i
  obtain ⟨w1, w2, w3, w4⟩ := so.w
  have wl := line_le so i
  obtain ⟨q1, q2, _, _⟩ := so.bq
  have w40 : (botS s).natAbs ≤ 2 ^ 52 := Nat.le_trans w4 (pow_t _ _ (by decide))
  have ck : ∀ b n : Nat, ∀ c ∈ (List.range' b n).map fun j => cpoly st.1 i j, Kys c := fun b n c hc => by
    obtain ⟨j, _, rfl⟩ := List.mem_map.mp hc
    exact polyOf_kys (partD_kys ky.2)
  have cn : ∀ b n : Nat, ∀ c ∈ (List.range' b n).map fun j => cpoly st.1 i j, nm c ≤ nm st.1 := fun b n c hc => by
    obtain ⟨j, _, rfl⟩ := List.mem_map.mp hc
    exact Nat.le_trans (nm_polyOf _) (nm_partD ky.2)
  -- the states of moved
  have hhorn : ∀ b n : Nat, n ≤ 61 → (hF (lineP i s) (botS s) ((List.range' b n).map fun j => cpoly st.1 i j)).1.length ≤ 64 ∧ nm (hF (lineP i s) (botS s) ((List.range' b n).map fun j => cpoly st.1 i j)).1 < 2 ^ (3178 + (100 + 5000 * i)) := by
    intro b n hn
    constructor
    · refine Nat.le_trans (grid_len (g := g) (hF_kys (ck b n)) fun e he l hl => ?_) hv
      obtain ⟨t, ht, h1, h2, h3⟩ := horn_sup ky hk he
      have h4 := gr t ht l hl
      by_cases e2 : l = i
      · subst e2; omega
      · rw [h1 l hl e2]; exact h4
    · have h1 := hF_nm (N := nm st.1) wl w40 Nat.one_le_two_pow (ck b n) (cn b n)
      rw [List.length_map, List.length_range'] at h1
      refine Nat.lt_of_le_of_lt h1 ?_
      have h2 : n * (2 ^ 52) ^ n ≤ 2 ^ 3178 := by
        rw [← Nat.pow_mul]
        have h3 : n * 2 ^ (52 * n) ≤ 2 ^ 6 * 2 ^ (52 * n) := Nat.mul_le_mul_right _ (by have : (2 : Nat) ^ 6 = 64 := rfl; omega)
        rw [← Nat.pow_add] at h3
        exact Nat.le_trans h3 (pow_t _ _ (by omega))
      exact bits_mul h2 nb
  have lenst : st.1.length ≤ 64 := Nat.le_trans (grid_len ky gr) hv
  have hlen : (countsBy st.1 i).length = g i + 1 := by unfold countsBy; rw [List.length_map, List.length_range, hD]
  have mv : MvOk st.1 i s := by
    refine ⟨ky, sml_of (by omega) (p4e5 (n := 100 + 5000 * i) (by omega) nb), hk, by omega, fun e he => pos e he i, q1.mono (by decide), q2.mono (by decide), fun j hj => ?_⟩
    rw [hlen] at hj
    rw [hornS_eq _ _ _ _ (by rw [hD]; exact hj)]
    obtain ⟨a1, a2⟩ := hhorn ((degI st.1 i).toNat + 1 - j) j (by omega)
    refine ⟨by omega, Nat.lt_of_lt_of_le a2 (pow_t _ _ (by omega)), ?_⟩
    rw [hF_fac, Int.natAbs_pow, List.length_map, List.length_range']
    have h1 : (botS s).natAbs ^ j ≤ (2 ^ 40) ^ j := Nat.pow_le_pow_left w4 _
    rw [← Nat.pow_mul] at h1
    exact Nat.lt_of_le_of_lt h1 (Nat.pow_lt_pow_right (by decide) (by omega))
  have mk := moved_kys (k := i) (s := s) ky
  have mz := moved_nz (ts := st.1) (k := i) (s := s)
  have mg : Grid g (movedP st.1 i s).1 := fun e he l hl => by
    obtain ⟨t, ht, h1, h2, h3⟩ := moved_sup ky hk he
    have h4 := gr t ht l hl
    by_cases e2 : l = i
    · subst e2; omega
    · rw [h1 l hl e2]; exact h4
  have md : ∀ l, l < 4 → degI (movedP st.1 i s).1 l = degI st.1 l := fun l hl => moved_deg ky nz hk pos (slo_ne so.lt) hl
  have mn : nm (movedP st.1 i s).1 < 2 ^ (3178 + (100 + 5000 * i)) := by
    show nm (hornE st.1 i s).1 < _
    rw [hornE_eq, countsBy_eq]
    exact (hhorn 0 ((degI st.1 i).toNat + 1) (by omega)).2
  have mpos := mk.pos mg
  have mD : (degI (movedP st.1 i s).1 i).toNat = g i := by rw [md i hk]; exact hD
  have mdi : degI (movedP st.1 i s).1 i = (g i : Int) := by rw [md i hk]; exact dgi
  have hhere : ∀ i' n, i' ≤ g i → n ≤ i' + 1 → (hereP (countsBy (movedP st.1 i s).1 i) (g i) i' n).length ≤ 64 ∧ nm (hereP (countsBy (movedP st.1 i s).1 i) (g i) i' n) ≤ 2 ^ 6 * (2 ^ 1402 * nm (movedP st.1 i s).1) := by
    intro i' n h1 h2
    constructor
    · refine Nat.le_trans (grid_len (g := g) (hereP_kys _ (by_kys mk.2) _ _ _) fun e he l hl => ?_) hv
      obtain ⟨t, ht, a1, a2⟩ := here_sup mk hk (by rw [mD]; omega) he
      have h4 := mg t ht l hl
      by_cases e2 : l = i
      · subst e2; rw [a2]; omega
      · rw [a1 l hl e2]; exact h4
    · refine Nat.le_trans (here_nm (C := 2 ^ 1402) mk (fun j => Nat.le_of_lt (tc_lt (by omega) (by omega))) n (by rw [mD]; omega)) (Nat.mul_le_mul_right _ ?_)
      have : (2 : Nat) ^ 6 = 64 := rfl
      omega
  have htold : ∀ n, n ≤ g i + 1 → (toldS (countsBy (movedP st.1 i s).1 i) (g i) i n).length ≤ 64 ∧ nm (toldS (countsBy (movedP st.1 i s).1 i) (g i) i n) ≤ 2 ^ 6 * (2 ^ 6 * (2 ^ 1402 * nm (movedP st.1 i s).1)) := by
    intro n hn
    constructor
    · refine Nat.le_trans (grid_len (g := g) (toldS_kys _ _ _ _) fun e he l hl => ?_) hv
      obtain ⟨t, ht, a1, a2, a3, a4⟩ := told_sup mk hk (by rw [mD]; omega) he
      have h4 := mg t ht l hl
      by_cases e2 : l = i
      · subst e2; omega
      · rw [a1 l hl e2]; exact h4
    · refine Nat.le_trans (toldS_nm (fun i' hi' => (hhere i' (i' + 1) (by omega) (Nat.le_refl _)).2) n (by rw [mD]; exact hn)) (Nat.mul_le_mul_right _ ?_)
      have : (2 : Nat) ^ 6 = 64 := rfl
      omega
  have big : ∀ {x : Nat}, x ≤ 2 ^ 6 * (2 ^ 6 * (2 ^ 1402 * nm (movedP st.1 i s).1)) → x < 2 ^ (100 + 5000 * (i + 1)) := fun {x} hx => by
    refine Nat.lt_of_le_of_lt hx ?_
    have h1 := bits_mul (Nat.le_refl (2 ^ 6)) (bits_mul (Nat.le_refl (2 ^ 6)) (bits_mul (Nat.le_refl (2 ^ 1402)) mn))
    exact Nat.lt_of_lt_of_le h1 (pow_t _ _ (by omega))
  have td : TdOk (movedP st.1 i s).1 i := by
    refine ⟨mk, sml_of (by have := grid_len mk mg; omega) (p4e5 (n := 3178 + (100 + 5000 * i)) (by omega) mn), hk, by omega, fun e he => mpos e he i, fun i' n h1 h2 => ?_, fun n hn => ?_⟩
    · rw [mD] at h1 ⊢
      obtain ⟨a1, a2⟩ := hhere i' n h1 h2
      refine ⟨by omega, Nat.lt_of_lt_of_le (big (Nat.le_trans a2 (Nat.le_mul_of_pos_left _ (by decide)))) (pow_t _ _ (by omega))⟩
    · rw [mD] at hn ⊢
      obtain ⟨a1, a2⟩ := htold n hn
      exact ⟨by omega, Nat.lt_of_lt_of_le (big a2) (pow_t _ _ (by omega))⟩
  have f2 : (movedP st.1 i s).2 = botS s ^ g i := by rw [moved_fac, hD]
  refine ⟨mv, td, ⟨told_kys _ _, told_nz _ _, fun e he l hl => ?_, fun l h1 hl => ?_, ?_, ?_⟩, ?_⟩
  · have he : e ∈ toldP (movedP st.1 i s).1 i := he
    obtain ⟨t, ht, a1, a2, a3, a4⟩ := told_sup mk hk (Nat.le_refl _) he
    have h4 := mg t ht l hl
    rw [mD] at a4
    by_cases e2 : l = i
    · subst e2; omega
    · rw [a1 l hl e2]; exact h4
  · show degI (toldP (movedP st.1 i s).1 i) l = _
    rw [told_deg mk mz hk mpos hl (by omega), md l hl]
    exact dg l (by omega) hl
  · show nm (toldP (movedP st.1 i s).1 i) < _
    unfold toldP
    rw [mD]
    exact big (htold (g i + 1) (Nat.le_refl _)).2
  · show st.2 * ((movedP st.1 i s).2 * (fct (degI (movedP st.1 i s).1 i).toNat : Int)) = _
    rw [f2, mD, fc]
    have e : box.getD i s00 = s := by rw [List.getD_eq_getElem?_getD, hx]; rfl
    show _ = facS box g i * (botS (box.getD i s00) ^ g i * (fct (g i) : Int))
    rw [e]
  · rw [f2, Int.natAbs_pow]
    have h1 : (botS s).natAbs ^ g i ≤ (2 ^ 40) ^ g i := Nat.pow_le_pow_left w4 _
    rw [← Nat.pow_mul] at h1
    exact Nat.lt_of_le_of_lt h1 (Nat.pow_lt_pow_right (by decide) (by omega))
end Bx

set_option Elab.async false
set_option linter.all false
set_option maxRecDepth 100000
set_option maxHeartbeats 2000000
namespace Bx
/-! ### binomial sums -/
theorem ch_fct : ∀ {n k : Nat}, k ≤ n → ch n k * fct k * fct (n - k) = fct n
  | n, 0, _ => by rw [ch_zero, Nat.sub_zero]; show 1 * 1 * fct n = fct n; omega
  | n + 1, k + 1, h => by
    have h1 := ch_fct (n := n) (k := k) (by omega)
    rw [ch_succ, Nat.add_sub_add_right]
    by_cases e : k = n
    · subst e
      rw [ch_over (Nat.lt_succ_self k), Nat.add_zero]
      show ch k k * ((k + 1) * fct k) * fct (k - k) = (k + 1) * fct k
      rw [ch_self, Nat.sub_self]
      show 1 * ((k + 1) * fct k) * 1 = _
      omega
    · have h2 := ch_fct (n := n) (k := k + 1) (by omega)
      have e1 : n - k = (n - (k + 1)) + 1 := by omega
      have e2 : fct (n - k) = (n - k) * fct (n - (k + 1)) := by
        rw [e1]
        rfl
      show (ch n k + ch n (k + 1)) * ((k + 1) * fct k) * fct (n - k) = (n + 1) * fct n
      have h3 : ch n (k + 1) * ((k + 1) * fct k) * fct (n - (k + 1)) = fct n := h2
      have e3 : (n : Nat) + 1 = (k + 1) + (n - k) := by omega
      generalize hu : n - k = u at *
      generalize fct (n - (k + 1)) = v at *
      rw [e2] at h1 ⊢
      rw [e3]
      generalize ch n k = a at *
      generalize ch n (k + 1) = b at *
      generalize fct k = c at *
      generalize fct n = d at *
      have g1 : (a + b) * ((k + 1) * c) * (u * v) = (k + 1) * (a * c * (u * v)) + u * (b * ((k + 1) * c) * v) := by grind
      rw [g1, h1, h3]
      grind
theorem ch_swap {D j m : Nat} (h1 : m ≤ j) (h2 : j ≤ D) : ch j m * ch D j = ch D m * ch (D - m) (j - m) := by
  have a1 := ch_fct h1
  have a2 := ch_fct h2
  have a3 := ch_fct (n := D) (k := m) (by omega)
  have a4 := ch_fct (n := D - m) (k := j - m) (by omega)
  rw [show D - m - (j - m) = D - j by omega] at a4
  have p1 := fct_pos m
  have p2 := fct_pos (j - m)
  have p3 := fct_pos (D - j)
  have hp : 0 < fct m * fct (j - m) * fct (D - j) := Nat.mul_pos (Nat.mul_pos p1 p2) p3
  refine Nat.eq_of_mul_eq_mul_right hp ?_
  generalize fct m = x at *
  generalize fct (j - m) = y at *
  generalize fct (D - j) = z at *
  have e1 : ch j m * ch D j * (x * y * z) = ch D j * (ch j m * x * y) * z := by grind
  have e2 : ch D m * ch (D - m) (j - m) * (x * y * z) = ch D m * x * (ch (D - m) (j - m) * y * z) := by grind
  rw [e1, a1, a2, e2, a4, a3]
theorem rmul_pow (a b : Rat) : ∀ n : Nat, (a * b) ^ n = a ^ n * b ^ n
  | 0 => by rw [Rat.pow_zero, Rat.pow_zero, Rat.pow_zero]; grind
  | n + 1 => by rw [Rat.pow_succ, Rat.pow_succ, Rat.pow_succ, rmul_pow a b n]; grind
theorem rpow_add (a : Rat) (m : Nat) : ∀ n : Nat, a ^ (m + n) = a ^ m * a ^ n
  | 0 => by rw [Nat.add_zero, Rat.pow_zero]; grind
  | n + 1 => by rw [← Nat.add_assoc, Rat.pow_succ, Rat.pow_succ, rpow_add a m n]; grind
theorem sm_1 (f : Nat → Rat) : sm 1 f = f 0 := by
  show 0 + f 0 = f 0
  grind
/-- Pascal's rule under a sum -/
theorem sm_pascal (f : Nat → Rat) (i : Nat) : ∀ n, sm (n + 1) (fun t => (ch (i + 1) t : Rat) * f t) = sm (n + 1) (fun t => (ch i t : Rat) * f t) + sm n (fun t => (ch i t : Rat) * f (t + 1))
  | 0 => by
    rw [sm_1, sm_1, ch_zero, ch_zero]
    show _ = _ + 0
    grind
  | n + 1 => by
    show sm (n + 1) (fun t => (ch (i + 1) t : Rat) * f t) + (ch (i + 1) (n + 1) : Rat) * f (n + 1) = (sm (n + 1) (fun t => (ch i t : Rat) * f t) + (ch i (n + 1) : Rat) * f (n + 1)) + (sm n (fun t => (ch i t : Rat) * f (t + 1)) + (ch i n : Rat) * f (n + 1))
    rw [sm_pascal f i n, ch_succ, Rat.natCast_add]
    grind
/-- the polar form: the count of x^j in (1 + Hx)^i (1 + Lx)^n -/
def Ap (H L : Rat) (i n j : Nat) : Rat := sm (j + 1) (fun t => (ch i t : Rat) * ((ch n (j - t) : Rat) * H ^ t * L ^ (j - t)))
def sh1 (f : Nat → Rat) : Nat → Rat
  | 0 => 0
  | j + 1 => f j
theorem Ap_z (H L : Rat) (i n : Nat) : Ap H L i n 0 = 1 := by
  unfold Ap
  rw [sm_1]
  show (ch i 0 : Rat) * ((ch n 0 : Rat) * H ^ 0 * L ^ 0) = 1
  rw [ch_zero, ch_zero, Rat.pow_zero, Rat.pow_zero]
  show (1 : Rat) * (1 * 1 * 1) = 1
  grind
theorem Ap_i (H L : Rat) (i n : Nat) : ∀ j, Ap H L (i + 1) n j = Ap H L i n j + H * sh1 (Ap H L i n) j
  | 0 => by
    rw [Ap_z, Ap_z]
    show (1 : Rat) = 1 + _ * 0
    grind
  | j + 1 => by
    unfold Ap
    rw [sm_pascal]
    show _ = _ + H * sm (j + 1) (fun t => (ch i t : Rat) * ((ch n (j - t) : Rat) * H ^ t * L ^ (j - t)))
    rw [← sm_smul]
    congr 1
    apply sm_congr
    intro t ht
    rw [Nat.add_sub_add_right, Rat.pow_succ]
    grind
theorem Ap_n (H L : Rat) (i n : Nat) : ∀ j, Ap H L i (n + 1) j = Ap H L i n j + L * sh1 (Ap H L i n) j
  | 0 => by
    rw [Ap_z, Ap_z]
    show (1 : Rat) = 1 + _ * 0
    grind
  | j + 1 => by
    unfold Ap
    show sm (j + 1) _ + (ch i (j + 1) : Rat) * ((ch (n + 1) (j + 1 - (j + 1)) : Rat) * H ^ (j + 1) * L ^ (j + 1 - (j + 1))) = (sm (j + 1) _ + (ch i (j + 1) : Rat) * ((ch n (j + 1 - (j + 1)) : Rat) * H ^ (j + 1) * L ^ (j + 1 - (j + 1)))) + L * sm (j + 1) (fun t => (ch i t : Rat) * ((ch n (j - t) : Rat) * H ^ t * L ^ (j - t)))
    rw [← sm_smul, Nat.sub_self, ch_zero, ch_zero]
    have e : sm (j + 1) (fun t => (ch i t : Rat) * ((ch (n + 1) (j + 1 - t) : Rat) * H ^ t * L ^ (j + 1 - t))) = sm (j + 1) (fun t => (ch i t : Rat) * ((ch n (j + 1 - t) : Rat) * H ^ t * L ^ (j + 1 - t))) + sm (j + 1) (fun t => L * ((ch i t : Rat) * ((ch n (j - t) : Rat) * H ^ t * L ^ (j - t)))) := by
      rw [← sm_add]
      apply sm_congr
      intro t ht
      have e1 : j + 1 - t = (j - t) + 1 := by omega
      rw [e1, ch_succ, Rat.natCast_add, Rat.pow_succ]
      grind
    rw [e]
    grind
theorem Ap_00 (H L : Rat) : ∀ j, Ap H L 0 0 j = (ch 0 j : Rat)
  | 0 => by rw [Ap_z]; rfl
  | j + 1 => by
    unfold Ap
    rw [sm_none]
    · rfl
    · intro t ht
      match t with
      | 0 =>
        show (ch 0 0 : Rat) * ((ch 0 (j + 1) : Rat) * _ * _) = 0
        rw [show ch 0 (j + 1) = 0 from rfl]
        show (1 : Rat) * (0 * _ * _) = 0
        grind
      | t + 1 =>
        rw [show ch 0 (t + 1) = 0 from rfl]
        show (0 : Rat) * _ = 0
        grind
theorem Ap_0n (H L : Rat) (n j : Nat) : Ap H L 0 n j = (ch n j : Rat) * L ^ j := by
  unfold Ap
  rw [sm_one (j := 0) (by omega) (fun t _ hne => by
    match t with
    | 0 => exact absurd rfl hne
    | t + 1 => rw [show ch 0 (t + 1) = 0 from rfl]; show (0 : Rat) * _ = 0; grind), Nat.sub_zero, ch_zero, Rat.pow_zero]
  show (1 : Rat) * _ = _
  grind
/-- the other form of it, by the difference of the ends -/
def Bp (L d : Rat) (i D j : Nat) : Rat := sm (j + 1) (fun m => (ch i m : Rat) * ((ch (D - m) (j - m) : Rat) * d ^ m * L ^ (j - m)))
theorem Bp_Ap (H L : Rat) : ∀ (i D : Nat), i ≤ D → ∀ j, Bp L (H - L) i D j = Ap H L i (D - i) j
  | 0, D, _, j => by
    rw [Nat.sub_zero, Ap_0n]
    unfold Bp
    rw [sm_one (j := 0) (by omega) (fun t _ hne => by
      match t with
      | 0 => exact absurd rfl hne
      | t + 1 => rw [show ch 0 (t + 1) = 0 from rfl]; show (0 : Rat) * _ = 0; grind), Nat.sub_zero, Nat.sub_zero, ch_zero, Rat.pow_zero]
    show (1 : Rat) * _ = _
    grind
  | i + 1, D, h, 0 => by
    rw [Ap_z]
    unfold Bp
    rw [sm_1]
    show (ch (i + 1) 0 : Rat) * ((ch (D - 0) 0 : Rat) * (H - L) ^ 0 * L ^ 0) = 1
    rw [ch_zero, ch_zero, Rat.pow_zero, Rat.pow_zero]
    show (1 : Rat) * (1 * 1 * 1) = 1
    grind
  | i + 1, D, h, j + 1 => by
    have h1 := Bp_Ap H L i D (by omega) (j + 1)
    have h2 := Bp_Ap H L i (D - 1) (by omega) j
    have e1 : D - i = (D - (i + 1)) + 1 := by omega
    have e2 : D - 1 - i = D - (i + 1) := by omega
    rw [e1, Ap_n] at h1
    rw [e2] at h2
    rw [Ap_i]
    have e3 : Bp L (H - L) (i + 1) D (j + 1) = Bp L (H - L) i D (j + 1) + (H - L) * Bp L (H - L) i (D - 1) j := by
      unfold Bp
      rw [sm_pascal, ← sm_smul]
      congr 1
      apply sm_congr
      intro t ht
      rw [Nat.add_sub_add_right, Rat.pow_succ, show D - (t + 1) = D - 1 - t by omega]
      grind
    rw [e3, h1, h2]
    show _ + L * Ap H L i (D - (i + 1)) j + _ = _ + H * Ap H L i (D - (i + 1)) j
    grind
/-- j steps along the line -/
theorem itT_sum (s : Stretch) : ∀ (j : Nat) (g : Int → Rat) (y : Int), itT s j g y = sm (j + 1) (fun m => (ch j m : Rat) * ((begS s : Rat) ^ (j - m) * (sloS s : Rat) ^ m * g (y + (m : Int))))
  | 0, g, y => by
    have e : y + ((0 : Nat) : Int) = y := by omega
    rw [sm_1, ch_zero, e, Nat.sub_zero, Rat.pow_zero, Rat.pow_zero]
    show g y = (1 : Rat) * (1 * 1 * g y)
    grind
  | j + 1, g, y => by
    show itT s j (Top s g) y = _
    rw [itT_sum s j (Top s g) y, sm_pascal]
    have e1 : sm (j + 1 + 1) (fun t => (ch j t : Rat) * ((begS s : Rat) ^ (j + 1 - t) * (sloS s : Rat) ^ t * g (y + (t : Int)))) = sm (j + 1) (fun t => (ch j t : Rat) * ((begS s : Rat) ^ (j + 1 - t) * (sloS s : Rat) ^ t * g (y + (t : Int)))) := by
      show sm (j + 1) _ + (ch j (j + 1) : Rat) * _ = _
      rw [ch_over (Nat.lt_succ_self j)]
      show _ + (0 : Rat) * _ = _
      grind
    rw [e1, ← sm_add]
    apply sm_congr
    intro m hm
    have e2 : j + 1 - m = (j - m) + 1 := by omega
    have e3 : y + (m : Int) + 1 = y + ((m + 1 : Nat) : Int) := by omega
    unfold Top
    rw [e2, Nat.add_sub_add_right, Rat.pow_succ, Rat.pow_succ, e3]
    grind
theorem tc_ch {D i m : Nat} (hm : m ≤ i) (hi : i ≤ D) : tc D i m * (ch D m : Int) = (ch i m : Int) * (fct D : Int) := by
  have a1 := ch_fct hm
  have a2 := ch_fct (n := D) (k := m) (by omega)
  unfold tc
  have e : (fct i : Int) / (fct (i - m) : Int) = ((ch i m * fct m : Nat) : Int) := by
    rw [← a1, Int.natCast_mul]
    exact Int.mul_ediv_cancel _ (by have := fct_pos (i - m); omega)
  rw [e, ← a2]
  push_cast
  grind
theorem r_mul_cancel {a b c : Rat} (hc : c ≠ 0) (h : a * c = b * c) : a = b := by
  have : (a - b) * c = 0 := by grind
  rcases Rat.mul_eq_zero.mp this with e | e
  · grind
  · exact absurd e hc
theorem ch_ne {n k : Nat} (h : k ≤ n) : (ch n k : Rat) ≠ 0 := by
  intro z
  have := ch_pos h
  have : ch n k = 0 := by simpa using z
  omega
/-- a count's factor in one unknown -/
theorem Mv_val {s : Stretch} {D i j : Nat} (hi : i ≤ D) (hj : j ≤ D) : Mv s D (Td D (ind (i : Int))) (j : Int) * (ch D j : Rat) = (botS s : Rat) ^ D * (fct D : Rat) * Ap s.2 s.1 i (D - i) j := by
  have hN : ∀ m : Nat, Td D (ind (i : Int)) ((0 : Int) + (m : Int)) = if m ≤ i then (tc D i m : Rat) else 0 := by
    intro m
    rw [Int.zero_add]
    unfold Td
    rw [sm_one (j := i) (by omega) (fun i' _ hne => by
      by_cases c : (m : Int) ≤ (i' : Int)
      · rw [if_pos c]
        have : ind (i : Int) (i' : Int) = 0 := by unfold ind; rw [if_neg (by omega)]
        rw [this]; grind
      · rw [if_neg c])]
    by_cases c : m ≤ i
    · rw [if_pos c, if_pos (by omega), ind_self, Int.toNat_natCast]; grind
    · rw [if_neg c, if_neg (by omega)]
  have hstep : ∀ m, m < j + 1 → (ch D j : Rat) * ((ch j m : Rat) * ((begS s : Rat) ^ (j - m) * (sloS s : Rat) ^ m * Td D (ind (i : Int)) ((0 : Int) + (m : Int)))) = (botS s : Rat) ^ j * (fct D : Rat) * ((ch i m : Rat) * ((ch (D - m) (j - m) : Rat) * (s.2 - s.1) ^ m * s.1 ^ (j - m))) := by
    intro m hm
    have hmj : m ≤ j := by omega
    obtain ⟨b1, b2⟩ := str_rat s
    rw [hN, b1, b2, rmul_pow, rmul_pow]
    have sw : (ch j m : Rat) * (ch D j : Rat) = (ch D m : Rat) * (ch (D - m) (j - m) : Rat) := by
      rw [← Rat.natCast_mul, ← Rat.natCast_mul, ch_swap hmj hj]
    have bp : (botS s : Rat) ^ j = (botS s : Rat) ^ (j - m) * (botS s : Rat) ^ m := by
      rw [← rpow_add]; congr 1; omega
    by_cases c : m ≤ i
    · rw [if_pos c]
      have t1 : (tc D i m : Rat) * (ch D m : Rat) = (ch i m : Rat) * (fct D : Rat) := by
        have := tc_ch c hi
        have h2 : ((tc D i m * (ch D m : Int) : Int) : Rat) = (((ch i m : Int) * (fct D : Int) : Int) : Rat) := by rw [this]
        rw [Rat.intCast_mul, Rat.intCast_mul] at h2
        exact h2
      rw [bp]
      generalize (botS s : Rat) ^ (j - m) = u at *
      generalize (botS s : Rat) ^ m = v at *
      generalize s.1 ^ (j - m) = x at *
      generalize (s.2 - s.1) ^ m = z at *
      grind
    · rw [if_neg c, ch_over (show i < m by omega)]
      show _ * (_ * (_ * _ * 0)) = _ * (((0 : Nat) : Rat) * _)
      have : ((0 : Nat) : Rat) = 0 := rfl
      rw [this]
      grind
  have hV : itT s j (Td D (ind (i : Int))) 0 * (ch D j : Rat) = (botS s : Rat) ^ j * (fct D : Rat) * Ap s.2 s.1 i (D - i) j := by
    rw [itT_sum, ← Bp_Ap s.2 s.1 i D hi j, Rat.mul_comm, ← sm_smul]
    unfold Bp
    rw [← sm_smul]
    exact sm_congr hstep
  unfold Mv
  rw [Int.toNat_natCast, Rat.mul_assoc, hV]
  have bp : (botS s : Rat) ^ D = (botS s : Rat) ^ (D - j) * (botS s : Rat) ^ j := by
    rw [← rpow_add]; congr 1; omega
  rw [bp]
  grind
/-- the law's polar form -/
theorem polN_val (s : Stretch) (D i j : Nat) : (polN s D i j : Rat) = ((s.1.den : Rat) * (s.2.den : Rat)) ^ j * Ap s.2 s.1 i (D - i) j := by
  have h : ∀ n, n ≤ j + 1 → (((List.range n).foldl (fun f t => f + polT s D i j t) 0 : Int) : Rat) = ((s.1.den : Rat) * (s.2.den : Rat)) ^ j * sm n (fun t => (ch i t : Rat) * ((ch (D - i) (j - t) : Rat) * s.2 ^ t * s.1 ^ (j - t))) := by
    intro n
    induction n with
    | zero => intro _; show ((0 : Int) : Rat) = _ * 0; rw [Rat.intCast_zero]; grind
    | succ n ih =>
      intro hn
      rw [range_foldl, Rat.intCast_add, ih (by omega)]
      show _ = _ * (sm n _ + _)
      have e : (polT s D i j n : Rat) = ((s.1.den : Rat) * (s.2.den : Rat)) ^ j * ((ch i n : Rat) * ((ch (D - i) (j - n) : Rat) * s.2 ^ n * s.1 ^ (j - n))) := by
        unfold polT hiS loS
        rw [Rat.intCast_mul, Rat.intCast_mul, Rat.intCast_mul, Rat.intCast_pow, Rat.intCast_pow, Rat.intCast_mul, Rat.intCast_mul, num_den s.1, num_den s.2]
        have bp : ((s.1.den : Rat) * (s.2.den : Rat)) ^ j = ((s.1.den : Rat) * (s.2.den : Rat)) ^ n * ((s.1.den : Rat) * (s.2.den : Rat)) ^ (j - n) := by
          rw [← rpow_add]; congr 1; omega
        have p1 : (s.2 * (s.2.den : Rat) * ((s.1.den : Int) : Rat)) ^ n = s.2 ^ n * ((s.1.den : Rat) * (s.2.den : Rat)) ^ n := by
          rw [← rmul_pow]
          congr 1
          show s.2 * (s.2.den : Rat) * (s.1.den : Rat) = _
          grind
        have p2 : (s.1 * (s.1.den : Rat) * ((s.2.den : Int) : Rat)) ^ (j - n) = s.1 ^ (j - n) * ((s.1.den : Rat) * (s.2.den : Rat)) ^ (j - n) := by
          rw [← rmul_pow]
          congr 1
          show s.1 * (s.1.den : Rat) * (s.2.den : Rat) = _
          grind
        rw [p1, p2, bp]
        show (ch i n : Rat) * (ch (D - i) (j - n) : Rat) * _ * _ = _
        grind
      rw [e]; grind
  exact h (j + 1) (Nat.le_refl _)
theorem polD_val (s : Stretch) (D j : Nat) : (polD s D j : Rat) = ((s.1.den : Rat) * (s.2.den : Rat)) ^ j * (ch D j : Rat) := by
  unfold polD
  rw [Rat.intCast_mul, Rat.intCast_pow, Rat.intCast_mul]
  rfl
/-- the factor of the program is the law's, times that unknown's part of the divisor -/
theorem Mv_pol {s : Stretch} {D i j : Nat} (hi : i ≤ D) (hj : j ≤ D) : Mv s D (Td D (ind (i : Int))) (j : Int) = (botS s : Rat) ^ D * (fct D : Rat) * ((polN s D i j : Rat) / (polD s D j : Rat)) := by
  have h := Mv_val (s := s) hi hj
  have hc := ch_ne hj
  have hb : ((s.1.den : Rat) * (s.2.den : Rat)) ^ j ≠ 0 := rpow_ne (fun z => by
    rcases Rat.mul_eq_zero.mp z with e | e
    · exact den_ne _ e
    · exact den_ne _ e) j
  rw [polN_val, polD_val]
  refine r_mul_cancel hc ?_
  rw [h]
  generalize ((s.1.den : Rat) * (s.2.den : Rat)) ^ j = x at *
  grind
end Bx

set_option Elab.async false
set_option linter.all false
set_option maxRecDepth 100000
set_option maxHeartbeats 2000000
namespace Bx
/-! ### what is known of a law's polynomial and box -/
def gx (xs : Tms) : Nat → Nat := fun l => (degI xs l).toNat
structure Fct (xs : Tms) (box : List Stretch) : Prop where
  kys : Kys xs
  nz : Nz xs
  cs : ∀ e ∈ xs, e.2.natAbs ≤ 10 ^ 25
  len : xs.length ≤ 5
  pos : ∀ e ∈ xs, ∀ k, 0 ≤ gd e.1 k
  h60 : ∀ k, gx xs k ≤ 60
  zz : ∀ k, box.length ≤ k → gx xs k = 0
  vol : vol (gx xs) ≤ 64
  s60 : gx xs 0 + gx xs 1 + gx xs 2 ≤ 60
  s180 : xs.length * (gx xs 0 + gx xs 1 + gx xs 2) ≤ 180
  g3 : gx xs 3 = 0
  b3 : box.length ≤ 3
  st : ∀ s ∈ box, StrOk s
theorem gx_int (xs : Tms) (k : Nat) : (gx xs k : Int) = degI xs k := Int.toNat_of_nonneg (degI_0 _ _)
theorem facts {xs : Tms} {box : List Stretch} (C : CaseOk xs box) : Fct xs box := by
  obtain ⟨⟨many, most, terms, pa, hmb, hc⟩, b3, st⟩ := C
  have le : ∀ k, gx xs k ≤ most := fun k => by
    have h : degI xs k ≤ (most : Int) := degI_le (by omega) fun e he => (pa.pw e he k).2.1
    have := gx_int xs k
    omega
  have ze : ∀ k, many ≤ k → gx xs k = 0 := fun k hk => by
    have h : degI xs k ≤ 0 := degI_le (Int.le_refl _) fun e he => by rw [(pa.pw e he k).2.2 hk]; exact Int.le_refl _
    have := gx_int xs k
    omega
  have l0 := le 0
  have l1 := le 1
  have l2 := le 2
  have hlen := pa.len
  have z3 : gx xs 3 = 0 := ze 3 (by rcases hc with h | h <;> omega)
  have hs : vol (gx xs) ≤ 64 ∧ gx xs 0 + gx xs 1 + gx xs 2 ≤ 60 ∧ xs.length * (gx xs 0 + gx xs 1 + gx xs 2) ≤ 180 := by
    rcases hc with ⟨c1, c2, c3⟩ | ⟨c1, c2, c3⟩
    · refine ⟨?_, by omega, ?_⟩
      · unfold vol
        rw [z3]
        exact Nat.mul_le_mul (show gx xs 0 + 1 ≤ 4 by omega) (Nat.mul_le_mul (show gx xs 1 + 1 ≤ 4 by omega) (Nat.mul_le_mul (show gx xs 2 + 1 ≤ 4 by omega) (Nat.le_refl 1)))
      · have := Nat.mul_le_mul (show xs.length ≤ 5 by omega) (show gx xs 0 + gx xs 1 + gx xs 2 ≤ 9 by omega)
        omega
    · have z1 := ze 1 c1
      have z2 := ze 2 (by omega)
      refine ⟨?_, by omega, ?_⟩
      · unfold vol
        rw [z1, z2, z3]
        omega
      · have := Nat.mul_le_mul (show xs.length ≤ 3 by omega) (show gx xs 0 + gx xs 1 + gx xs 2 ≤ 60 by omega)
        omega
  exact ⟨pa.kys, fun e he => (pa.nz e he).1, fun e he => (pa.nz e he).2, by rcases hc with h | h <;> omega, fun e he k => (pa.pw e he k).1, fun k => by have := le k; rcases hc with h | h <;> omega, fun k hk => ze k (by omega), hs.1, hs.2.1, hs.2.2, z3, b3, st⟩
section
variable {xs : Tms} {box : List Stretch}
theorem Fct.gle (F : Fct xs box) {e : List Int × Int} (he : e ∈ xs) (k : Nat) : gd e.1 k ≤ (gx xs k : Int) := by rw [gx_int]; exact nn_gd he
theorem Fct.g0 (F : Fct xs box) {e : List Int × Int} (he : e ∈ xs) {k : Nat} (hk : box.length ≤ k) : gd e.1 k = 0 := by
  have h1 := F.gle he k
  have h2 := F.pos e he k
  rw [F.zz k hk] at h1
  omega
theorem mem_poly (F : Fct xs box) {e : List Int × Int} : e ∈ polyOf xs ↔ e ∈ xs := by
  constructor
  · intro h; exact (polyOf_sub h).1
  · intro h
    unfold polyOf
    exact List.mem_filter.mpr ⟨(srtK_perm xs).mem_iff.mpr h, by simp [F.nz e h]⟩
theorem deg_poly (F : Fct xs box) (k : Nat) : degI (polyOf xs) k = degI xs k := by
  apply Int.le_antisymm
  · exact degI_le (degI_0 _ _) fun e he => nn_gd ((mem_poly F).mp he)
  · exact degI_le (degI_0 _ _) fun e he => nn_gd ((mem_poly F).mpr he)
theorem degs_poly (F : Fct xs box) (n : Nat) : degsP (polyOf xs) n = degsP xs n := by
  unfold degsP
  apply List.map_congr_left
  intro k _
  rw [deg_poly F]
theorem Fct.grid (F : Fct xs box) : Grid (gx xs) (polyOf xs) := fun e he l _ => ⟨F.pos e ((mem_poly F).mp he) l, F.gle ((mem_poly F).mp he) l⟩
theorem nm_le (l : Tms) (c : Nat) (h : ∀ e ∈ l, e.2.natAbs ≤ c) : nm l ≤ l.length * c := by
  induction l with
  | nil => exact Nat.zero_le _
  | cons t l ih =>
    rw [nm_cons, List.length_cons, Nat.succ_mul]
    have := ih fun e he => h e (List.mem_cons_of_mem _ he)
    have := h t List.mem_cons_self
    omega
theorem Fct.nm (F : Fct xs box) : nm (polyOf xs) < 2 ^ 100 := by
  have h1 := nm_polyOf xs
  have h2 := nm_le xs _ F.cs
  have h3 := Nat.mul_le_mul_right (10 ^ 25) F.len
  have t1 : (10 : Nat) ^ 25 = 10000000000000000000000000 := by decide
  have t2 : (2 : Nat) ^ 100 = 1267650600228229401496703205376 := by decide
  omega
theorem Fct.stp (F : Fct xs box) : ∀ i, i ≤ box.length → Stp box (gx xs) i (wSt box (polyOf xs) i)
  | 0, _ => ⟨polyOf_kys F.kys, nz_polyOf xs, F.grid, fun l _ _ => by show degI (polyOf xs) l = _; rw [deg_poly F, gx_int], F.nm, rfl⟩
  | i + 1, hi => by
    have hx : box[i]? = some (box[i]'(by omega)) := List.getElem?_eq_getElem _
    have S := step_ok (Fct.stp F i (by omega)) (by have := F.b3; omega) hx (F.st _ (List.getElem_mem _)) F.vol F.h60
    have hz : box.zipIdx[i]? = some (box[i]'(by omega), i) := by rw [List.getElem?_zipIdx, hx]; simp
    have e : wSt box (polyOf xs) (i + 1) = wStep (wSt box (polyOf xs) i) (box[i]'(by omega), i) := by unfold wSt; rw [foldl_take hz]
    rw [e]
    exact S.2.2.1
theorem sum_range (g : Nat → Nat) {i : Nat} (h : i ≤ 3) : ((List.range i).map g).sum ≤ g 0 + g 1 + g 2 := by
  match i, h with
  | 0, _ => exact Nat.zero_le _
  | 1, _ => show g 0 + 0 ≤ _; omega
  | 2, _ => show g 0 + (g 1 + 0) ≤ _; omega
  | 3, _ => show g 0 + (g 1 + (g 2 + 0)) ≤ _; omega
theorem Fct.fac (F : Fct xs box) {i : Nat} (h : i ≤ box.length) : 0 < facS box (gx xs) i ∧ (facS box (gx xs) i).natAbs ≤ 2 ^ 2820 := by
  obtain ⟨a1, a2⟩ := facS_abs (g := gx xs) F.st (fun k => by have := F.h60 k; omega) i h
  refine ⟨a1, Nat.le_trans a2 (pow_t _ _ ?_)⟩
  have h1 := sum_range (gx xs) (i := i) (by have := F.b3; omega)
  have h2 := F.s60
  omega
theorem Fct.wh (F : Fct xs box) : WhOk (polyOf xs) box := by
  refine ⟨F.b3, fun i s hx => ?_, fun i s hx => ?_, fun i s hx => ?_⟩
  all_goals
    have hi : i < box.length := (List.getElem?_eq_some_iff.mp hx).1
    have S := F.stp i (by omega)
    obtain ⟨s1, s2, s3, s4⟩ := step_ok S (by have := F.b3; omega) hx (F.st _ (List.mem_of_getElem? hx)) F.vol F.h60
  · exact s1
  · exact s2
  · refine ⟨?_, Nat.lt_of_lt_of_le s4 (pow_t _ _ (by decide))⟩
    rw [S.fac]
    exact Nat.lt_of_le_of_lt (F.fac (i := i) (by omega)).2 (Nat.pow_lt_pow_right (by decide) (by decide))
theorem idx_prod (F : Fct xs box) : ((degsP xs box.length).map (· + 1)).foldr (· * ·) 1 ≤ 64 := by
  have hv := F.vol
  unfold vol at hv
  unfold degsP
  have hb := F.b3
  have zz := F.zz
  generalize box.length = n at hb zz
  match n, hb with
  | 0, _ => show 1 ≤ 64; decide
  | 1, _ =>
    rw [zz 1 (by omega), zz 2 (by omega), zz 3 (by omega)] at hv
    show (gx xs 0 + 1) * 1 ≤ 64
    omega
  | 2, _ =>
    rw [zz 2 (by omega), zz 3 (by omega)] at hv
    exact hv
  | 3, _ =>
    rw [zz 3 (by omega)] at hv
    exact hv
theorem Fct.idx (F : Fct xs box) : IdxOk (degsP xs box.length) := ⟨by rw [degsP_len]; have := F.b3; omega, Nat.le_trans (idx_prod F) (by decide)⟩
theorem two_of {a b : Rat} (h1 : Bq 25 a) (h2 : Bq 25 b) : Two a b := ⟨25, 25, h1, h2, Nat.lt_trans (Nat.mul_lt_mul'' h1.2 h2.2) (by rw [← Nat.pow_add]; exact Nat.pow_lt_pow_right (by decide) (by decide)), by decide⟩
theorem Fct.co (F : Fct xs box) : CoOk (polyOf xs) box := by
  have S := F.stp box.length (Nat.le_refl _)
  obtain ⟨f1, f2⟩ := F.fac (Nat.le_refl box.length)
  refine ⟨polyOf_kys F.kys, by have := len_polyOf xs; have := F.len; omega, ⟨F.b3, fun s hs => ⟨(F.st s hs).lt, two_of (F.st s hs).bq.1 (F.st s hs).bq.2.1⟩⟩, fun e he => ?_, F.wh, S.kys, Nat.le_trans (grid_len S.kys S.grid) (Nat.le_trans F.vol (by decide)), by rw [S.fac]; omega, ?_, by rw [degs_poly F]; exact F.idx⟩
  · have hx := (mem_poly F).mp he
    have h4 := F.kys.2 e hx
    apply List.ext_getElem?
    intro j
    rw [List.getElem?_drop, List.getElem?_drop]
    by_cases hj : box.length + j < 4
    · rw [gd_get (by omega), gd_get (by show _ < 4; exact hj), F.g0 hx (by omega), gd_noP]
    · rw [List.getElem?_eq_none (by omega), List.getElem?_eq_none (by show 4 ≤ _; omega)]
  · rw [S.fac]
    exact Nat.lt_of_le_of_lt f2 (Nat.pow_lt_pow_right (by decide) (by decide))
theorem Fct.good (F : Fct xs box) : Good (polyOf xs) := by
  refine ⟨by have := len_polyOf xs; have := F.len; omega, ?_, fun e he => ?_⟩
  · unfold polyOf
    exact (srtK_sorted xs F.kys.1).sublist List.filter_sublist
  · have hx := (mem_poly F).mp he
    refine ⟨F.kys.2 e hx, F.nz e hx, fun p hp => ?_⟩
    obtain ⟨i, hi, e2⟩ := List.mem_iff_getElem.mp hp
    have h1 : e.1[i]? = some p := by rw [List.getElem?_eq_getElem hi, e2]
    rw [gd_get hi] at h1
    have h2 : gd e.1 i = p := Option.some.inj h1
    have h3 := F.pos e hx i
    have h4 := F.gle hx i
    have h5 := F.h60 i
    omega
/-! ### the bottoms -/
theorem pr_pow (l : List Nat) (b : Nat) (f : Nat → Nat) (h : ∀ k ∈ l, f k ≤ b) : pr (l.map fun k => 2 ^ f k) = 2 ^ ((l.map f).sum) := by
  induction l with
  | nil => rfl
  | cons k l ih =>
    rw [List.map_cons, List.map_cons, List.sum_cons, Nat.pow_add, ← ih fun k hk => h k (List.mem_cons_of_mem _ hk)]
    rfl
theorem pr_le {α : Type} (l : List α) (f g : α → Nat) (h : ∀ k ∈ l, f k ≤ g k) : pr (l.map f) ≤ pr (l.map g) := by
  induction l with
  | nil => exact Nat.le_refl _
  | cons k l ih => exact Nat.mul_le_mul (h k List.mem_cons_self) (ih fun k hk => h k (List.mem_cons_of_mem _ hk))
theorem pr_const (b : Nat) : ∀ (l : Tms) (f : List Int × Int → Nat), (∀ t ∈ l, f t ≤ 2 ^ b) → pr (l.map f) ≤ 2 ^ (b * l.length)
  | [], f, _ => by rw [List.length_nil, Nat.mul_zero]; exact Nat.le_refl _
  | t :: l, f, h => by
    rw [List.length_cons, Nat.mul_succ, Nat.add_comm, Nat.pow_add]
    exact Nat.mul_le_mul (h t List.mem_cons_self) (pr_const b l f fun u hu => h u (List.mem_cons_of_mem _ hu))
theorem polD_bits {s : Stretch} (h : StrOk s) {D j : Nat} (hj : j ≤ D) : (polD s D j).natAbs ≤ 2 ^ (41 * D) := by
  obtain ⟨_, _, d1, d2⟩ := h.bq
  unfold polD
  rw [Int.natAbs_mul, Int.natAbs_pow, Int.natAbs_mul, Int.natAbs_natCast, Int.natAbs_natCast, Int.natAbs_natCast]
  have h1 : s.1.den * s.2.den ≤ 2 ^ 40 := by
    have := Nat.mul_le_mul d1 d2
    have : (2 : Nat) ^ 40 = 1099511627776 := rfl
    omega
  have h2 := Nat.mul_le_mul (Nat.pow_le_pow_left h1 j) (ch_le D j)
  rw [← Nat.pow_mul, ← Nat.pow_add] at h2
  exact Nat.le_trans h2 (pow_t _ _ (by omega))
theorem Fct.und (F : Fct xs box) : pr (xs.map (undL xs box)) < 2 ^ 9000 := by
  have h1 : ∀ t ∈ xs, undL xs box t ≤ 2 ^ (41 * (gx xs 0 + gx xs 1 + gx xs 2)) := fun t ht => by
    unfold undL
    have h2 : pr ((List.range box.length).map fun k => (polD (box.getD k s00) ((degsP xs box.length).getD k 0) (gd t.1 k).toNat).natAbs) ≤ pr ((List.range box.length).map fun k => 2 ^ (41 * gx xs k)) := by
      refine pr_le _ _ _ fun k hk => ?_
      have hk : k < box.length := List.mem_range.mp hk
      have hm : box.getD k s00 ∈ box := by
        rw [List.getD_eq_getElem?_getD, List.getElem?_eq_getElem hk]
        exact List.getElem_mem _
      rw [degsP_get hk]
      have h3 := F.gle ht k
      have h4 := F.pos t ht k
      exact polD_bits (F.st _ hm) (show (gd t.1 k).toNat ≤ (degI xs k).toNat by have := gx_int xs k; unfold gx at *; omega)
    refine Nat.le_trans h2 ?_
    rw [pr_pow _ (41 * 60) (fun k => 41 * gx xs k) (fun k _ => by have := F.h60 k; omega)]
    refine pow_t _ _ ?_
    have h5 := sum_range (fun k => 41 * gx xs k) (i := box.length) F.b3
    omega
  have h2 := pr_const _ xs _ h1
  refine Nat.lt_of_le_of_lt h2 (Nat.pow_lt_pow_right (by decide) ?_)
  have h3 := F.s180
  rw [Nat.mul_comm] at h3
  have : 41 * (gx xs 0 + gx xs 1 + gx xs 2) * xs.length = 41 * ((gx xs 0 + gx xs 1 + gx xs 2) * xs.length) := Nat.mul_assoc _ _ _
  omega
theorem Fct.lc (F : Fct xs box) : LcOk xs box := by
  refine ⟨F.kys, F.nz, by have := F.len; omega, fun e he => ?_, fun e he k => F.pos e he k, F.b3, fun s hs => ⟨(F.st s hs).bq.1.mono (by decide), (F.st s hs).bq.2.1.mono (by decide)⟩, fun k => by have := F.h60 k; have := gx_int xs k; omega, F.idx, F.und⟩
  have := F.cs e he
  have t1 : (10 : Nat) ^ 25 = 10000000000000000000000000 := by decide
  have t2 : (2 : Nat) ^ 100 = 1267650600228229401496703205376 := by decide
  omega
end
end Bx

set_option Elab.async false
set_option linter.all false
set_option maxRecDepth 100000
set_option maxHeartbeats 2000000
namespace Bx
/-! ### products over the unknowns -/
def pm : Nat → (Nat → Rat) → Rat
  | 0, _ => 1
  | n + 1, f => pm n f * f n
theorem pm_congr {f g : Nat → Rat} : ∀ {n : Nat}, (∀ i, i < n → f i = g i) → pm n f = pm n g
  | 0, _ => rfl
  | n + 1, h => by unfold pm; rw [pm_congr fun i hi => h i (by omega), h n (by omega)]
theorem pm_mul (f g : Nat → Rat) : ∀ n, pm n (fun k => f k * g k) = pm n f * pm n g
  | 0 => by unfold pm; grind
  | n + 1 => by unfold pm; rw [pm_mul f g n]; grind
theorem pm_ext {f : Nat → Rat} {n : Nat} : ∀ {m : Nat}, n ≤ m → (∀ l, n ≤ l → l < m → f l = 1) → pm m f = pm n f
  | 0, h, _ => by
    have : n = 0 := by omega
    subst this; rfl
  | m + 1, h, h1 => by
    by_cases e : n = m + 1
    · subst e; rfl
    · show pm m f * f m = pm n f
      rw [pm_ext (m := m) (by omega) fun l a b => h1 l a (by omega), h1 m (by omega) (by omega), Rat.mul_one]
theorem pf_pm (w : Nat → Int → Rat) (p : List Int) : pf w p = pm 4 (fun l => w l (gd p l)) := by
  unfold pf
  show _ = 1 * _ * _ * _ * _
  grind
def wA (box : List Stretch) (g : Nat → Nat) (i : Nat) (w : Nat → Int → Rat) : Nat → Int → Rat := fun l => if l < i then Mv (box.getD l s00) (g l) (Td (g l) (w l)) else w l
theorem wA_0 {box g w} : wA box g 0 w = w := by
  funext l; unfold wA; rw [if_neg (by omega)]
theorem wA_succ {box g i w} : wA box g i (upW w i (Mv (box.getD i s00) (g i) (Td (g i) (w i)))) = wA box g (i + 1) w := by
  funext l
  unfold wA upW
  by_cases h : l < i
  · rw [if_pos h, if_neg (show ¬ l = i by omega), if_pos (show l < i + 1 by omega)]
  · rw [if_neg h]
    by_cases e : l = i
    · subst e; rw [if_pos rfl, if_pos (by omega)]
    · rw [if_neg e, if_neg (by omega)]
section
variable {xs : Tms} {box : List Stretch}
theorem Fct.chain (F : Fct xs box) : ∀ i, i ≤ box.length → ∀ w, pg (pf w) (wSt box (polyOf xs) i).1 = pg (pf (wA box (gx xs) i w)) xs
  | 0, _, w => by
    show pg (pf w) (polyOf xs) = _
    rw [pg_polyOf, wA_0]
  | i + 1, hi, w => by
    have hx : box[i]? = some (box[i]'(by omega)) := List.getElem?_eq_getElem _
    have hb : box.getD i s00 = box[i]'(by omega) := by rw [List.getD_eq_getElem?_getD, hx]; rfl
    have hz : box.zipIdx[i]? = some (box[i]'(by omega), i) := by rw [List.getElem?_zipIdx, hx]; simp
    have e : wSt box (polyOf xs) (i + 1) = wStep (wSt box (polyOf xs) i) (box[i]'(by omega), i) := by unfold wSt; rw [foldl_take hz]
    have hk : i < 4 := by have := F.b3; omega
    have S := F.stp i (by omega)
    have sok := F.st _ (List.getElem_mem (show i < box.length by omega))
    have pos := S.kys.pos S.grid
    have hD : (degI (wSt box (polyOf xs) i).1 i).toNat = gx xs i := by rw [S.deg i (Nat.le_refl _) hk]; exact Int.toNat_natCast _
    have md : degI (movedP (wSt box (polyOf xs) i).1 i (box[i]'(by omega))).1 i = degI (wSt box (polyOf xs) i).1 i := moved_deg S.kys S.nz hk pos (slo_ne sok.lt) hk
    have mpos : ∀ e ∈ (movedP (wSt box (polyOf xs) i).1 i (box[i]'(by omega))).1, 0 ≤ gd e.1 i := fun e he => (moved_sup S.kys hk he).choose_spec.2.2.1
    rw [e]
    show pg (pf w) (toldP (movedP (wSt box (polyOf xs) i).1 i (box[i]'(by omega))).1 i) = _
    rw [pg_told (moved_kys S.kys) hk mpos, md, hD, pg_moved S.kys hk (fun e he => pos e he i), hD, upW_upW, upW_same, F.chain i (by omega), ← hb, wA_succ]
theorem facS_rat (box : List Stretch) (g : Nat → Nat) : ∀ n, (facS box g n : Rat) = pm n (fun l => (botS (box.getD l s00) : Rat) ^ g l * (fct (g l) : Rat))
  | 0 => rfl
  | n + 1 => by
    unfold facS pm
    rw [Rat.intCast_mul, Rat.intCast_mul, Rat.intCast_pow, facS_rat box g n]
    rfl
/-- the law's factors -/
def Rf (box : List Stretch) (g : Nat → Nat) (ix p : List Int) (k : Nat) : Rat := (polN (box.getD k s00) (g k) (gd ix k).toNat (gd p k).toNat : Rat) / (polD (box.getD k s00) (g k) (gd p k).toNat : Rat)
theorem Fct.coef (F : Fct xs box) {q : List Int} (hq : ∀ l, l < box.length → 0 ≤ gd q l ∧ gd q l ≤ (gx xs l : Int)) (h0 : ∀ l, box.length ≤ l → l < 4 → gd q l = 0) :
    pg (pf (wq q)) (wSt box (polyOf xs) box.length).1 = (facS box (gx xs) box.length : Rat) * pg (fun p => pm box.length (Rf box (gx xs) q p)) xs := by
  rw [F.chain _ (Nat.le_refl _), ← pg_smul]
  apply pg_congr
  intro t ht
  rw [pf_pm, pm_ext (n := box.length) (by have := F.b3; omega), facS_rat, ← pm_mul]
  · apply pm_congr
    intro l hl
    unfold wA
    rw [if_pos hl]
    unfold wq Rf
    obtain ⟨a1, a2⟩ := hq l hl
    have b1 := F.pos t ht l
    have b2 := F.gle ht l
    obtain ⟨i, hi⟩ := Int.eq_ofNat_of_zero_le a1
    obtain ⟨j, hj⟩ := Int.eq_ofNat_of_zero_le b1
    rw [hi, hj, Int.toNat_natCast, Int.toNat_natCast]
    rw [Mv_pol (by omega) (by omega)]
  · intro l h1 h2
    unfold wA
    rw [if_neg (by omega)]
    unfold wq
    rw [h0 l h1 h2, F.g0 ht h1, ind_self]
/-! ### the law's sums of fractions -/
theorem int_ne {a : Int} (h : a ≠ 0) : (a : Rat) ≠ 0 := fun z => h (by simpa using z)
theorem tbL_val {f : List Int × Int → Int × Int} {R : List Int → Rat} : ∀ {xs : Tms} (st : Int × Int), st.2 ≠ 0 → (∀ t ∈ xs, (f t).2 ≠ 0 ∧ ((f t).1 : Rat) / ((f t).2 : Rat) = (t.2 : Rat) * R t.1) →
    (xs.foldl (tbS f) st).2 ≠ 0 ∧ ((xs.foldl (tbS f) st).1 : Rat) / ((xs.foldl (tbS f) st).2 : Rat) = (st.1 : Rat) / (st.2 : Rat) + pg R xs
  | [], st, h0, _ => ⟨h0, by rw [pg_nil]; show (st.1 : Rat) / (st.2 : Rat) = _; grind⟩
  | t :: xs, st, h0, h => by
    obtain ⟨h1, h2⟩ := h t List.mem_cons_self
    have h3 : (tbS f st t).2 ≠ 0 := Int.mul_ne_zero h0 h1
    obtain ⟨a1, a2⟩ := tbL_val (xs := xs) (tbS f st t) h3 fun u hu => h u (List.mem_cons_of_mem _ hu)
    rw [List.foldl_cons]
    refine ⟨a1, ?_⟩
    rw [a2, pg_cons, ← h2]
    have n1 := int_ne h0
    have n2 := int_ne h1
    show ((st.1 * (f t).2 + (f t).1 * st.2 : Int) : Rat) / ((st.2 * (f t).2 : Int) : Rat) + _ = _
    rw [Rat.intCast_add, Rat.intCast_mul, Rat.intCast_mul, Rat.intCast_mul]
    generalize (st.1 : Rat) = a at *
    generalize (st.2 : Rat) = b at *
    generalize ((f t).1 : Rat) = c at *
    generalize ((f t).2 : Rat) = d at *
    have e : (a * d + c * b) / (b * d) = a / b + c / d := by
      have hbd : b * d ≠ 0 := fun z => by
        rcases Rat.mul_eq_zero.mp z with e | e
        · exact n1 e
        · exact n2 e
      refine r_mul_cancel hbd ?_
      have e1 : (a * d + c * b) / (b * d) * (b * d) = a * d + c * b := by grind
      rw [e1]
      grind
    rw [e]
    grind
theorem frac_mul {a b c d : Rat} (hb : b ≠ 0) (hd : d ≠ 0) : (a * c) / (b * d) = (a / b) * (c / d) := by
  have hbd : b * d ≠ 0 := fun z => by
    rcases Rat.mul_eq_zero.mp z with e | e
    · exact hb e
    · exact hd e
  refine r_mul_cancel hbd ?_
  have e1 : (a * c) / (b * d) * (b * d) = a * c := by grind
  rw [e1]
  have e2 : a / b * b = a := by grind
  have e3 : c / d * d = c := by grind
  generalize a / b = u at *
  generalize c / d = v at *
  rw [← e2, ← e3]
  grind
theorem huL_val {box : List Stretch} {dg : List Nat} {ix p : List Int} {c : Int} (h : ∀ k, k < box.length → (gd p k).toNat ≤ dg.getD k 0) : ∀ n, n ≤ box.length → (huL box dg ix p c n).2 ≠ 0 ∧
    ((huL box dg ix p c n).1 : Rat) / ((huL box dg ix p c n).2 : Rat) = (c : Rat) * pm n (Rf box (fun k => dg.getD k 0) ix p)
  | 0, _ => ⟨by show (1 : Int) ≠ 0; decide, by show (c : Rat) / ((1 : Int) : Rat) = (c : Rat) * 1; rw [Rat.intCast_one]; grind⟩
  | n + 1, hn => by
    obtain ⟨a1, a2⟩ := huL_val h n (by omega)
    have e : huL box dg ix p c (n + 1) = ((huL box dg ix p c n).1 * polN (box.getD n s00) (dg.getD n 0) (gd ix n).toNat (gd p n).toNat, (huL box dg ix p c n).2 * polD (box.getD n s00) (dg.getD n 0) (gd p n).toNat) := by unfold huL; rw [range_foldl]
    have dp := polD_pos (s := box.getD n s00) (h n (by omega))
    rw [e]
    refine ⟨Int.mul_ne_zero a1 (by omega), ?_⟩
    show (((huL box dg ix p c n).1 * polN (box.getD n s00) (dg.getD n 0) (gd ix n).toNat (gd p n).toNat : Int) : Rat) / (((huL box dg ix p c n).2 * polD (box.getD n s00) (dg.getD n 0) (gd p n).toNat : Int) : Rat) = _
    rw [Rat.intCast_mul, Rat.intCast_mul, frac_mul (int_ne a1) (int_ne (by omega)), a2]
    show _ = (c : Rat) * (pm n (Rf box (fun k => dg.getD k 0) ix p) * Rf box (fun k => dg.getD k 0) ix p n)
    unfold Rf
    grind
theorem Fct.law (F : Fct xs box) (ix : List Int) : lawCnt xs box ix = pg (fun p => pm box.length (Rf box (gx xs) ix p)) xs := by
  unfold lawCnt
  rw [Rat.divInt_eq_div]
  have h := tbL_val (f := fun t => huL box (degsP xs box.length) ix t.1 t.2 box.length) (R := fun p => pm box.length (Rf box (gx xs) ix p)) (xs := xs) (0, 1) (by decide) fun t ht => by
    obtain ⟨a1, a2⟩ := huL_val (box := box) (dg := degsP xs box.length) (ix := ix) (p := t.1) (c := t.2) (fun k hk => by
      rw [degsP_get hk]
      have := F.gle ht k
      have := gx_int xs k
      have := F.pos t ht k
      omega) box.length (Nat.le_refl _)
    refine ⟨a1, ?_⟩
    rw [a2]
    congr 1
    apply pm_congr
    intro k hk
    have e := degsP_get (ts := xs) hk
    unfold Rf
    simp only [e]
    rfl
  have h2 := h.2
  rw [show (((0, 1) : Int × Int).1 : Rat) / (((0, 1) : Int × Int).2 : Rat) = 0 from by show ((0 : Int) : Rat) / ((1 : Int) : Rat) = 0; rw [Rat.intCast_zero]; grind] at h2
  show ((tbL _ xs).1 : Rat) / ((tbL _ xs).2 : Rat) = _
  unfold tbL
  rw [h2]
  grind
theorem tabR_congr {f g : List Int → Rat} {l : List (List Int)} (h : ∀ ix ∈ l, f ix = g ix) : tabR f l = tabR g l := by
  have : ∀ (l : List (List Int)) (acc : List (List Int × Rat)), (∀ ix ∈ l, f ix = g ix) → l.foldl (fun acc ix => ptT acc ix (f ix)) acc = l.foldl (fun acc ix => ptT acc ix (g ix)) acc := by
    intro l
    induction l with
    | nil => intro acc _; rfl
    | cons x l ih =>
      intro acc h
      rw [List.foldl_cons, List.foldl_cons, h x List.mem_cons_self, ih _ fun ix hx => h ix (List.mem_cons_of_mem _ hx)]
  exact this l [] h
theorem gd_app {ix r : List Int} {l : Nat} : gd (ix ++ r) l = if l < ix.length then gd ix l else gd r (l - ix.length) := by
  unfold gd
  rw [List.getD_eq_getElem?_getD, List.getD_eq_getElem?_getD, List.getD_eq_getElem?_getD]
  by_cases h : l < ix.length
  · rw [if_pos h, List.getElem?_append_left h]
  · rw [if_neg h, List.getElem?_append_right (by omega)]
theorem gd_drop (n l : Nat) : gd (noP.drop n) l = 0 := by
  have := gd_noP (n + l)
  unfold gd at *
  rw [List.getD_eq_getElem?_getD] at *
  rw [List.getElem?_drop]; exact this
theorem Fct.eq (F : Fct xs box) : countsOver (polyOf xs) box = lawCounts xs box := by
  unfold countsOver lawCounts
  rw [degs_poly F]
  refine tabR_congr fun ix hix => ?_
  have hl : ix.length = box.length := by rw [idxs_length hix, degsP_len]
  have S := F.stp box.length (Nat.le_refl _)
  have b3 := F.b3
  have hq4 : (ix ++ noP.drop ix.length).length = 4 := by rw [List.length_append, List.length_drop]; show ix.length + (4 - ix.length) = 4; omega
  have hg : ∀ l, l < box.length → 0 ≤ gd ix l ∧ gd ix l ≤ (gx xs l : Int) := fun l hl2 => by
    have := idxs_gd hix (k := l) (by rw [degsP_len]; exact hl2)
    rw [degsP_get hl2] at this
    exact this
  have hgd : ∀ l, l < box.length → gd (ix ++ noP.drop ix.length) l = gd ix l := fun l h => by rw [gd_app, if_pos (by omega)]
  unfold cnt
  rw [Rat.divInt_eq_div, dictOf_self S.kys.1, ← pg_coef S.kys hq4, F.coef (fun l h => by rw [hgd l h]; exact hg l h) (fun l h1 h2 => by rw [gd_app, if_neg (by omega), gd_drop]), S.fac, F.law]
  have fp := (F.fac (Nat.le_refl box.length)).1
  have fn := int_ne (a := facS box (gx xs) box.length) (by omega)
  have e : pg (fun p => pm box.length (Rf box (gx xs) (ix ++ noP.drop ix.length) p)) xs = pg (fun p => pm box.length (Rf box (gx xs) ix p)) xs := pg_congr fun t _ => pm_congr fun l h => by
    unfold Rf
    rw [hgd l h]
  rw [e]
  grind
end
end Bx

set_option Elab.async false
set_option linter.all false
set_option maxRecDepth 100000
set_option maxHeartbeats 2000000
namespace Bx
/-! ### sums over the shares -/
def Wo (x : Rat) : Nat → (Nat → Rat) → Nat → Rat
  | 0, f => f
  | d + 1, f => Wo x d (fun j => f j + x * sh1 f j)
theorem sh1_lin (a b : Rat) (f g : Nat → Rat) : ∀ j, sh1 (fun j => a * f j + b * g j) j = a * sh1 f j + b * sh1 g j
  | 0 => by show (0 : Rat) = a * 0 + b * 0; grind
  | _ + 1 => rfl
theorem Wo_lin (x a b : Rat) : ∀ (d : Nat) (f g : Nat → Rat) (j : Nat), Wo x d (fun j => a * f j + b * g j) j = a * Wo x d f j + b * Wo x d g j
  | 0, f, g, j => rfl
  | d + 1, f, g, j => by
    show Wo x d (fun j => (a * f j + b * g j) + x * sh1 (fun j => a * f j + b * g j) j) j = _
    have e : (fun j => (a * f j + b * g j) + x * sh1 (fun j => a * f j + b * g j) j) = fun j => a * (f j + x * sh1 f j) + b * (g j + x * sh1 g j) := by
      funext j; rw [sh1_lin]; grind
    rw [e, Wo_lin x a b d]
    rfl
theorem Wo_ch (x : Rat) : ∀ (d e j : Nat), Wo x d (fun j => (ch e j : Rat) * x ^ j) j = (ch (e + d) j : Rat) * x ^ j
  | 0, e, j => rfl
  | d + 1, e, j => by
    show Wo x d (fun j => (ch e j : Rat) * x ^ j + x * sh1 (fun j => (ch e j : Rat) * x ^ j) j) j = _
    have h : (fun j => (ch e j : Rat) * x ^ j + x * sh1 (fun j => (ch e j : Rat) * x ^ j) j) = fun j => (ch (e + 1) j : Rat) * x ^ j := by
      funext j
      match j with
      | 0 =>
        rw [ch_zero, ch_zero]
        show _ + x * 0 = _
        grind
      | j + 1 =>
        rw [ch_succ, Rat.natCast_add, Rat.pow_succ]
        show _ + x * ((ch e j : Rat) * x ^ j) = _
        grind
    rw [h, Wo_ch x d (e + 1) j, show e + 1 + d = e + (d + 1) by omega]
/-- the weighted sum of the polar forms -/
def Qs (s r H L : Rat) (d i n j : Nat) : Rat := sm (d + 1) (fun t => (ch d t : Rat) * (s ^ t * r ^ (d - t) * Ap H L (i + t) (n + (d - t)) j))
theorem Qs_step (s r H L : Rat) (d i n j : Nat) : Qs s r H L (d + 1) i n j = r * Qs s r H L d i (n + 1) j + s * Qs s r H L d (i + 1) n j := by
  unfold Qs
  rw [sm_pascal]
  have e1 : sm (d + 1 + 1) (fun t => (ch d t : Rat) * (s ^ t * r ^ (d + 1 - t) * Ap H L (i + t) (n + (d + 1 - t)) j)) = sm (d + 1) (fun t => (ch d t : Rat) * (s ^ t * r ^ (d + 1 - t) * Ap H L (i + t) (n + (d + 1 - t)) j)) := by
    show sm (d + 1) _ + (ch d (d + 1) : Rat) * _ = _
    rw [ch_over (Nat.lt_succ_self d)]
    show _ + (0 : Rat) * _ = _
    grind
  rw [e1, ← sm_smul, ← sm_smul]
  congr 1
  · apply sm_congr
    intro t ht
    rw [show d + 1 - t = (d - t) + 1 by omega, Rat.pow_succ, show n + ((d - t) + 1) = n + 1 + (d - t) by omega]
    grind
  · apply sm_congr
    intro t ht
    rw [Nat.add_sub_add_right, Rat.pow_succ, show i + (t + 1) = i + 1 + t by omega]
    grind
theorem Qs_Wo (s r H L : Rat) (hr : r + s = 1) : ∀ (d i n j : Nat), Qs s r H L d i n j = Wo (r * L + s * H) d (Ap H L i n) j
  | 0, i, n, j => by
    unfold Qs
    rw [sm_1]
    show (ch 0 0 : Rat) * (s ^ 0 * r ^ (0 - 0) * Ap H L (i + 0) (n + (0 - 0)) j) = Ap H L i n j
    rw [ch_zero, Rat.pow_zero, Nat.sub_zero, Rat.pow_zero, Nat.add_zero, Nat.add_zero]
    show (1 : Rat) * (1 * 1 * _) = _
    grind
  | d + 1, i, n, j => by
    rw [Qs_step, Qs_Wo s r H L hr d, Qs_Wo s r H L hr d, ← Wo_lin]
    show _ = Wo (r * L + s * H) d (fun j => Ap H L i n j + (r * L + s * H) * sh1 (Ap H L i n) j) j
    congr 1
    funext j
    rw [Ap_n, Ap_i]
    have e : r = 1 - s := by grind
    rw [e]
    grind
/-- at the place x between the ends the sum is the power of x -/
theorem bern (s H L : Rat) {D j : Nat} : sm (D + 1) (fun i => (ch D i : Rat) * (s ^ i * (1 - s) ^ (D - i) * Ap H L i (D - i) j)) = (ch D j : Rat) * ((1 - s) * L + s * H) ^ j := by
  have h := Qs_Wo s (1 - s) H L (by grind) D 0 0 j
  have e : (Ap H L 0 0) = fun j => (ch 0 j : Rat) * ((1 - s) * L + s * H) ^ j := by
    funext j
    rw [Ap_00]
    match j with
    | 0 => rw [Rat.pow_zero]; grind
    | j + 1 => rw [show ch 0 (j + 1) = 0 from rfl]; show (0 : Rat) = 0 * _; grind
  rw [e, Wo_ch, Nat.zero_add] at h
  rw [← h]
  unfold Qs
  apply sm_congr
  intro t ht
  rw [Nat.zero_add, Nat.zero_add]
/-! ### sums over lists -/
def ls {α : Type} (f : α → Rat) : List α → Rat
  | [] => 0
  | x :: xs => f x + ls f xs
theorem ls_app {α : Type} (f : α → Rat) : ∀ a b : List α, ls f (a ++ b) = ls f a + ls f b
  | [], b => by show ls f b = 0 + ls f b; grind
  | x :: a, b => by show f x + ls f (a ++ b) = f x + ls f a + ls f b; rw [ls_app f a b]; grind
theorem ls_congr {α : Type} {f g : α → Rat} : ∀ {l : List α}, (∀ x ∈ l, f x = g x) → ls f l = ls g l
  | [], _ => rfl
  | x :: l, h => by unfold ls; rw [h x List.mem_cons_self, ls_congr fun y hy => h y (List.mem_cons_of_mem _ hy)]
theorem ls_flat {α β : Type} (f : β → Rat) (g : α → List β) : ∀ l : List α, ls f (l.flatMap g) = ls (fun x => ls f (g x)) l
  | [] => rfl
  | x :: l => by rw [List.flatMap_cons, ls_app, ls_flat f g l]; rfl
theorem ls_mulr {α : Type} (f : α → Rat) (c : Rat) : ∀ l : List α, ls (fun x => f x * c) l = ls f l * c
  | [] => by show (0 : Rat) = 0 * c; grind
  | x :: l => by show f x * c + ls _ l = (f x + ls f l) * c; rw [ls_mulr f c l]; grind
theorem ls_range (f : Nat → Rat) : ∀ n, ls f (List.range n) = sm n f
  | 0 => rfl
  | n + 1 => by
    rw [List.range_succ, ls_app, ls_range f n]
    show _ + (f n + 0) = _ + f n
    grind
theorem ls_map {α β : Type} (f : β → Rat) (g : α → β) : ∀ l : List α, ls f (l.map g) = ls (fun x => f (g x)) l
  | [] => rfl
  | x :: l => by rw [List.map_cons]; show f (g x) + ls f (l.map g) = _; rw [ls_map f g l]; rfl
theorem ls_pg {α : Type} (φ : α → Rat) (f : α → List Int → Rat) (ts : Tms) : ∀ l : List α, ls (fun a => φ a * pg (f a) ts) l = pg (fun p => ls (fun a => φ a * f a p) l) ts
  | [] => (pg_zero ts).symm
  | a :: l => by
    show φ a * pg (f a) ts + ls _ l = pg (fun p => φ a * f a p + ls (fun a => φ a * f a p) l) ts
    rw [pg_add (fun p => φ a * f a p), pg_smul, ls_pg φ f ts l]
/-- the sum over all indexes of a product -/
theorem idx_sum (G : Nat → Int → Rat) (ds : List Nat) : ∀ i, i ≤ ds.length → ls (fun ix => pm i (fun k => G k (gd ix k))) (idxs (ds.take i)) = pm i (fun k => sm (ds.getD k 0 + 1) (fun h => G k (h : Int)))
  | 0, _ => by
    rw [List.take_zero]
    show (1 : Rat) + 0 = 1
    grind
  | i + 1, hi => by
    have hx : ds[i]? = some (ds[i]'(by omega)) := List.getElem?_eq_getElem _
    have hd : ds.getD i 0 = ds[i]'(by omega) := by rw [List.getD_eq_getElem?_getD, hx]; rfl
    have e : idxs (ds.take (i + 1)) = (idxs (ds.take i)).flatMap fun ix => (List.range (ds[i]'(by omega) + 1)).map fun (h : Nat) => ix ++ [(h : Int)] := by
      unfold idxs
      rw [foldl_take hx]
    rw [e, ls_flat]
    have e2 : ls (fun ix => ls (fun ix => pm (i + 1) (fun k => G k (gd ix k))) ((List.range (ds[i]'(by omega) + 1)).map fun (h : Nat) => ix ++ [(h : Int)])) (idxs (ds.take i)) = ls (fun ix => pm i (fun k => G k (gd ix k)) * sm (ds[i]'(by omega) + 1) (fun h => G i (h : Int))) (idxs (ds.take i)) := by
      apply ls_congr
      intro ix hix
      have hl : ix.length = i := by rw [idxs_length hix, List.length_take]; omega
      rw [ls_map, ls_range, ← sm_smul]
      apply sm_congr
      intro h _
      show pm i (fun k => G k (gd (ix ++ [(h : Int)]) k)) * G i (gd (ix ++ [(h : Int)]) i) = _
      have e3 : gd (ix ++ [(h : Int)]) i = (h : Int) := by
        rw [gd_app, if_neg (by omega), hl, Nat.sub_self]; rfl
      rw [e3, pm_congr fun k hk => by rw [gd_app, if_pos (by omega)]]
    rw [e2, ls_mulr, idx_sum G ds i (by omega)]
    show _ = pm i _ * sm (ds.getD i 0 + 1) _
    rw [hd]
/-! ### the table's entries -/
theorem ptT_newR {acc : List (List Int × Rat)} {k : List Int} {c : Rat} (h : k ∉ acc.map (·.1)) : ptT acc k c = acc ++ [(k, c)] := by
  unfold ptT
  rw [lkT_none h, if_neg (by simp)]
theorem tabR_eq (f : List Int → Rat) {l : List (List Int)} (h : l.Nodup) : tabR f l = l.map fun ix => (ix, f ix) := by
  have : ∀ (l : List (List Int)) (acc : List (List Int × Rat)), (acc.map (·.1) ++ l).Nodup → l.foldl (fun acc ix => ptT acc ix (f ix)) acc = acc ++ l.map fun ix => (ix, f ix) := by
    intro l
    induction l with
    | nil => intro acc _; simp
    | cons x l ih =>
      intro acc h
      rw [List.foldl_cons, ptT_newR, ih]
      · simp
      · rw [List.map_append, List.append_assoc]; exact h
      · intro hm
        rw [List.nodup_append] at h
        exact h.2.2 _ hm _ List.mem_cons_self rfl
  have h2 := this l [] (by simpa using h)
  unfold tabR
  simpa using h2
theorem flat_nodup {d : Nat} : ∀ {a : List (List Int)}, a.Nodup → (a.flatMap fun ix => (List.range (d + 1)).map fun (h : Nat) => ix ++ [(h : Int)]).Nodup
  | [], _ => .nil
  | x :: a, h => by
    obtain ⟨h1, h2⟩ := List.nodup_cons.mp h
    rw [List.flatMap_cons, List.nodup_append]
    refine ⟨?_, flat_nodup h2, fun u hu v hv e => ?_⟩
    · rw [List.nodup_iff_pairwise_ne, List.pairwise_map]
      refine List.Pairwise.imp ?_ (List.nodup_iff_pairwise_ne.mp List.nodup_range)
      intro a b hab z
      have := List.append_cancel_left z
      simp at this
      exact hab (by omega)
    · obtain ⟨i, _, rfl⟩ := List.mem_map.mp hu
      obtain ⟨y, hy, hv⟩ := List.mem_flatMap.mp hv
      obtain ⟨j, _, rfl⟩ := List.mem_map.mp hv
      have := (List.append_inj' e (by simp)).1
      subst this
      exact h1 hy
theorem idxs_nodup_from : ∀ (ds : List Nat) (a : List (List Int)), a.Nodup → (ds.foldl (fun found m => found.flatMap fun ix => (List.range (m + 1)).map fun (h : Nat) => ix ++ [(h : Int)]) a).Nodup
  | [], _, h => h
  | d :: ds, a, h => idxs_nodup_from ds _ (flat_nodup h)
theorem idxs_nodup (ds : List Nat) : (idxs ds).Nodup := idxs_nodup_from ds [[]] (by simp)
/-! ### the law's sum at the shares -/
theorem rat_frac (q : Rat) : (q.num : Rat) / ((q.den : Int) : Rat) = q := by
  rw [← Rat.divInt_eq_div]; exact Rat.num_divInt_den q
def sg (sh : List (Int × Int)) (k : Nat) : Rat := ((sh.getD k (0, 1)).1 : Rat) / ((sh.getD k (0, 1)).2 : Rat)
theorem huM_val {dg : List Nat} {sh : List (Int × Int)} {ix : List Int} {q : Rat} (hs : ∀ k, k < dg.length → 0 < (sh.getD k (0, 1)).2) (hix : ∀ k, k < dg.length → (gd ix k).toNat ≤ dg.getD k 0) : ∀ n, n ≤ dg.length → (huM dg sh ix q n).2 ≠ 0 ∧
    ((huM dg sh ix q n).1 : Rat) / ((huM dg sh ix q n).2 : Rat) = q * pm n (fun k => (ch (dg.getD k 0) (gd ix k).toNat : Rat) * (sg sh k ^ (gd ix k).toNat * (1 - sg sh k) ^ (dg.getD k 0 - (gd ix k).toNat)))
  | 0, _ => ⟨by show (q.den : Int) ≠ 0; have := q.den_pos; omega, by show (q.num : Rat) / ((q.den : Int) : Rat) = q * 1; rw [rat_frac]; grind⟩
  | n + 1, hn => by
    obtain ⟨a1, a2⟩ := huM_val (q := q) hs hix n (by omega)
    have hp := hs n (by omega)
    have hi := hix n (by omega)
    have e : huM dg sh ix q (n + 1) = ((huM dg sh ix q n).1 * (ch (dg.getD n 0) (gd ix n).toNat : Int) * (sh.getD n (0, 1)).1 ^ (gd ix n).toNat * ((sh.getD n (0, 1)).2 - (sh.getD n (0, 1)).1) ^ (dg.getD n 0 - (gd ix n).toNat), (huM dg sh ix q n).2 * (sh.getD n (0, 1)).2 ^ (dg.getD n 0)) := by unfold huM; rw [range_foldl]
    have bn : ((sh.getD n (0, 1)).2 : Rat) ≠ 0 := int_ne (by omega)
    have hpw : (sh.getD n (0, 1)).2 ^ (dg.getD n 0) ≠ 0 := by have := Int.pow_pos (m := dg.getD n 0) hp; omega
    rw [e]
    refine ⟨Int.mul_ne_zero a1 hpw, ?_⟩
    show (((huM dg sh ix q n).1 * (ch (dg.getD n 0) (gd ix n).toNat : Int) * (sh.getD n (0, 1)).1 ^ (gd ix n).toNat * ((sh.getD n (0, 1)).2 - (sh.getD n (0, 1)).1) ^ (dg.getD n 0 - (gd ix n).toNat) : Int) : Rat) / (((huM dg sh ix q n).2 * (sh.getD n (0, 1)).2 ^ (dg.getD n 0) : Int) : Rat) = q * (pm n _ * _)
    rw [Rat.intCast_mul, Rat.intCast_mul, Rat.intCast_mul, Rat.intCast_mul, Rat.intCast_pow, Rat.intCast_pow, Rat.intCast_pow, Rat.intCast_sub, Rat.mul_assoc, Rat.mul_assoc, frac_mul (int_ne a1) (rpow_ne bn _), a2]
    have f1 : ((sh.getD n (0, 1)).1 : Rat) = sg sh n * ((sh.getD n (0, 1)).2 : Rat) := by unfold sg; grind
    have f2 : ((sh.getD n (0, 1)).2 : Rat) - ((sh.getD n (0, 1)).1 : Rat) = (1 - sg sh n) * ((sh.getD n (0, 1)).2 : Rat) := by rw [f1]; grind
    have f3 : ((sh.getD n (0, 1)).2 : Rat) ^ (dg.getD n 0) = ((sh.getD n (0, 1)).2 : Rat) ^ (gd ix n).toNat * ((sh.getD n (0, 1)).2 : Rat) ^ (dg.getD n 0 - (gd ix n).toNat) := by rw [← rpow_add]; congr 1; omega
    have key : ((((ch (dg.getD n 0) (gd ix n).toNat : Int) : Rat)) * (((sh.getD n (0, 1)).1 : Rat) ^ (gd ix n).toNat * (((sh.getD n (0, 1)).2 : Rat) - ((sh.getD n (0, 1)).1 : Rat)) ^ (dg.getD n 0 - (gd ix n).toNat))) / ((sh.getD n (0, 1)).2 : Rat) ^ (dg.getD n 0) = (ch (dg.getD n 0) (gd ix n).toNat : Rat) * (sg sh n ^ (gd ix n).toNat * (1 - sg sh n) ^ (dg.getD n 0 - (gd ix n).toNat)) := by
      rw [f2, f1, rmul_pow, rmul_pow]
      have hne := rpow_ne bn (dg.getD n 0)
      refine r_mul_cancel hne ?_
      rw [Rat.div_mul_cancel hne, f3]
      show (ch (dg.getD n 0) (gd ix n).toNat : Rat) * _ = _
      grind
    rw [key]
    grind
theorem mixA_val {dg : List Nat} {sh : List (Int × Int)} (hs : ∀ k, k < dg.length → 0 < (sh.getD k (0, 1)).2) : ∀ {cs : List (List Int × Rat)} (acc : Rat), (∀ e ∈ cs, ∀ k, k < dg.length → (gd e.1 k).toNat ≤ dg.getD k 0) →
    cs.foldl (mixS dg sh) acc = acc + ls (fun e => e.2 * pm dg.length (fun k => (ch (dg.getD k 0) (gd e.1 k).toNat : Rat) * (sg sh k ^ (gd e.1 k).toNat * (1 - sg sh k) ^ (dg.getD k 0 - (gd e.1 k).toNat)))) cs
  | [], acc, _ => by show acc = acc + 0; grind
  | e :: cs, acc, h => by
    obtain ⟨a1, a2⟩ := huM_val (ix := e.1) (q := e.2) hs (h e List.mem_cons_self) dg.length (Nat.le_refl _)
    rw [List.foldl_cons, mixA_val hs (mixS dg sh acc e) fun f hf => h f (List.mem_cons_of_mem _ hf)]
    have d1 : ((acc.den : Int) : Rat) ≠ 0 := int_ne (by have := acc.den_pos; omega)
    have d2 := int_ne a1
    have em : mixS dg sh acc e = acc + ((huM dg sh e.1 e.2 dg.length).1 : Rat) / ((huM dg sh e.1 e.2 dg.length).2 : Rat) := by
      unfold mixS
      have := Rat.divInt_add_divInt acc.num (huM dg sh e.1 e.2 dg.length).1 (d₁ := (acc.den : Int)) (d₂ := (huM dg sh e.1 e.2 dg.length).2) (by have := acc.den_pos; omega) a1
      rw [← this, Rat.num_divInt_den, Rat.divInt_eq_div]
    rw [em, a2]
    show _ = acc + (_ + ls _ cs)
    grind
section
variable {xs : Tms} {box : List Stretch} {sh : List (Int × Int)}
theorem sh_pos (so : ShOk sh) {k : Nat} (hk : k < sh.length) : 0 ≤ (sh.getD k (0, 1)).1 ∧ (sh.getD k (0, 1)).1 ≤ (sh.getD k (0, 1)).2 ∧ 0 < (sh.getD k (0, 1)).2 ∧ (sh.getD k (0, 1)).2 ≤ 10 := so _ (sh_mem hk).2
theorem Fct.ixle (F : Fct xs box) {ix : List Int} (h : ix ∈ idxs (degsP xs box.length)) {k : Nat} (hk : k < box.length) : 0 ≤ gd ix k ∧ gd ix k ≤ (gx xs k : Int) := by
  have := idxs_gd h (k := k) (by rw [degsP_len]; exact hk)
  rw [degsP_get hk] at this
  exact this
theorem pts_get (hl : sh.length = box.length) {k : Nat} (hk : k < box.length) : plc (ptsS box sh) k = ptS (box.getD k s00) (sh.getD k (0, 1)) := by
  unfold plc ptsS
  have h1 : box[k]? = some (box.getD k s00) := by rw [List.getD_eq_getElem?_getD, List.getElem?_eq_getElem hk]; rfl
  have h2 := (sh_mem (sh := sh) (k := k) (by omega)).1
  rw [List.getD_eq_getElem?_getD, List.getElem?_map, show (box.zip sh)[k]? = some (box.getD k s00, sh.getD k (0, 1)) from List.getElem?_zip_eq_some.mpr ⟨h1, h2⟩]
  rfl
theorem pts_len (hl : sh.length = box.length) : (ptsS box sh).length = box.length := by unfold ptsS; rw [List.length_map, List.length_zip]; omega
theorem pts_out (hl : sh.length = box.length) {k : Nat} (hk : box.length ≤ k) : plc (ptsS box sh) k = 0 := by
  unfold plc
  rw [List.getD_eq_getElem?_getD, List.getElem?_eq_none (by rw [pts_len hl]; exact hk)]; rfl
/-- the place that the law draws -/
theorem ptS_val {s : Stretch} {x : Int × Int} (hx : 0 < x.2) : ptS s x = (1 - (x.1 : Rat) / (x.2 : Rat)) * s.1 + ((x.1 : Rat) / (x.2 : Rat)) * s.2 := by
  unfold ptS
  rw [Rat.divInt_eq_div, Rat.intCast_add, Rat.intCast_mul, Rat.intCast_mul, Rat.intCast_mul, Rat.intCast_mul, Rat.intCast_mul, Rat.intCast_mul, Rat.intCast_sub, num_den s.1, num_den s.2]
  have d1 := den_ne s.1
  have d2 := den_ne s.2
  have d3 : (x.2 : Rat) ≠ 0 := int_ne (by omega)
  show (s.1 * (s.1.den : Rat) * (s.2.den : Rat) * ((x.2 : Rat) - (x.1 : Rat)) + s.2 * (s.2.den : Rat) * (s.1.den : Rat) * (x.1 : Rat)) / ((s.1.den : Rat) * (s.2.den : Rat) * (x.2 : Rat)) = _
  have hd : (s.1.den : Rat) * (s.2.den : Rat) * (x.2 : Rat) ≠ 0 := fun z => by
    rcases Rat.mul_eq_zero.mp z with e | e
    · rcases Rat.mul_eq_zero.mp e with e | e
      · exact d1 e
      · exact d2 e
    · exact d3 e
  refine r_mul_cancel hd ?_
  rw [Rat.div_mul_cancel hd]
  have e : (x.1 : Rat) / (x.2 : Rat) * (x.2 : Rat) = (x.1 : Rat) := Rat.div_mul_cancel d3
  generalize (x.1 : Rat) / (x.2 : Rat) = u at *
  rw [← e]
  grind
/-- the value at the place, as a sum over the terms -/
def valP (xs : Tms) (n : Nat) (pt : List Rat) : Rat := pg (fun p => pm n (fun k => plc pt k ^ (gd p k).toNat)) xs
theorem Fct.mixv (F : Fct xs box) (so : ShOk sh) (hl : sh.length = box.length) : mixA (degsP xs box.length) sh (lawCounts xs box) = valP xs box.length (ptsS box sh) := by
  have hsp : ∀ k, k < (degsP xs box.length).length → 0 < (sh.getD k (0, 1)).2 := fun k hk => (sh_pos so (by rw [degsP_len] at hk; omega)).2.2.1
  have nd := idxs_nodup (degsP xs box.length)
  unfold mixA lawCounts
  rw [tabR_eq _ nd, mixA_val hsp 0 (fun e he k hk => by
    obtain ⟨ix, hix, rfl⟩ := List.mem_map.mp he
    rw [degsP_len] at hk
    have := F.ixle hix hk
    rw [degsP_get hk]
    show (gd ix k).toNat ≤ gx xs k
    omega), ls_map, degsP_len]
  have e1 : ls (fun ix => lawCnt xs box ix * pm box.length (fun k => (ch ((degsP xs box.length).getD k 0) (gd ix k).toNat : Rat) * (sg sh k ^ (gd ix k).toNat * (1 - sg sh k) ^ ((degsP xs box.length).getD k 0 - (gd ix k).toNat)))) (idxs (degsP xs box.length)) =
      ls (fun ix => pm box.length (fun k => (ch (gx xs k) (gd ix k).toNat : Rat) * (sg sh k ^ (gd ix k).toNat * (1 - sg sh k) ^ (gx xs k - (gd ix k).toNat))) * pg (fun p => pm box.length (Rf box (gx xs) ix p)) xs) (idxs (degsP xs box.length)) := by
    apply ls_congr
    intro ix hix
    rw [F.law, Rat.mul_comm]
    congr 1
    apply pm_congr
    intro k hk
    have e := degsP_get (ts := xs) hk
    simp only [e]
    rfl
  rw [e1, ls_pg]
  unfold valP
  have e2 : ∀ t ∈ xs, ls (fun ix => pm box.length (fun k => (ch (gx xs k) (gd ix k).toNat : Rat) * (sg sh k ^ (gd ix k).toNat * (1 - sg sh k) ^ (gx xs k - (gd ix k).toNat))) * pm box.length (Rf box (gx xs) ix t.1)) (idxs (degsP xs box.length)) = pm box.length (fun k => plc (ptsS box sh) k ^ (gd t.1 k).toNat) := by
    intro t ht
    have h1 : ls (fun ix => pm box.length (fun k => (ch (gx xs k) (gd ix k).toNat : Rat) * (sg sh k ^ (gd ix k).toNat * (1 - sg sh k) ^ (gx xs k - (gd ix k).toNat))) * pm box.length (Rf box (gx xs) ix t.1)) (idxs (degsP xs box.length)) =
        ls (fun ix => pm box.length (fun k => (fun (k : Nat) (i : Int) => (ch (gx xs k) i.toNat : Rat) * (sg sh k ^ i.toNat * (1 - sg sh k) ^ (gx xs k - i.toNat)) * ((polN (box.getD k s00) (gx xs k) i.toNat (gd t.1 k).toNat : Rat) / (polD (box.getD k s00) (gx xs k) (gd t.1 k).toNat : Rat))) k (gd ix k))) (idxs (degsP xs box.length)) := by
      apply ls_congr
      intro ix _
      rw [← pm_mul]
      rfl
    have h2 := idx_sum (fun (k : Nat) (i : Int) => (ch (gx xs k) i.toNat : Rat) * (sg sh k ^ i.toNat * (1 - sg sh k) ^ (gx xs k - i.toNat)) * ((polN (box.getD k s00) (gx xs k) i.toNat (gd t.1 k).toNat : Rat) / (polD (box.getD k s00) (gx xs k) (gd t.1 k).toNat : Rat))) (degsP xs box.length) box.length (by rw [degsP_len]; exact Nat.le_refl _)
    rw [List.take_of_length_le (by rw [degsP_len]; exact Nat.le_refl _)] at h2
    rw [h1, h2]
    apply pm_congr
    intro k hk
    have hg := F.gle ht k
    have hp := F.pos t ht k
    obtain ⟨j, hj⟩ := Int.eq_ofNat_of_zero_le hp
    have hjD : j ≤ gx xs k := by omega
    have hch := ch_ne hjD
    have hb : ((((box.getD k s00).1.den : Rat)) * ((box.getD k s00).2.den : Rat)) ^ j ≠ 0 := rpow_ne (fun z => by
      rcases Rat.mul_eq_zero.mp z with e | e
      · exact den_ne _ e
      · exact den_ne _ e) j
    rw [hj, Int.toNat_natCast, degsP_get hk, pts_get hl hk, ptS_val (sh_pos so (by omega)).2.2.1]
    show sm (gx xs k + 1) _ = _
    refine r_mul_cancel hch ?_
    rw [← sm_mulr]
    have b := bern (sg sh k) (box.getD k s00).2 (box.getD k s00).1 (D := gx xs k) (j := j)
    have b2 : ((1 - sg sh k) * (box.getD k s00).1 + sg sh k * (box.getD k s00).2) ^ j * (ch (gx xs k) j : Rat) = sm (gx xs k + 1) (fun i => (ch (gx xs k) i : Rat) * (sg sh k ^ i * (1 - sg sh k) ^ (gx xs k - i) * Ap (box.getD k s00).2 (box.getD k s00).1 i (gx xs k - i) j)) := by rw [b]; grind
    show _ = ((1 - sg sh k) * (box.getD k s00).1 + sg sh k * (box.getD k s00).2) ^ j * (ch (gx xs k) j : Rat)
    rw [b2]
    apply sm_congr
    intro i _
    rw [Int.toNat_natCast, polN_val, polD_val]
    generalize ((((box.getD k s00).1.den : Rat)) * ((box.getD k s00).2.den : Rat)) ^ j = z at *
    generalize Ap (box.getD k s00).2 (box.getD k s00).1 i (gx xs k - i) j = y at *
    have hz : z * (ch (gx xs k) j : Rat) ≠ 0 := fun e => by
      rcases Rat.mul_eq_zero.mp e with e | e
      · exact hb e
      · exact hch e
    have e5 : z * y / (z * (ch (gx xs k) j : Rat)) * (ch (gx xs k) j : Rat) = y := by
      have : z * y / (z * (ch (gx xs k) j : Rat)) * (z * (ch (gx xs k) j : Rat)) = z * y := Rat.div_mul_cancel hz
      refine r_mul_cancel hb ?_
      generalize z * y / (z * (ch (gx xs k) j : Rat)) = q at *
      grind
    generalize z * y / (z * (ch (gx xs k) j : Rat)) = q at *
    rw [← e5]
    grind
  rw [pg_congr (g := fun p => pm box.length (fun k => plc (ptsS box sh) k ^ (gd p k).toNat)) e2]
  grind
/-! ### the worth -/
theorem huW_val {pt : List Rat} {p : List Int} {c : Int} : ∀ n, (huW pt p c n).2 ≠ 0 ∧ ((huW pt p c n).1 : Rat) / ((huW pt p c n).2 : Rat) = (c : Rat) * pm n (fun k => plc pt k ^ (gd p k).toNat)
  | 0 => ⟨by show (1 : Int) ≠ 0; decide, by show (c : Rat) / ((1 : Int) : Rat) = (c : Rat) * 1; rw [Rat.intCast_one]; grind⟩
  | n + 1 => by
    obtain ⟨a1, a2⟩ := huW_val (pt := pt) (p := p) (c := c) n
    have e : huW pt p c (n + 1) = ((huW pt p c n).1 * (plc pt n).num ^ (gd p n).toNat, (huW pt p c n).2 * ((plc pt n).den : Int) ^ (gd p n).toNat) := by unfold huW; rw [range_foldl]
    have dp : (0 : Int) < ((plc pt n).den : Int) := by have := (plc pt n).den_pos; omega
    have dw := Int.pow_pos (m := (gd p n).toNat) dp
    have dn : (((plc pt n).den : Int) : Rat) ≠ 0 := int_ne (by omega)
    rw [e]
    refine ⟨Int.mul_ne_zero a1 (by omega), ?_⟩
    show (((huW pt p c n).1 * (plc pt n).num ^ (gd p n).toNat : Int) : Rat) / (((huW pt p c n).2 * ((plc pt n).den : Int) ^ (gd p n).toNat : Int) : Rat) = (c : Rat) * (pm n _ * _)
    rw [Rat.intCast_mul, Rat.intCast_mul, Rat.intCast_pow, Rat.intCast_pow, frac_mul (int_ne a1) (rpow_ne dn _), a2]
    have f1 : ((plc pt n).num : Rat) = plc pt n * (((plc pt n).den : Int) : Rat) := num_den _
    rw [f1, rmul_pow]
    have hne := rpow_ne dn (gd p n).toNat
    have e5 : plc pt n ^ (gd p n).toNat * (((plc pt n).den : Int) : Rat) ^ (gd p n).toNat / (((plc pt n).den : Int) : Rat) ^ (gd p n).toNat = plc pt n ^ (gd p n).toNat := by
      refine r_mul_cancel hne ?_
      rw [Rat.div_mul_cancel hne]
    rw [e5]
    grind
theorem lawWorth_val (xs : Tms) (pt : List Rat) : lawWorth xs pt = valP xs 4 pt := by
  unfold lawWorth
  rw [Rat.divInt_eq_div]
  have h := (tbL_val (f := fun t => huW pt t.1 t.2 4) (R := fun p => pm 4 (fun k => plc pt k ^ (gd p k).toNat)) (xs := xs) (0, 1) (by decide) fun t ht => huW_val 4).2
  rw [show (((0, 1) : Int × Int).1 : Rat) / (((0, 1) : Int × Int).2 : Rat) = 0 from by show ((0 : Int) : Rat) / ((1 : Int) : Rat) = 0; rw [Rat.intCast_zero]; grind] at h
  show ((tbL _ xs).1 : Rat) / ((tbL _ xs).2 : Rat) = _
  unfold tbL
  rw [h]
  unfold valP
  grind
theorem Fct.val4 (F : Fct xs box) (pt : List Rat) : valP xs 4 pt = valP xs box.length pt := by
  unfold valP
  apply pg_congr
  intro t ht
  apply pm_ext (by have := F.b3; omega)
  intro l h1 h2
  rw [F.g0 ht h1]
  exact Rat.pow_zero _
theorem termW_val {pt : List Rat} {t : List Int × Int} (h1 : pt.length = 4) (h2 : t.1.length = 4) : termW pt t = (t.2 : Rat) * pm 4 (fun k => plc pt k ^ (gd t.1 k).toNat) := by
  obtain ⟨p, c⟩ := t
  match pt, h1, p, h2 with
  | [a, b, c', d], _, [x, y, z, u], _ =>
    show (c : Rat) * a ^ x.toNat * b ^ y.toNat * c' ^ z.toNat * d ^ u.toNat = (c : Rat) * (1 * a ^ x.toNat * b ^ y.toNat * c' ^ z.toNat * d ^ u.toNat)
    grind
theorem worthP_val {ts : Tms} {pt : List Rat} (h1 : pt.length = 4) (h2 : ∀ e ∈ ts, e.1.length = 4) : worthP ts pt = valP ts 4 pt := by
  have : ∀ (ts : Tms) (acc : Rat), (∀ e ∈ ts, e.1.length = 4) → ts.foldl (fun acc t => acc + termW pt t) acc = acc + valP ts 4 pt := by
    intro ts
    induction ts with
    | nil => intro acc _; show acc = acc + 0; grind
    | cons t ts ih =>
      intro acc h
      rw [List.foldl_cons, ih _ fun e he => h e (List.mem_cons_of_mem _ he), termW_val h1 (h t List.mem_cons_self)]
      show _ = acc + (_ + valP ts 4 pt)
      grind
  unfold worthP
  rw [this ts 0 h2]
  grind
theorem plc_pad {pt : List Rat} {n : Nat} (k : Nat) : plc (pt ++ List.replicate n 0) k = plc pt k := by
  unfold plc
  rw [List.getD_eq_getElem?_getD, List.getD_eq_getElem?_getD]
  by_cases h : k < pt.length
  · rw [List.getElem?_append_left h]
  · rw [List.getElem?_append_right (by omega), List.getElem?_eq_none (i := k) (l := pt) (by omega), List.getElem?_replicate]
    split <;> rfl
theorem Fct.worv (F : Fct xs box) (hl : sh.length = box.length) : worthP (polyOf xs) (ptsS box sh ++ List.replicate (4 - box.length) 0) = valP xs 4 (ptsS box sh) := by
  rw [worthP_val (by rw [List.length_append, pts_len hl, List.length_replicate]; have := F.b3; omega) (polyOf_kys F.kys).2]
  unfold valP
  rw [pg_polyOf]
  apply pg_congr
  intro t _
  apply pm_congr
  intro k _
  rw [plc_pad]
end
end Bx

set_option Elab.async false
set_option linter.all false
set_option maxRecDepth 100000
set_option maxHeartbeats 2000000
namespace Bx
/-! ### the last bounds -/
def IsI (q : Rat) : Prop := ∃ z : Int, q = (z : Rat)
theorem IsI.mul {a b : Rat} (h1 : IsI a) (h2 : IsI b) : IsI (a * b) := by
  obtain ⟨x, rfl⟩ := h1
  obtain ⟨y, rfl⟩ := h2
  exact ⟨x * y, by rw [Rat.intCast_mul]⟩
theorem IsI.add {a b : Rat} (h1 : IsI a) (h2 : IsI b) : IsI (a + b) := by
  obtain ⟨x, rfl⟩ := h1
  obtain ⟨y, rfl⟩ := h2
  exact ⟨x + y, by rw [Rat.intCast_add]⟩
theorem den_of {q : Rat} {m : Int} (hm : m ≠ 0) (h : IsI (q * (m : Rat))) : q.den ≤ m.natAbs := by
  obtain ⟨z, hz⟩ := h
  have e : q = Rat.divInt z m := by
    rw [Rat.divInt_eq_div, ← hz]
    have := int_ne hm
    grind
  rw [e]
  exact den_le z m hm
def byP (dg : List Nat) (sh : List (Int × Int)) : Nat → Int
  | 0 => 1
  | n + 1 => byP dg sh n * (sh.getD n (0, 1)).2 ^ (dg.getD n 0)
theorem huM_den (dg : List Nat) (sh : List (Int × Int)) (ix : List Int) (q : Rat) : ∀ n, (huM dg sh ix q n).2 = (q.den : Int) * byP dg sh n
  | 0 => by show (q.den : Int) = _ * 1; rw [Int.mul_one]
  | n + 1 => by
    have ih := huM_den dg sh ix q n
    have e : huM dg sh ix q (n + 1) = ((huM dg sh ix q n).1 * (ch (dg.getD n 0) (gd ix n).toNat : Int) * (sh.getD n (0, 1)).1 ^ (gd ix n).toNat * ((sh.getD n (0, 1)).2 - (sh.getD n (0, 1)).1) ^ (dg.getD n 0 - (gd ix n).toNat), (huM dg sh ix q n).2 * (sh.getD n (0, 1)).2 ^ (dg.getD n 0)) := by unfold huM; rw [range_foldl]
    rw [e]
    show (huM dg sh ix q n).2 * _ = _ * (byP dg sh n * _)
    rw [ih, Int.mul_assoc]
theorem byP_pos {dg : List Nat} {sh : List (Int × Int)} (hs : ∀ k, k < sh.length → 0 < (sh.getD k (0, 1)).2 ∧ (sh.getD k (0, 1)).2 ≤ 10) : ∀ n, n ≤ sh.length → 0 < byP dg sh n ∧ (byP dg sh n).natAbs ≤ 2 ^ (4 * ((List.range n).map fun k => dg.getD k 0).sum)
  | 0, _ => ⟨by show (0 : Int) < 1; decide, by show (1 : Int).natAbs ≤ _; exact Nat.one_le_two_pow⟩
  | n + 1, hn => by
    obtain ⟨a1, a2⟩ := byP_pos (dg := dg) hs n (by omega)
    obtain ⟨b1, b2⟩ := hs n (by omega)
    refine ⟨Int.mul_pos a1 (Int.pow_pos b1), ?_⟩
    show (byP dg sh n * (sh.getD n (0, 1)).2 ^ (dg.getD n 0)).natAbs ≤ _
    rw [Int.natAbs_mul, Int.natAbs_pow]
    have h1 : (sh.getD n (0, 1)).2.natAbs ≤ 2 ^ 4 := by have : (2 : Nat) ^ 4 = 16 := rfl; omega
    have h2 := Nat.pow_le_pow_left h1 (dg.getD n 0)
    rw [← Nat.pow_mul] at h2
    have h3 := Nat.mul_le_mul a2 h2
    rw [← Nat.pow_add] at h3
    refine Nat.le_trans h3 (pow_t _ _ ?_)
    rw [List.range_succ, List.map_append, List.sum_append]
    simp
    omega
theorem byP_int {dg : List Nat} {sh : List (Int × Int)} {ix : List Int} (hs : ∀ k, k < sh.length → 0 < (sh.getD k (0, 1)).2) (hix : ∀ k, k < sh.length → (gd ix k).toNat ≤ dg.getD k 0) : ∀ n, n ≤ sh.length → IsI (pm n (fun k => (ch (dg.getD k 0) (gd ix k).toNat : Rat) * (sg sh k ^ (gd ix k).toNat * (1 - sg sh k) ^ (dg.getD k 0 - (gd ix k).toNat))) * (byP dg sh n : Rat))
  | 0, _ => ⟨1, by show (1 : Rat) * ((1 : Int) : Rat) = ((1 : Int) : Rat); rw [Rat.intCast_one]; grind⟩
  | n + 1, hn => by
    have ih := byP_int hs hix n (by omega)
    have hp := hs n (by omega)
    have hi := hix n (by omega)
    have bn : ((sh.getD n (0, 1)).2 : Rat) ≠ 0 := int_ne (by omega)
    have f1 : ((sh.getD n (0, 1)).1 : Rat) = sg sh n * ((sh.getD n (0, 1)).2 : Rat) := by unfold sg; grind
    have f2 : ((sh.getD n (0, 1)).2 : Rat) - ((sh.getD n (0, 1)).1 : Rat) = (1 - sg sh n) * ((sh.getD n (0, 1)).2 : Rat) := by rw [f1]; grind
    have f3 : ((sh.getD n (0, 1)).2 : Rat) ^ (dg.getD n 0) = ((sh.getD n (0, 1)).2 : Rat) ^ (gd ix n).toNat * ((sh.getD n (0, 1)).2 : Rat) ^ (dg.getD n 0 - (gd ix n).toNat) := by rw [← rpow_add]; congr 1; omega
    have h2 : IsI ((ch (dg.getD n 0) (gd ix n).toNat : Rat) * (sg sh n ^ (gd ix n).toNat * (1 - sg sh n) ^ (dg.getD n 0 - (gd ix n).toNat)) * ((sh.getD n (0, 1)).2 : Rat) ^ (dg.getD n 0)) := by
      refine ⟨(ch (dg.getD n 0) (gd ix n).toNat : Int) * ((sh.getD n (0, 1)).1 ^ (gd ix n).toNat * ((sh.getD n (0, 1)).2 - (sh.getD n (0, 1)).1) ^ (dg.getD n 0 - (gd ix n).toNat)), ?_⟩
      rw [Rat.intCast_mul, Rat.intCast_mul, Rat.intCast_pow, Rat.intCast_pow, Rat.intCast_sub, f2, f1, rmul_pow, rmul_pow, f3]
      show _ = (ch (dg.getD n 0) (gd ix n).toNat : Rat) * _
      grind
    have h3 := ih.mul h2
    have e : pm (n + 1) (fun k => (ch (dg.getD k 0) (gd ix k).toNat : Rat) * (sg sh k ^ (gd ix k).toNat * (1 - sg sh k) ^ (dg.getD k 0 - (gd ix k).toNat))) * (byP dg sh (n + 1) : Rat) = pm n (fun k => (ch (dg.getD k 0) (gd ix k).toNat : Rat) * (sg sh k ^ (gd ix k).toNat * (1 - sg sh k) ^ (dg.getD k 0 - (gd ix k).toNat))) * (byP dg sh n : Rat) * ((ch (dg.getD n 0) (gd ix n).toNat : Rat) * (sg sh n ^ (gd ix n).toNat * (1 - sg sh n) ^ (dg.getD n 0 - (gd ix n).toNat)) * ((sh.getD n (0, 1)).2 : Rat) ^ (dg.getD n 0)) := by
      show pm n _ * _ * ((byP dg sh n * (sh.getD n (0, 1)).2 ^ (dg.getD n 0) : Int) : Rat) = _
      rw [Rat.intCast_mul, Rat.intCast_pow]
      grind
    rw [e]
    exact h3
theorem ls_int {α : Type} (f : α → Rat) (m : Rat) : ∀ l : List α, (∀ x ∈ l, IsI (f x * m)) → IsI (ls f l * m)
  | [], _ => ⟨0, by show (0 : Rat) * m = _; rw [Rat.intCast_zero]; grind⟩
  | x :: l, h => by
    have h1 := (h x List.mem_cons_self).add (ls_int f m l fun y hy => h y (List.mem_cons_of_mem _ hy))
    have e : ls f (x :: l) * m = f x * m + ls f l * m := by show (f x + ls f l) * m = _; grind
    rw [e]; exact h1
section
variable {xs : Tms} {box : List Stretch} {sh : List (Int × Int)}
theorem Fct.cnt_int (F : Fct xs box) {ix : List Int} (hix : ix ∈ idxs (degsP xs box.length)) : IsI (lawCnt xs box ix * (facS box (gx xs) box.length : Rat)) := by
  have hl : ix.length = box.length := by rw [idxs_length hix, degsP_len]
  have S := F.stp box.length (Nat.le_refl _)
  have b3 := F.b3
  have hq4 : (ix ++ noP.drop ix.length).length = 4 := by rw [List.length_append, List.length_drop]; show ix.length + (4 - ix.length) = 4; omega
  have hgd : ∀ l, l < box.length → gd (ix ++ noP.drop ix.length) l = gd ix l := fun l h => by rw [gd_app, if_pos (by omega)]
  have c := F.coef (q := ix ++ noP.drop ix.length) (fun l h => by rw [hgd l h]; exact F.ixle hix h) (fun l h1 h2 => by rw [gd_app, if_neg (by omega), gd_drop])
  rw [pg_coef S.kys hq4] at c
  refine ⟨(lkT (wSt box (polyOf xs) box.length).1 (ix ++ noP.drop ix.length)).getD 0, ?_⟩
  · rw [F.law, Rat.mul_comm]
    have e : pg (fun p => pm box.length (Rf box (gx xs) ix p)) xs = pg (fun p => pm box.length (Rf box (gx xs) (ix ++ noP.drop ix.length) p)) xs := pg_congr fun t _ => pm_congr fun l h => by
      unfold Rf
      rw [hgd l h]
    rw [e]
    exact c.symm
theorem Fct.lawT (F : Fct xs box) {ix : List Int} (hix : ix ∈ idxs (degsP xs box.length)) : (lawT xs box ix).1.natAbs < 2 ^ 222000 ∧ 0 < (lawT xs box ix).2 ∧ (lawT xs box ix).2.natAbs < 2 ^ 9000 := by
  have L := F.lc
  have huA : ∀ t ∈ xs, (huL box (degsP xs box.length) ix t.1 t.2 box.length).1.natAbs < 2 ^ (100 + 40400 * box.length) ∧ 0 < (huL box (degsP xs box.length) ix t.1 t.2 box.length).2 ∧ (huL box (degsP xs box.length) ix t.1 t.2 box.length).2.natAbs = pr ((List.range box.length).map fun k => (polD (box.getD k s00) ((degsP xs box.length).getD k 0) (gd t.1 k).toNat).natAbs) := fun t ht => by
    have h := huL_abs (ix := ix) (p := t.1) (L.cs t ht) L.bq (dg := degsP xs box.length) (fun k hk => by
      rw [degsP_get hk]
      have h1 := F.ixle hix hk
      have h2 := F.pos t ht k
      have h3 := F.gle ht k
      have h4 := F.h60 k
      have h5 : (degI xs k).toNat = gx xs k := rfl
      exact ⟨by omega, by omega, by omega⟩) box.length (Nat.le_refl _)
    exact ⟨h.1, h.2.1, h.2.2.1⟩
  have hund : pr (xs.map fun t => (huL box (degsP xs box.length) ix t.1 t.2 box.length).2.natAbs) < 2 ^ 9000 := by
    have : (xs.map fun t => (huL box (degsP xs box.length) ix t.1 t.2 box.length).2.natAbs) = xs.map (undL xs box) := by
      apply List.map_congr_left
      intro t ht
      exact (huA t ht).2.2
    rw [this]; exact L.und
  have b3 := F.b3
  have tb := tb_ok (f := fun t => huL box (degsP xs box.length) ix t.1 t.2 box.length) L.len (fun t ht => Nat.lt_of_lt_of_le (huA t ht).1 (pow_t _ _ (by omega))) (fun t ht => (huA t ht).2.1) hund xs.length (Nat.le_refl _)
  rw [List.take_of_length_le (Nat.le_refl _)] at tb
  exact ⟨Nat.lt_of_lt_of_le tb.1 (pow_t _ _ (by have := F.len; omega)), tb.2.1, tb.2.2.2⟩
theorem Fct.mc (F : Fct xs box) (so : ShOk sh) (hl : sh.length = box.length) : McOk (lawCounts xs box) (degsP xs box.length) sh := by
  have b3 := F.b3
  have nd := idxs_nodup (degsP xs box.length)
  have hcs : lawCounts xs box = (idxs (degsP xs box.length)).map fun ix => (ix, lawCnt xs box ix) := tabR_eq _ nd
  have hmem : ∀ e ∈ lawCounts xs box, e.1 ∈ idxs (degsP xs box.length) ∧ e.2 = lawCnt xs box e.1 := fun e he => by
    rw [hcs] at he
    obtain ⟨ix, hix, rfl⟩ := List.mem_map.mp he
    exact ⟨hix, rfl⟩
  have hpos : ∀ k, k < sh.length → 0 < (sh.getD k (0, 1)).2 ∧ (sh.getD k (0, 1)).2 ≤ 10 := fun k hk => (sh_pos so hk).2.2
  have hixk : ∀ e ∈ lawCounts xs box, ∀ k, k < box.length → (gd e.1 k).toNat ≤ (degsP xs box.length).getD k 0 := fun e he k hk => by
    have h1 := F.ixle (hmem e he).1 hk
    rw [degsP_get hk]
    have h5 : (degI xs k).toNat = gx xs k := rfl
    omega
  obtain ⟨f1, f2⟩ := F.fac (Nat.le_refl box.length)
  obtain ⟨y1, y2⟩ := byP_pos (dg := degsP xs box.length) hpos box.length (by omega)
  have y3 : (byP (degsP xs box.length) sh box.length).natAbs ≤ 2 ^ 240 := by
    refine Nat.le_trans y2 (pow_t _ _ ?_)
    have h1 := sum_range (fun k => (degsP xs box.length).getD k 0) (i := box.length) b3
    have h2 : ∀ k, (degsP xs box.length).getD k 0 ≤ gx xs k := fun k => by
      by_cases hk : k < box.length
      · rw [degsP_get hk]; exact Nat.le_refl _
      · rw [List.getD_eq_getElem?_getD, List.getElem?_eq_none (by rw [degsP_len]; omega)]; exact Nat.zero_le _
    have h3 := h2 0
    have h4 := h2 1
    have h5 := h2 2
    have h6 := F.s60
    omega
  have hM : facS box (gx xs) box.length * byP (degsP xs box.length) sh box.length ≠ 0 := Int.mul_ne_zero (by omega) (by omega)
  have hMb : (facS box (gx xs) box.length * byP (degsP xs box.length) sh box.length).natAbs ≤ 2 ^ 3060 := by
    rw [Int.natAbs_mul]
    have := Nat.mul_le_mul f2 y3
    rw [← Nat.pow_add] at this
    exact this
  refine ⟨tabR_nodup _ _, ?_, by rw [degsP_len]; exact b3, by rw [degsP_len]; exact hl, fun e he => by rw [idxs_length (hmem e he).1], fun e he k hk => idxs_gd (hmem e he).1 hk, fun k => ?_, so, fun e he => ?_, fun n e hn => ?_⟩
  · rw [hcs, List.length_map, idxs_len]; exact idx_prod F
  · by_cases hk : k < box.length
    · rw [degsP_get hk]; have := F.h60 k; have h5 : (degI xs k).toNat = gx xs k := rfl; omega
    · rw [List.getD_eq_getElem?_getD, List.getElem?_eq_none (by rw [degsP_len]; omega)]; exact Nat.zero_le _
  · obtain ⟨m1, m2⟩ := hmem e he
    obtain ⟨t1, t2, t3⟩ := F.lawT m1
    rw [m2]
    unfold lawCnt
    exact bq_divInt (Nat.lt_of_lt_of_le t1 (pow_t _ _ (by decide))) (Nat.lt_of_lt_of_le t3 (pow_t _ _ (by decide))) (by omega)
  · have he := List.mem_of_getElem? hn
    have hv : IsI (mixA (degsP xs box.length) sh ((lawCounts xs box).take n) * ((facS box (gx xs) box.length * byP (degsP xs box.length) sh box.length : Int) : Rat)) := by
      unfold mixA
      rw [mixA_val (fun k hk => (hpos k (by rw [degsP_len] at hk; omega)).1) 0 (fun e he k hk => hixk e (List.mem_of_mem_take he) k (by rw [degsP_len] at hk; exact hk))]
      have e0 : ∀ a b : Rat, (0 + a) * b = a * b := fun a b => by grind
      rw [e0]
      refine ls_int _ _ _ fun e he => ?_
      have he := List.mem_of_mem_take he
      obtain ⟨m1, m2⟩ := hmem e he
      have c1 := F.cnt_int m1
      have c2 := byP_int (dg := degsP xs box.length) (sh := sh) (ix := e.1) (fun k hk => (hpos k hk).1) (fun k hk => hixk e he k (by omega)) box.length (by omega)
      have c3 := c1.mul c2
      rw [Rat.intCast_mul, m2, degsP_len]
      have e9 : ∀ a b c d : Rat, a * b * (c * d) = a * c * (b * d) := fun a b c d => by grind
      rw [e9]
      exact c3
    have d1 := den_of hM hv
    have d2 : (huM (degsP xs box.length) sh e.1 e.2 (degsP xs box.length).length).2.natAbs ≤ (facS box (gx xs) box.length * byP (degsP xs box.length) sh box.length).natAbs := by
      rw [huM_den, degsP_len, Int.natAbs_mul, Int.natAbs_mul, Int.natAbs_natCast]
      refine Nat.mul_le_mul_right _ ?_
      obtain ⟨m1, m2⟩ := hmem e he
      have := F.cnt_int m1
      rw [← m2] at this
      exact den_of (by omega) this
    rw [Int.natAbs_natCast]
    have d3 := Nat.mul_le_mul (Nat.le_trans d1 hMb) (Nat.le_trans d2 hMb)
    rw [← Nat.pow_add] at d3
    exact Nat.lt_of_le_of_lt d3 (Nat.pow_lt_pow_right (by decide) (by decide))
/-! ### the places -/
theorem ptS_bq {s : Stretch} (h : StrOk s) {x : Int × Int} (hx : 0 ≤ x.1 ∧ x.1 ≤ x.2 ∧ 0 < x.2 ∧ x.2 ≤ 10) : Bq 100 (ptS s x) ∧ (ptS s x).den ≤ 2 ^ 44 := by
  obtain ⟨q1, q2, d1, d2⟩ := h.bq
  have t4 : (2 : Nat) ^ 4 = 16 := rfl
  have w1 : (x.2 - x.1).natAbs < 2 ^ 4 := by omega
  have w2 : x.1.natAbs < 2 ^ 4 := by omega
  have w3 : x.2.natAbs < 2 ^ 4 := by omega
  have hn := sum2 (L2.wide_lt (L2.wide_lt q1.1 (den_abs q2)) w1) (L2.wide_lt (L2.wide_lt q2.1 (den_abs q1)) w2)
  have hd := L2.wide_lt (L2.wide_lt (den_abs q1) (den_abs q2)) w3
  have ne : (s.1.den : Int) * (s.2.den : Int) * x.2 ≠ 0 := by
    have h1 := s.1.den_pos
    have h2 := s.2.den_pos
    exact Int.mul_ne_zero (Int.mul_ne_zero (by omega) (by omega)) (by omega)
  unfold ptS
  refine ⟨bq_divInt (Nat.lt_of_lt_of_le hn (pow_t _ _ (by decide))) (Nat.lt_of_lt_of_le hd (pow_t _ _ (by decide))) ne, Nat.le_trans (den_le _ _ ne) ?_⟩
  rw [Int.natAbs_mul, Int.natAbs_mul, Int.natAbs_natCast, Int.natAbs_natCast]
  have h1 := Nat.mul_le_mul (Nat.mul_le_mul d1 d2) (show x.2.natAbs ≤ 10 by omega)
  have t5 : (2 : Nat) ^ 44 = 17592186044416 := rfl
  omega
theorem Fct.pts (F : Fct xs box) (so : ShOk sh) (hl : sh.length = box.length) : ∀ y ∈ ptsS box sh, Bq 100 y ∧ y.den ≤ 2 ^ 44 := fun y hy => by
  unfold ptsS at hy
  obtain ⟨⟨s, x⟩, hz, rfl⟩ := List.mem_map.mp hy
  have := List.of_mem_zip hz
  exact ptS_bq (F.st s this.1) (so x this.2)
theorem Fct.plcd (F : Fct xs box) (so : ShOk sh) (hl : sh.length = box.length) (k : Nat) : (plc (ptsS box sh) k).den ≤ 2 ^ 44 := by
  unfold plc
  rw [List.getD_eq_getElem?_getD]
  cases e : (ptsS box sh)[k]? with
  | none => show (0 : Rat).den ≤ _; exact Nat.one_le_two_pow
  | some y => exact (F.pts so hl y (List.mem_of_getElem? e)).2
theorem huW_den (pt : List Rat) (p : List Int) (c : Int) (hd : ∀ k, (plc pt k).den ≤ 2 ^ 44) : ∀ n, (huW pt p c n).2.natAbs ≤ 2 ^ (44 * ((List.range n).map fun k => (gd p k).toNat).sum)
  | 0 => by show (1 : Int).natAbs ≤ _; exact Nat.one_le_two_pow
  | n + 1 => by
    have ih := huW_den pt p c hd n
    have e : huW pt p c (n + 1) = ((huW pt p c n).1 * (plc pt n).num ^ (gd p n).toNat, (huW pt p c n).2 * ((plc pt n).den : Int) ^ (gd p n).toNat) := by unfold huW; rw [range_foldl]
    rw [e]
    show ((huW pt p c n).2 * ((plc pt n).den : Int) ^ (gd p n).toNat).natAbs ≤ _
    rw [Int.natAbs_mul, Int.natAbs_pow, Int.natAbs_natCast]
    have h2 := Nat.pow_le_pow_left (hd n) (gd p n).toNat
    rw [← Nat.pow_mul] at h2
    have h3 := Nat.mul_le_mul ih h2
    rw [← Nat.pow_add] at h3
    refine Nat.le_trans h3 (pow_t _ _ ?_)
    rw [List.range_succ, List.map_append, List.sum_append]
    simp
    omega
theorem Fct.psum (F : Fct xs box) {t : List Int × Int} (ht : t ∈ xs) : (gd t.1 0).toNat + (gd t.1 1).toNat + (gd t.1 2).toNat + (gd t.1 3).toNat ≤ gx xs 0 + gx xs 1 + gx xs 2 := by
  have a0 := F.gle ht 0
  have a1 := F.gle ht 1
  have a2 := F.gle ht 2
  have a3 := F.gle ht 3
  have := F.g3
  omega
theorem Fct.prb (F : Fct xs box) {ts : Tms} (hts : ts.length ≤ xs.length) (f : List Int × Int → Nat) (h : ∀ t ∈ ts, f t ≤ 2 ^ (44 * (gx xs 0 + gx xs 1 + gx xs 2))) : pr (ts.map f) < 2 ^ 9000 := by
  have h2 := pr_const _ ts f h
  refine Nat.lt_of_le_of_lt h2 (Nat.pow_lt_pow_right (by decide) ?_)
  have h3 := F.s180
  have h4 : (gx xs 0 + gx xs 1 + gx xs 2) * ts.length ≤ (gx xs 0 + gx xs 1 + gx xs 2) * xs.length := Nat.mul_le_mul_left _ hts
  rw [Nat.mul_comm] at h3
  have : 44 * (gx xs 0 + gx xs 1 + gx xs 2) * ts.length = 44 * ((gx xs 0 + gx xs 1 + gx xs 2) * ts.length) := Nat.mul_assoc _ _ _
  omega
theorem Fct.lw (F : Fct xs box) (so : ShOk sh) (hl : sh.length = box.length) : LwOk xs (ptsS box sh) := by
  have L := F.lc
  refine ⟨F.kys, L.len, L.cs, fun e he k => ⟨F.pos e he k, by have := F.gle he k; have := F.h60 k; omega⟩, fun y hy => (F.pts so hl y hy).1, by rw [pts_len hl]; have := F.b3; omega, ?_⟩
  refine F.prb (Nat.le_refl _) _ fun t ht => ?_
  refine Nat.le_trans (huW_den _ _ _ (F.plcd so hl) 4) (pow_t _ _ (Nat.mul_le_mul_left _ ?_))
  have := F.psum ht
  show (gd t.1 0).toNat + ((gd t.1 1).toNat + ((gd t.1 2).toNat + ((gd t.1 3).toNat + 0))) ≤ _
  omega
theorem Fct.wo (F : Fct xs box) (so : ShOk sh) (hl : sh.length = box.length) : WOk (polyOf xs) (ptsS box sh ++ List.replicate (4 - box.length) 0) := by
  have L := F.lc
  have b3 := F.b3
  have lp := pts_len hl
  have l4 : (ptsS box sh ++ List.replicate (4 - box.length) 0).length = 4 := by rw [List.length_append, lp, List.length_replicate]; omega
  have hy : ∀ y ∈ ptsS box sh ++ List.replicate (4 - box.length) (0 : Rat), Bq 100 y ∧ y.den ≤ 2 ^ 44 := fun y hy => by
    rcases List.mem_append.mp hy with h | h
    · exact F.pts so hl y h
    · have := List.eq_of_mem_replicate h
      subst this
      exact ⟨⟨by show (0 : Rat).num.natAbs < _; exact Nat.two_pow_pos _, by show (0 : Rat).den < _; exact Nat.one_lt_two_pow (by decide)⟩, by show (0 : Rat).den ≤ _; exact Nat.one_le_two_pow⟩
  refine ⟨l4, polyOf_kys F.kys, by have := len_polyOf xs; have := F.len; omega, fun y h => (hy y h).1, fun e he => L.cs e ((mem_poly F).mp he), fun e he p hp => (F.good.2.2 e he).2.2 p hp, ?_⟩
  refine F.prb (len_polyOf xs) _ fun t ht => ?_
  have hx := (mem_poly F).mp ht
  have h4 : t.1.length = 4 := F.kys.2 t hx
  have hs := F.psum hx
  refine Nat.le_trans ?_ (pow_t (44 * ((gd t.1 0).toNat + (gd t.1 1).toNat + (gd t.1 2).toNat + (gd t.1 3).toNat)) _ (Nat.mul_le_mul_left _ hs))
  obtain ⟨p, c⟩ := t
  generalize ptsS box sh ++ List.replicate (4 - box.length) 0 = pt at l4 hy
  match pt, l4, p, h4 with
  | [a, b, c', d], _, [x, y, z, u], _ =>
    show a.den ^ x.toNat * (b.den ^ y.toNat * (c'.den ^ z.toNat * (d.den ^ u.toNat * 1))) ≤ 2 ^ (44 * (x.toNat + y.toNat + z.toNat + u.toNat))
    have k1 := Nat.pow_le_pow_left (hy a (by simp)).2 x.toNat
    have k2 := Nat.pow_le_pow_left (hy b (by simp)).2 y.toNat
    have k3 := Nat.pow_le_pow_left (hy c' (by simp)).2 z.toNat
    have k4 := Nat.pow_le_pow_left (hy d (by simp)).2 u.toNat
    rw [← Nat.pow_mul] at k1 k2 k3 k4
    have k5 := Nat.mul_le_mul k1 (Nat.mul_le_mul k2 (Nat.mul_le_mul k3 k4))
    rw [← Nat.pow_add, ← Nat.pow_add, ← Nat.pow_add] at k5
    rw [Nat.mul_one]
    refine Nat.le_trans k5 (pow_t _ _ (by omega))
end
/-- all that the law's walk asks of plain numbers -/
theorem math : MathOk where
  good := fun C => (facts C).good
  lc := fun C => (facts C).lc
  co := fun C => (facts C).co
  eq := fun C => (facts C).eq
  mc := fun C so hl => (facts C).mc so hl
  lw := fun C so hl => (facts C).lw so hl
  wo := fun C so hl => (facts C).wo so hl
  mix := fun {xs box sh} C so hl => by rw [(facts C).mixv so hl, lawWorth_val, (facts C).val4]
  wor := fun {xs box sh} C so hl => by rw [(facts C).worv hl, lawWorth_val]
end Bx

set_option Elab.async false
set_option linter.all false
set_option maxRecDepth 100000
set_option maxHeartbeats 4000000
namespace Bx
open PySem PySem.Spec PyProof.Rows L2
section
variable {α : Type} {P : Program} {w : World} {K : PySem.W.Frag} {vs : List V} {H : Hp} {Q : VK} {E : XK} {te ta tb tk tv tm tl tn : TE} {σ : L2.St} {D : Ends} {tz tu t1 t2 : TS} {t u : TT} {a c : Addr} {n : Nat}
theorem q_joint (J : L2.St → Hp → Prop) {t : TS} (kj : ∀ σ' H', J σ' H' → tz D σ' H') (h : (∀ σ' H', J σ' H' → tz D σ' H') → t { D with nx := tz D } σ H) : tSeq t tz D σ H := h kj
theorem pl_asgS {g : TG} (h : te σ H fun x H1 => g x σ H1 D.nx) : tAsg te g D σ H := h
theorem pl_ift (h : te σ H fun x H1 => ∃ b, x = .bl b ∧ (if b = true then ta σ H1 Q else tb σ H1 Q)) : tIf (tTest te) ta tb σ H Q := h
theorem pl_ifS (h : t σ H fun b H1 => if b = true then t1 D σ H1 else t2 D σ H1) : tIfS t t1 t2 D σ H := h
theorem pl_and {Q : Bool → Hp → Prop} (h : t σ H fun c H1 => if c = true then u σ H1 Q else Q false H1) : tAnd t u σ H Q := h
theorem pl_test {Q : Bool → Hp → Prop} (h : te σ H fun x H1 => ∃ b, x = .bl b ∧ Q b H1) : tTest te σ H Q := h
theorem pl_call4 {sp : Sp} {i : Nat} {v x y z : V} {tb tc td : TE} (hv : σ[i]? = some (some v)) (h : tb σ H fun x H1 => tc σ H1 fun y H2 => td σ H2 fun z H3 => sp [v, x, y, z] H3 Q E0) : tCall sp [] E0 (tCons (tVar i) (tCons tb (tCons tc (tCons td tNil)))) σ H Q := ⟨v, hv, h⟩
theorem PaOk.nil (many most terms : Nat) : PaOk many most terms [] := ⟨Kys.nil, Nat.zero_le _, (fun _ h => nomatch h), (fun _ h => nomatch h)⟩
theorem p_law (M : MathOk) (h : spLaw K vs H Q E) : t_law P w K (spWorthAt K) (spLW P w K) (spMix P w K) (spLow K) spDraw spAny (spLDeg P w K) (spCounts P w K) (spLCnt P w K) (spLPoly P w K) (spBox K) (spPa P w K) (spHand K) (Enr Q)
    (start ["_law_script", "_law_hand_here", "_law_turn", "_law_many", "_law_parts_here", "_law_box_here", "_law_poly_here", "_law_due", "_law_told", "_law_degrees_here", "_law_again", "_law_shares", "_law_point", "_law_k", "_law_a", "_law_b", "_law_c", "_law_d", "_law_by", "_law_s", "_law_sum_there"] vs) H := by
  obtain ⟨p, ns, rfl, hsq, hl, k⟩ := h
  refine pl_asg ?_
  refine ⟨.ref p, rfl, p, ns, rfl, hsq, hl, fun a c H1 e1 hs1 => pl_gn ?_⟩
  refine q_forR (n := 2) ev_i (by decide) fun H2 e2 => ⟨fun i σ' H' => (∃ y2 y3 y4 y5 y6 y7 y8 y9 y10 y11 y12 y13 y14 y15 y16 y17 y18 y19 y20 : Option V, σ' = [some (.ref p), some (.ref a), y2, y3, y4, y5, y6, y7, y8, y9, y10, y11, y12, y13, y14, y15, y16, y17, y18, y19, y20]) ∧ HS (i * 300) H' a c, ?_, ?_, ?_⟩
  · exact ⟨⟨_, _, _, _, _, _, _, _, _, _, _, _, _, _, _, _, _, _, _, rfl⟩, by rw [Nat.zero_mul]; exact hs1.ex e2⟩
  · rintro i σ' H' hi ⟨⟨y2, y3, y4, y5, y6, y7, y8, y9, y10, y11, y12, y13, y14, y15, y16, y17, y18, y19, y20, rfl⟩, hs⟩
    have hi2 : i < 2 := by omega
    -- how many unknowns
    refine pl_asg ?_
    refine any_k (i := 1) (xs := [0, 1, 1, 2, 2, 3]) rfl hs (ev_list (el_cons ev_i (el_cons ev_i (el_cons ev_i (el_cons ev_i (el_cons ev_i (el_cons ev_i el_nil)))))) (by simp)) (by simp) (by simp) (by omega) fun many H3 hm sb3 im3 hs3 => ?_
    have hm : 0 ≤ many ∧ many ≤ 3 := by simp at hm; omega
    obtain ⟨many, rfl⟩ := Int.eq_ofNat_of_zero_le hm.1
    refine pl_gn ?_
    -- the parts
    refine q_joint (fun σ2 H4 => ∃ d es xs, σ2 = [some (.ref p), some (.ref a), some (.int (i : Int)), some (.int (many : Int)), some (.ref d), y5, y6, y7, y8, y9, y10, y11, y12, y13, y14, y15, y16, y17, y18, y19, y20] ∧ HS (i * 300 + 50) H4 a c ∧ H4 d = some (DO P w d es) ∧ EnS K RI H4 es xs ∧ PaOk many 3 5 xs) ?_ fun kj => ?_
    · rintro σ2 H4 ⟨d, es, xs, rfl, hs4, hd, sd, pa⟩
      -- seldom one unknown to a great power
      refine q_joint (fun σ2 H5 => ∃ many : Nat, ∃ d es xs, σ2 = [some (.ref p), some (.ref a), some (.int (i : Int)), some (.int (many : Int)), some (.ref d), y5, y6, y7, y8, y9, y10, y11, y12, y13, y14, y15, y16, y17, y18, y19, y20] ∧ HS (i * 300 + 100) H5 a c ∧ H5 d = some (DO P w d es) ∧ EnS K RI H5 es xs ∧ many ≤ 3 ∧ ∃ most terms : Nat, PaOk many most terms xs ∧ ((many ≤ 3 ∧ most ≤ 3 ∧ terms ≤ 5) ∨ (many ≤ 1 ∧ most ≤ 60 ∧ terms ≤ 3))) ?_ fun kj => ?_
      · rintro σ2 H5 ⟨many, d, es, xs, rfl, hs5, hd, sd, m3, most, terms, pa, hcase⟩
        -- the box
        refine pl_asg (pl_call2 rfl ?_)
        refine any_k (i := 1) (xs := [(many : Int), (many : Int), 3]) rfl hs5 (ev_list (el_cons (ev_vi rfl) (el_cons (ev_vi rfl) (el_cons ev_i el_nil))) (by simp)) (by simp) (by simp) (by omega) fun m H6 hmm sb6 im6 hs6 => ?_
        have hmm : m = (many : Int) ∨ m = 3 := by simp at hmm; exact hmm
        refine ⟨a, c, i * 300 + 100 + 1, m, rfl, hs6, by omega, by omega, by omega, fun v5 bx H7 sb7 im7 hs7 rb hbl hst => pl_gn ?_⟩
        have hda : d ≠ a := by
          obtain ⟨_, _, _, _, _, ha, _⟩ := hs5
          intro z; subst z; rw [hd] at ha; cases ha
        have hd7 : H7 d = some (DO P w d es) := sb7 _ _ hda (sb6 _ _ hda hd)
        have sd7 : EnS K RI H7 es xs := sd.im (im6.trans im7)
        have C : CaseOk xs bx := ⟨⟨many, most, terms, pa, by omega, hcase⟩, by omega, hst⟩
        have xlen : xs.length ≤ 5 := by have := pa.len; omega
        refine q_par (R := RPo K) (R2 := RDX P w K (RQ K)) (x := polyOf xs) (y := lawCounts xs bx) (ev_call1 (R := RD P w K RI) (pre := fun xs => Kys xs ∧ xs.length ≤ 1000000 ∧ Good (polyOf xs)) (f := polyOf) (ev_var rfl ⟨d, es, rfl, .inl hd7, sd7⟩) ⟨pa.kys, by omega, M.good C⟩)
          (ev_call2 (R := RDX P w K RI) (R2 := RT K (RS K)) (pre := LcOk) (f := lawCounts) (ev_var rfl ⟨d, es, rfl, hd7, sd7⟩) (ev_var rfl rb) (M.lc C)) fun v6 v7 H8 e8 r6 r7 => ?_
        obtain ⟨d7, es7, rfl, hd78, s78⟩ := r7
        -- told
        refine pl_asg ?_
        refine ⟨v6, rfl, v5, rfl, v6, v5, polyOf xs, bx, rfl, r6, MonoE.ex e8 rb, M.co C, fun g eg H9 e9 hg0 hg sg => pl_gn ?_⟩
        rw [M.eq C] at sg
        have nd := tabR_nodup (lawCnt xs bx) (idxs (degsP xs bx.length))
        have hd79 := e9 _ _ hd78
        have s79 := s78.im e9.im
        refine q_skip (et_or (a := false) (et_not (a := true) (et_B (ev_xisd (R := RQ K) (xs := lawCounts xs bx) (ev_var (R := RD P w K (RQ K)) rfl ⟨g, eg, rfl, .inl hg, sg⟩)))) fun _ => et_test (ev_xne (xs := lawCounts xs bx) (ev_var (R := RD P w K (RQ K)) rfl ⟨g, eg, rfl, .inl hg, sg⟩) (ev_var (R := RD P w K (RQ K)) rfl ⟨d7, es7, rfl, .inl hd79, s79⟩) nd)) fun H10 e10 => ?_
        -- told.clear()
        refine q_xclear (i := 8) rfl (e10 _ _ hg) ?_
        have im11 : Im H10 (upd H10 g (DO P w g [])) := Im.upd (e10 _ _ hg) rfl
        have sb11 : Sb g H10 (upd H10 g (DO P w g [])) := Sb.upd
        have g7 : d7 ≠ g := fun z => by subst z; rw [hg0] at hd78; cases hd78
        have gd : d ≠ g := fun z => by subst z; rw [e8 _ _ hd7] at hg0; cases hg0
        have hs8 := hs7.ex e8
        have ga : a ≠ g := fun z => by
          obtain ⟨_, _, _, _, _, ha, _⟩ := hs8
          subst z; rw [hg0] at ha; cases ha
        have gc : c ≠ g := fun z => by
          obtain ⟨_, _, _, _, _, _, hc, _⟩ := hs8
          subst z; rw [hg0] at hc; cases hc
        have e810 := e9.trans e10
        have hs11 : HS (i * 300 + 100 + 1 + 15) (upd H10 g (DO P w g [])) a c := (hs8.ex e810).sb sb11 ga gc
        have hd11 : (upd H10 g (DO P w g [])) d = some (DO P w d es) := sb11 _ _ gd (e810 _ _ (e8 _ _ hd7))
        have im711 : Im H7 (upd H10 g (DO P w g [])) := (e8.trans e810).im.trans im11
        have hd711 : (upd H10 g (DO P w g [])) d7 = some (DO P w d7 es7) := sb11 _ _ g7 (e10 _ _ hd79)
        have s711 : EnS K (RQ K) (upd H10 g (DO P w g [])) es7 (lawCounts xs bx) := s79.im (e10.im.trans im11)
        have r611 : RPo K (upd H10 g (DO P w g [])) v6 (polyOf xs) := Mono.im (e810.im.trans im11) r6
        have rb11 : RT K (RS K) (upd H10 g (DO P w g [])) v5 bx := Mono.im im711 rb
        have sd11 : EnS K RI (upd H10 g (DO P w g [])) es xs := sd7.im im711
        generalize upd H10 g (DO P w g []) = H11 at *
        have eco := e_co (i := 6) (j := 5) (P := P) (w := w) (σ := [some (.ref p), some (.ref a), some (.int (i : Int)), some (.int (many : Int)), some (.ref d), some v5, some v6, some (.ref d7), some (.ref g), y9, y10, y11, y12, y13, y14, y15, y16, y17, y18, y19, y20]) rfl rfl r611 rb11 (M.co C)
        rw [M.eq C] at eco
        refine q_skip (et_test (ev_xne (xs := lawCounts xs bx) (EvR.rd eco) (ev_var (R := RD P w K (RQ K)) rfl ⟨d7, es7, rfl, .inl hd711, s711⟩) nd)) fun H12 e12 => ?_
        refine q_set (R := RIs) (x := degsP xs bx.length) (ev_call2 (R := RDX P w K RI) (R2 := RI) (pre := fun xs n => Kys xs ∧ (∀ e ∈ xs, e.2 ≠ 0) ∧ xs.length ≤ 1000 ∧ 0 ≤ n ∧ n ≤ 4) (f := fun xs (n : Int) => degsP xs n.toNat) (y := (bx.length : Int)) (ev_var rfl ⟨d, es, rfl, e12 _ _ hd11, sd11.im e12.im⟩) (ev_lenRT (ev_var (R := RT K (RS K)) (x := bx) rfl (MonoE.ex e12 rb11))) ⟨pa.kys, fun e he => (pa.nz e he).1, by omega, by omega, by have := C.b3; omega⟩) fun v9 H13 e13 r9 => ?_
        have e1213 := e12.trans e13
        refine again_ok M C (N := i * 300 + 100 + 1 + 15) (by omega) (hs11.ex e1213) (e1213 _ _ hd11) (sd11.im e1213.im) (MonoE.ex e1213 rb11) (MonoE.ex e1213 r611) (e1213 _ _ hd711) (s711.im e1213.im) r9 ?_
        rintro σ5 H14 hσ hs14
        exact ⟨hσ, hs14.mono (by rw [Nat.succ_mul]; omega)⟩
      · refine pl_ifS (pl_and ?_)
        refine (et_test (ev_eqI (i := (i : Int)) (j := 0) (ev_vi rfl) ev_i)) H4 (Ex.refl _) _ fun H5 e5 => ?_
        by_cases i0 : (i : Int) = 0
        · rw [decide_eq_true i0]
          refine iteT (pl_test (pl_op ?_))
          refine draw_k (i := 1) (m := 12) rfl (hs4.ex e5) ev_i (by decide) (by decide) (by omega) fun x H6 x0 x1 sb6 im6 hs6 => ⟨rfl, decide (V.int x = V.int 0), rfl, ?_⟩
          have hda : d ≠ a := by
            obtain ⟨_, _, _, _, _, ha, _⟩ := hs4
            intro z; subst z; rw [hd] at ha; cases ha
          by_cases cx : V.int x = V.int 0
          · rw [decide_eq_true cx]
            refine iteT ?_
            -- tPar 3 4 (1, parts)
            show tCall (spPa P w K) [] E0 (tCons (tVar 1) (tCons (tC (.int 1)) (tCons (tCall spAny [] E0 (tCons (tVar 1) (tCons (tLst (tCons (tC (.int 9)) (tCons (tC (.int 12)) (tCons (tC (.int 20)) (tCons (tC (.int 60)) tNil))))) tNil))) (tCons (tC (.int 3)) tNil)))) _ _ _
            refine ⟨.ref a, rfl, ?_⟩
            refine any_k (i := 1) (xs := [9, 12, 20, 60]) rfl hs6 (ev_list (el_cons ev_i (el_cons ev_i (el_cons ev_i (el_cons ev_i el_nil)))) (by simp)) (by simp) (by simp) (by omega) fun y H7 hy sb7 im7 hs7 => ?_
            have hy : 9 ≤ y ∧ y ≤ 60 := by simp at hy; omega
            refine ⟨a, c, i * 300 + 50 + 1 + 1, 1, y, 3, rfl, hs7, by decide, by decide, by omega, by omega, by decide, by decide, by omega, fun d2 es2 xs2 H8 sb8 im8 hs8 hd20 hd2 sd2 pa2 => ?_⟩
            refine ⟨_, _, rfl, kj _ _ ⟨1, d2, es2, xs2, rfl, hs8.mono (by omega), hd2, sd2, by decide, y.toNat, 3, pa2, .inr ⟨by decide, by omega, by decide⟩⟩⟩
          · rw [decide_eq_false cx]
            refine iteF ?_
            exact kj _ _ ⟨many, d, es, xs, rfl, hs6.mono (by omega), sb6 _ _ hda (e5 _ _ hd), sd.im (e5.im.trans im6), by omega, 3, 5, pa, .inl ⟨by omega, by decide, by decide⟩⟩
        · rw [decide_eq_false i0]
          refine iteF ?_
          refine iteF ?_
          exact kj _ _ ⟨many, d, es, xs, rfl, (hs4.ex e5).mono (by omega), e5 _ _ hd, sd.im e5.im, by omega, 3, 5, pa, .inl ⟨by omega, by decide, by decide⟩⟩
    · refine pl_asgS (pl_ift (pl_op ?_))
      refine draw_k (i := 1) (m := 8) rfl hs3 ev_i (by decide) (by decide) (by omega) fun x H4 x0 x1 sb4 im4 hs4 => ⟨x, 0, rfl, rfl, decide (0 < x), rfl, ?_⟩
      by_cases cx : 0 < x
      · rw [decide_eq_true cx]
        refine iteT ?_
        refine ⟨.ref a, rfl, (many : Int) |> V.int, rfl, ?_⟩
        refine ⟨a, c, i * 300 + 1 + 1, (many : Int), 3, 5, rfl, hs4, by omega, by omega, by decide, by decide, by decide, by decide, by omega, fun d es xs H5 sb5 im5 hs5 hd0 hd sd pa => pl_gn ?_⟩
        exact kj _ _ ⟨d, es, xs, rfl, hs5.mono (by omega), hd, sd, pa⟩
      · rw [decide_eq_false cx]
        refine iteF ?_
        intro d hd0
        refine pl_gn ?_
        have ex := Ex.new (o := DO P w d []) hd0
        exact kj _ _ ⟨d, [], [], rfl, (hs4.ex ex).mono (by omega), upd_same, .nil, PaOk.nil _ _ _⟩
  · rintro σ' H' ⟨⟨y2, y3, y4, y5, y6, y7, y8, y9, y10, y11, y12, y13, y14, y15, y16, y17, y18, y19, y20, rfl⟩, hs⟩
    exact s_ret (R := RB) (x := true) (ev_c rfl) fun v H3 e3 r => by cases r; exact k H3
end
end Bx

set_option Elab.async false
set_option linter.all false
set_option maxRecDepth 100000
set_option maxHeartbeats 2000000
namespace Bx
open PySem PySem.Spec PyProof.Rows L2
section
variable {P : Program} {w : World} {K : PySem.W.Frag} {mg : Str → Option Value} {base : Heap}
theorem len_is_integer {vs : List V} {H : Hp} {Q : VK} {E : XK} (h : (spIsInt : Sp) vs H Q E) : vs.length = 1 := by first | (obtain ⟨_, _, rfl, _⟩ := h; rfl) | (obtain ⟨_, _, _, rfl, _⟩ := h; rfl) | (obtain ⟨_, _, _, _, rfl, _⟩ := h; rfl) | (obtain ⟨_, _, _, _, _, rfl, _⟩ := h; rfl) | (obtain ⟨_, _, _, _, _, _, rfl, _⟩ := h; rfl) | (obtain ⟨_, _, _, _, _, _, _, _, rfl, _⟩ := h; rfl)
theorem c_is_integer (T : Tp K mg) : Cal P w K mg base 1 "is_integer" spIsInt := cal_of (i := 0) (j := 0) T rfl rfl sc_is_integer (fun _ _ _ _ _ _ us hl => match us, hl with | [_], _ => rfl) (fun vs H Q E h => len_is_integer h) (fun f cdv A outer s H E hr => w_is_integer T  hr) (fun vs H Q E h => p_is_integer h)
theorem len_is_within {vs : List V} {H : Hp} {Q : VK} {E : XK} (h : (spWithin : Sp) vs H Q E) : vs.length = 3 := by first | (obtain ⟨_, _, rfl, _⟩ := h; rfl) | (obtain ⟨_, _, _, rfl, _⟩ := h; rfl) | (obtain ⟨_, _, _, _, rfl, _⟩ := h; rfl) | (obtain ⟨_, _, _, _, _, rfl, _⟩ := h; rfl) | (obtain ⟨_, _, _, _, _, _, rfl, _⟩ := h; rfl) | (obtain ⟨_, _, _, _, _, _, _, _, rfl, _⟩ := h; rfl)
theorem c_is_within (T : Tp K mg) : Cal P w K mg base 2 "is_within" spWithin := cal_of (i := 1) (j := 1) T rfl rfl sc_is_within (fun _ _ _ _ _ _ us hl => match us, hl with | [_, _, _], _ => rfl) (fun vs H Q E h => len_is_within h) (fun f cdv A outer s H E hr => w_is_within T (c_is_integer T) hr) (fun vs H Q E h => p_is_within h)
theorem len_divisor_of {vs : List V} {H : Hp} {Q : VK} {E : XK} (h : (spGcd : Sp) vs H Q E) : vs.length = 2 := by first | (obtain ⟨_, _, rfl, _⟩ := h; rfl) | (obtain ⟨_, _, _, rfl, _⟩ := h; rfl) | (obtain ⟨_, _, _, _, rfl, _⟩ := h; rfl) | (obtain ⟨_, _, _, _, _, rfl, _⟩ := h; rfl) | (obtain ⟨_, _, _, _, _, _, rfl, _⟩ := h; rfl) | (obtain ⟨_, _, _, _, _, _, _, _, rfl, _⟩ := h; rfl)
theorem c_divisor_of (T : Tp K mg) : Cal P w K mg base 1 "divisor_of" spGcd := cal_of (i := 2) (j := 2) T rfl rfl sc_divisor_of (fun _ _ _ _ _ _ us hl => match us, hl with | [_, _], _ => rfl) (fun vs H Q E h => len_divisor_of h) (fun f cdv A outer s H E hr => w_divisor_of T  hr) (fun vs H Q E h => p_divisor_of h)
theorem len_fraction {vs : List V} {H : Hp} {Q : VK} {E : XK} (h : ((spFrac K) : Sp) vs H Q E) : vs.length = 2 := by first | (obtain ⟨_, _, rfl, _⟩ := h; rfl) | (obtain ⟨_, _, _, rfl, _⟩ := h; rfl) | (obtain ⟨_, _, _, _, rfl, _⟩ := h; rfl) | (obtain ⟨_, _, _, _, _, rfl, _⟩ := h; rfl) | (obtain ⟨_, _, _, _, _, _, rfl, _⟩ := h; rfl) | (obtain ⟨_, _, _, _, _, _, _, _, rfl, _⟩ := h; rfl)
theorem c_fraction (T : Tp K mg) : Cal P w K mg base 2 "fraction" (spFrac K) := cal_of (i := 3) (j := 3) T rfl rfl sc_fraction (fun _ _ _ _ _ _ us hl => match us, hl with | [_, _], _ => rfl) (fun vs H Q E h => len_fraction h) (fun f cdv A outer s H E hr => w_fraction T (c_divisor_of T) hr) (fun vs H Q E h => p_fraction h)
theorem len_is_fraction {vs : List V} {H : Hp} {Q : VK} {E : XK} (h : ((spIsFrac K) : Sp) vs H Q E) : vs.length = 1 := by first | (obtain ⟨_, _, rfl, _⟩ := h; rfl) | (obtain ⟨_, _, _, rfl, _⟩ := h; rfl) | (obtain ⟨_, _, _, _, rfl, _⟩ := h; rfl) | (obtain ⟨_, _, _, _, _, rfl, _⟩ := h; rfl) | (obtain ⟨_, _, _, _, _, _, rfl, _⟩ := h; rfl) | (obtain ⟨_, _, _, _, _, _, _, _, rfl, _⟩ := h; rfl)
theorem c_is_fraction (T : Tp K mg) : Cal P w K mg base 2 "is_fraction" (spIsFrac K) := cal_of (i := 4) (j := 4) T rfl rfl sc_is_fraction (fun _ _ _ _ _ _ us hl => match us, hl with | [_], _ => rfl) (fun vs H Q E h => len_is_fraction h) (fun f cdv A outer s H E hr => w_is_fraction T (c_divisor_of T) (c_is_integer T) hr) (fun vs H Q E h => p_is_fraction h)
theorem len_added {vs : List V} {H : Hp} {Q : VK} {E : XK} (h : ((spAdd K) : Sp) vs H Q E) : vs.length = 2 := by first | (obtain ⟨_, _, rfl, _⟩ := h; rfl) | (obtain ⟨_, _, _, rfl, _⟩ := h; rfl) | (obtain ⟨_, _, _, _, rfl, _⟩ := h; rfl) | (obtain ⟨_, _, _, _, _, rfl, _⟩ := h; rfl) | (obtain ⟨_, _, _, _, _, _, rfl, _⟩ := h; rfl) | (obtain ⟨_, _, _, _, _, _, _, _, rfl, _⟩ := h; rfl)
theorem c_added (T : Tp K mg) : Cal P w K mg base 3 "added" (spAdd K) := cal_of (i := 5) (j := 5) T rfl rfl sc_added (fun _ _ _ _ _ _ us hl => match us, hl with | [_, _], _ => rfl) (fun vs H Q E h => len_added h) (fun f cdv A outer s H E hr => w_added T (c_fraction T) hr) (fun vs H Q E h => p_added h)
theorem len_multiplied {vs : List V} {H : Hp} {Q : VK} {E : XK} (h : ((spMul K) : Sp) vs H Q E) : vs.length = 2 := by first | (obtain ⟨_, _, rfl, _⟩ := h; rfl) | (obtain ⟨_, _, _, rfl, _⟩ := h; rfl) | (obtain ⟨_, _, _, _, rfl, _⟩ := h; rfl) | (obtain ⟨_, _, _, _, _, rfl, _⟩ := h; rfl) | (obtain ⟨_, _, _, _, _, _, rfl, _⟩ := h; rfl) | (obtain ⟨_, _, _, _, _, _, _, _, rfl, _⟩ := h; rfl)
theorem c_multiplied (T : Tp K mg) : Cal P w K mg base 3 "multiplied" (spMul K) := cal_of (i := 6) (j := 6) T rfl rfl sc_multiplied (fun _ _ _ _ _ _ us hl => match us, hl with | [_, _], _ => rfl) (fun vs H Q E h => len_multiplied h) (fun f cdv A outer s H E hr => w_multiplied T (c_fraction T) hr) (fun vs H Q E h => p_multiplied h)
theorem len_is_below {vs : List V} {H : Hp} {Q : VK} {E : XK} (h : ((spBelow K) : Sp) vs H Q E) : vs.length = 2 := by first | (obtain ⟨_, _, rfl, _⟩ := h; rfl) | (obtain ⟨_, _, _, rfl, _⟩ := h; rfl) | (obtain ⟨_, _, _, _, rfl, _⟩ := h; rfl) | (obtain ⟨_, _, _, _, _, rfl, _⟩ := h; rfl) | (obtain ⟨_, _, _, _, _, _, rfl, _⟩ := h; rfl) | (obtain ⟨_, _, _, _, _, _, _, _, rfl, _⟩ := h; rfl)
theorem c_is_below (T : Tp K mg) : Cal P w K mg base 1 "is_below" (spBelow K) := cal_of (i := 7) (j := 7) T rfl rfl sc_is_below (fun _ _ _ _ _ _ us hl => match us, hl with | [_, _], _ => rfl) (fun vs H Q E h => len_is_below h) (fun f cdv A outer s H E hr => w_is_below T  hr) (fun vs H Q E h => p_is_below h)
theorem len_raised {vs : List V} {H : Hp} {Q : VK} {E : XK} (h : ((spRaised K) : Sp) vs H Q E) : vs.length = 2 := by first | (obtain ⟨_, _, rfl, _⟩ := h; rfl) | (obtain ⟨_, _, _, rfl, _⟩ := h; rfl) | (obtain ⟨_, _, _, _, rfl, _⟩ := h; rfl) | (obtain ⟨_, _, _, _, _, rfl, _⟩ := h; rfl) | (obtain ⟨_, _, _, _, _, _, rfl, _⟩ := h; rfl) | (obtain ⟨_, _, _, _, _, _, _, _, rfl, _⟩ := h; rfl)
theorem c_raised (T : Tp K mg) : Cal P w K mg base 4 "raised" (spRaised K) := cal_of (i := 8) (j := 8) T rfl rfl sc_raised (fun _ _ _ _ _ _ us hl => match us, hl with | [_, _], _ => rfl) (fun vs H Q E h => len_raised h) (fun f cdv A outer s H E hr => w_raised T (c_multiplied T) hr) (fun vs H Q E h => p_raised T.tu_ONE h)
theorem len_is_term {vs : List V} {H : Hp} {Q : VK} {E : XK} (h : ((spTerm K) : Sp) vs H Q E) : vs.length = 1 := by first | (obtain ⟨_, _, rfl, _⟩ := h; rfl) | (obtain ⟨_, _, _, rfl, _⟩ := h; rfl) | (obtain ⟨_, _, _, _, rfl, _⟩ := h; rfl) | (obtain ⟨_, _, _, _, _, rfl, _⟩ := h; rfl) | (obtain ⟨_, _, _, _, _, _, rfl, _⟩ := h; rfl) | (obtain ⟨_, _, _, _, _, _, _, _, rfl, _⟩ := h; rfl)
theorem c_is_term (T : Tp K mg) : Cal P w K mg base 3 "is_term" (spTerm K) := cal_of (i := 9) (j := 9) T rfl rfl sc_is_term (fun _ _ _ _ _ _ us hl => match us, hl with | [_], _ => rfl) (fun vs H Q E h => len_is_term h) (fun f cdv A outer s H E hr => w_is_term T (c_is_within T) (c_is_integer T) hr) (fun vs H Q E h => p_is_term h)
theorem len_Poly_init {vs : List V} {H : Hp} {Q : VK} {E : XK} (h : ((spRaw K Good) : Sp) vs H Q E) : vs.length = 2 := by first | (obtain ⟨_, _, rfl, _⟩ := h; rfl) | (obtain ⟨_, _, _, rfl, _⟩ := h; rfl) | (obtain ⟨_, _, _, _, rfl, _⟩ := h; rfl) | (obtain ⟨_, _, _, _, _, rfl, _⟩ := h; rfl) | (obtain ⟨_, _, _, _, _, _, rfl, _⟩ := h; rfl) | (obtain ⟨_, _, _, _, _, _, _, _, rfl, _⟩ := h; rfl)
theorem c_Poly_init (T : Tp K mg) : CalI P w K mg base 4 "Poly" (spRaw K Good) := calI_of (i := 49) T rfl T.glo_Poly T.mkr_Poly sc_Poly_init (fun _ _ _ _ _ _ us hl => match us, hl with | [_, _], _ => rfl) (fun vs H Q E h => len_Poly_init h) (fun f cdv A outer s H E hr => w_Poly_init T (c_is_term T) hr) (fun vs H Q E h => p_Poly_init h)
theorem len_RawPoly_init {vs : List V} {H : Hp} {Q : VK} {E : XK} (h : ((spRaw K fun _ => True) : Sp) vs H Q E) : vs.length = 2 := by first | (obtain ⟨_, _, rfl, _⟩ := h; rfl) | (obtain ⟨_, _, _, rfl, _⟩ := h; rfl) | (obtain ⟨_, _, _, _, rfl, _⟩ := h; rfl) | (obtain ⟨_, _, _, _, _, rfl, _⟩ := h; rfl) | (obtain ⟨_, _, _, _, _, _, rfl, _⟩ := h; rfl) | (obtain ⟨_, _, _, _, _, _, _, _, rfl, _⟩ := h; rfl)
theorem c_RawPoly_init (T : Tp K mg) : CalI P w K mg base 1 "RawPoly" (spRaw K fun _ => True) := calI_of (i := 50) T rfl T.glo_RawPoly T.mkr_RawPoly sc_RawPoly_init (fun _ _ _ _ _ _ us hl => match us, hl with | [_, _], _ => rfl) (fun vs H Q E h => len_RawPoly_init h) (fun f cdv A outer s H E hr => w_RawPoly_init T  hr) (fun vs H Q E h => p_RawPoly_init h)
theorem len_poly_from {vs : List V} {H : Hp} {Q : VK} {E : XK} (h : ((spFrom P w K) : Sp) vs H Q E) : vs.length = 1 := by first | (obtain ⟨_, _, rfl, _⟩ := h; rfl) | (obtain ⟨_, _, _, rfl, _⟩ := h; rfl) | (obtain ⟨_, _, _, _, rfl, _⟩ := h; rfl) | (obtain ⟨_, _, _, _, _, rfl, _⟩ := h; rfl) | (obtain ⟨_, _, _, _, _, _, rfl, _⟩ := h; rfl) | (obtain ⟨_, _, _, _, _, _, _, _, rfl, _⟩ := h; rfl)
theorem c_poly_from (T : Tp K mg) : Cal P w K mg base 3 "poly_from" (spFrom P w K) := cal_of (i := 10) (j := 10) T rfl rfl sc_poly_from (fun _ _ _ _ _ _ us hl => match us, hl with | [_], _ => rfl) (fun vs H Q E h => len_poly_from h) (fun f cdv A outer s H E hr => w_poly_from T (c_RawPoly_init T) hr) (fun vs H Q E h => p_poly_from T.cls_RawPoly T.noat_RawPoly h)
theorem len_constant {vs : List V} {H : Hp} {Q : VK} {E : XK} (h : ((spConst K) : Sp) vs H Q E) : vs.length = 1 := by first | (obtain ⟨_, _, rfl, _⟩ := h; rfl) | (obtain ⟨_, _, _, rfl, _⟩ := h; rfl) | (obtain ⟨_, _, _, _, rfl, _⟩ := h; rfl) | (obtain ⟨_, _, _, _, _, rfl, _⟩ := h; rfl) | (obtain ⟨_, _, _, _, _, _, rfl, _⟩ := h; rfl) | (obtain ⟨_, _, _, _, _, _, _, _, rfl, _⟩ := h; rfl)
theorem c_constant (T : Tp K mg) : Cal P w K mg base 4 "constant" (spConst K) := cal_of (i := 11) (j := 11) T rfl rfl sc_constant (fun _ _ _ _ _ _ us hl => match us, hl with | [_], _ => rfl) (fun vs H Q E h => len_constant h) (fun f cdv A outer s H E hr => w_constant T (c_poly_from T) hr) (fun vs H Q E h => p_constant T.tu_NO_POWERS h)
theorem len_powers_of {vs : List V} {H : Hp} {Q : VK} {E : XK} (h : ((spPowersOf K) : Sp) vs H Q E) : vs.length = 2 := by first | (obtain ⟨_, _, rfl, _⟩ := h; rfl) | (obtain ⟨_, _, _, rfl, _⟩ := h; rfl) | (obtain ⟨_, _, _, _, rfl, _⟩ := h; rfl) | (obtain ⟨_, _, _, _, _, rfl, _⟩ := h; rfl) | (obtain ⟨_, _, _, _, _, _, rfl, _⟩ := h; rfl) | (obtain ⟨_, _, _, _, _, _, _, _, rfl, _⟩ := h; rfl)
theorem c_powers_of (T : Tp K mg) : Cal P w K mg base 1 "powers_of" (spPowersOf K) := cal_of (i := 12) (j := 12) T rfl rfl sc_powers_of (fun _ _ _ _ _ _ us hl => match us, hl with | [_, _], _ => rfl) (fun vs H Q E h => len_powers_of h) (fun f cdv A outer s H E hr => w_powers_of T  hr) (fun vs H Q E h => p_powers_of h)
theorem len_unknown_power {vs : List V} {H : Hp} {Q : VK} {E : XK} (h : ((spUnk K) : Sp) vs H Q E) : vs.length = 2 := by first | (obtain ⟨_, _, rfl, _⟩ := h; rfl) | (obtain ⟨_, _, _, rfl, _⟩ := h; rfl) | (obtain ⟨_, _, _, _, rfl, _⟩ := h; rfl) | (obtain ⟨_, _, _, _, _, rfl, _⟩ := h; rfl) | (obtain ⟨_, _, _, _, _, _, rfl, _⟩ := h; rfl) | (obtain ⟨_, _, _, _, _, _, _, _, rfl, _⟩ := h; rfl)
theorem c_unknown_power (T : Tp K mg) : Cal P w K mg base 4 "unknown_power" (spUnk K) := cal_of (i := 13) (j := 13) T rfl rfl sc_unknown_power (fun _ _ _ _ _ _ us hl => match us, hl with | [_, _], _ => rfl) (fun vs H Q E h => len_unknown_power h) (fun f cdv A outer s H E hr => w_unknown_power T (c_powers_of T) (c_poly_from T) hr) (fun vs H Q E h => p_unknown_power h)
theorem len_sum_with {vs : List V} {H : Hp} {Q : VK} {E : XK} (h : ((spSum K) : Sp) vs H Q E) : vs.length = 3 := by first | (obtain ⟨_, _, rfl, _⟩ := h; rfl) | (obtain ⟨_, _, _, rfl, _⟩ := h; rfl) | (obtain ⟨_, _, _, _, rfl, _⟩ := h; rfl) | (obtain ⟨_, _, _, _, _, rfl, _⟩ := h; rfl) | (obtain ⟨_, _, _, _, _, _, rfl, _⟩ := h; rfl) | (obtain ⟨_, _, _, _, _, _, _, _, rfl, _⟩ := h; rfl)
theorem c_sum_with (T : Tp K mg) : Cal P w K mg base 4 "sum_with" (spSum K) := cal_of (i := 14) (j := 14) T rfl rfl sc_sum_with (fun _ _ _ _ _ _ us hl => match us, hl with | [_, _, _], _ => rfl) (fun vs H Q E h => len_sum_with h) (fun f cdv A outer s H E hr => w_sum_with T (c_poly_from T) hr) (fun vs H Q E h => p_sum_with h)
theorem len_plus {vs : List V} {H : Hp} {Q : VK} {E : XK} (h : ((spPlus K) : Sp) vs H Q E) : vs.length = 2 := by first | (obtain ⟨_, _, rfl, _⟩ := h; rfl) | (obtain ⟨_, _, _, rfl, _⟩ := h; rfl) | (obtain ⟨_, _, _, _, rfl, _⟩ := h; rfl) | (obtain ⟨_, _, _, _, _, rfl, _⟩ := h; rfl) | (obtain ⟨_, _, _, _, _, _, rfl, _⟩ := h; rfl) | (obtain ⟨_, _, _, _, _, _, _, _, rfl, _⟩ := h; rfl)
theorem c_plus (T : Tp K mg) : Cal P w K mg base 5 "plus" (spPlus K) := cal_of (i := 15) (j := 15) T rfl rfl sc_plus (fun _ _ _ _ _ _ us hl => match us, hl with | [_, _], _ => rfl) (fun vs H Q E h => len_plus h) (fun f cdv A outer s H E hr => w_plus T (c_sum_with T) hr) (fun vs H Q E h => p_plus h)
theorem len_times {vs : List V} {H : Hp} {Q : VK} {E : XK} (h : ((spTimes K) : Sp) vs H Q E) : vs.length = 2 := by first | (obtain ⟨_, _, rfl, _⟩ := h; rfl) | (obtain ⟨_, _, _, rfl, _⟩ := h; rfl) | (obtain ⟨_, _, _, _, rfl, _⟩ := h; rfl) | (obtain ⟨_, _, _, _, _, rfl, _⟩ := h; rfl) | (obtain ⟨_, _, _, _, _, _, rfl, _⟩ := h; rfl) | (obtain ⟨_, _, _, _, _, _, _, _, rfl, _⟩ := h; rfl)
theorem c_times (T : Tp K mg) : Cal P w K mg base 4 "times" (spTimes K) := cal_of (i := 16) (j := 16) T rfl rfl sc_times (fun _ _ _ _ _ _ us hl => match us, hl with | [_, _], _ => rfl) (fun vs H Q E h => len_times h) (fun f cdv A outer s H E hr => w_times T (c_poly_from T) hr) (fun vs H Q E h => p_times h)
theorem len_degree_by {vs : List V} {H : Hp} {Q : VK} {E : XK} (h : ((spDeg K) : Sp) vs H Q E) : vs.length = 2 := by first | (obtain ⟨_, _, rfl, _⟩ := h; rfl) | (obtain ⟨_, _, _, rfl, _⟩ := h; rfl) | (obtain ⟨_, _, _, _, rfl, _⟩ := h; rfl) | (obtain ⟨_, _, _, _, _, rfl, _⟩ := h; rfl) | (obtain ⟨_, _, _, _, _, _, rfl, _⟩ := h; rfl) | (obtain ⟨_, _, _, _, _, _, _, _, rfl, _⟩ := h; rfl)
theorem c_degree_by (T : Tp K mg) : Cal P w K mg base 1 "degree_by" (spDeg K) := cal_of (i := 17) (j := 17) T rfl rfl sc_degree_by (fun _ _ _ _ _ _ us hl => match us, hl with | [_, _], _ => rfl) (fun vs H Q E h => len_degree_by h) (fun f cdv A outer s H E hr => w_degree_by T  hr) (fun vs H Q E h => p_degree_by h)
theorem len_without {vs : List V} {H : Hp} {Q : VK} {E : XK} (h : ((spWithout K) : Sp) vs H Q E) : vs.length = 2 := by first | (obtain ⟨_, _, rfl, _⟩ := h; rfl) | (obtain ⟨_, _, _, rfl, _⟩ := h; rfl) | (obtain ⟨_, _, _, _, rfl, _⟩ := h; rfl) | (obtain ⟨_, _, _, _, _, rfl, _⟩ := h; rfl) | (obtain ⟨_, _, _, _, _, _, rfl, _⟩ := h; rfl) | (obtain ⟨_, _, _, _, _, _, _, _, rfl, _⟩ := h; rfl)
theorem c_without (T : Tp K mg) : Cal P w K mg base 1 "without" (spWithout K) := cal_of (i := 18) (j := 18) T rfl rfl sc_without (fun _ _ _ _ _ _ us hl => match us, hl with | [_, _], _ => rfl) (fun vs H Q E h => len_without h) (fun f cdv A outer s H E hr => w_without T  hr) (fun vs H Q E h => p_without h)
theorem len_counts_by {vs : List V} {H : Hp} {Q : VK} {E : XK} (h : ((spBy K) : Sp) vs H Q E) : vs.length = 2 := by first | (obtain ⟨_, _, rfl, _⟩ := h; rfl) | (obtain ⟨_, _, _, rfl, _⟩ := h; rfl) | (obtain ⟨_, _, _, _, rfl, _⟩ := h; rfl) | (obtain ⟨_, _, _, _, _, rfl, _⟩ := h; rfl) | (obtain ⟨_, _, _, _, _, _, rfl, _⟩ := h; rfl) | (obtain ⟨_, _, _, _, _, _, _, _, rfl, _⟩ := h; rfl)
theorem c_counts_by (T : Tp K mg) : Cal P w K mg base 4 "counts_by" (spBy K) := cal_of (i := 19) (j := 19) T rfl rfl sc_counts_by (fun _ _ _ _ _ _ us hl => match us, hl with | [_, _], _ => rfl) (fun vs H Q E h => len_counts_by h) (fun f cdv A outer s H E hr => w_counts_by T (c_poly_from T) (c_without T) (c_degree_by T) hr) (fun vs H Q E h => p_counts_by h)
theorem len_worth_at {vs : List V} {H : Hp} {Q : VK} {E : XK} (h : ((spWorthAt K) : Sp) vs H Q E) : vs.length = 2 := by first | (obtain ⟨_, _, rfl, _⟩ := h; rfl) | (obtain ⟨_, _, _, rfl, _⟩ := h; rfl) | (obtain ⟨_, _, _, _, rfl, _⟩ := h; rfl) | (obtain ⟨_, _, _, _, _, rfl, _⟩ := h; rfl) | (obtain ⟨_, _, _, _, _, _, rfl, _⟩ := h; rfl) | (obtain ⟨_, _, _, _, _, _, _, _, rfl, _⟩ := h; rfl)
theorem c_worth_at (T : Tp K mg) : Cal P w K mg base 5 "worth_at" (spWorthAt K) := cal_of (i := 20) (j := 20) T rfl rfl sc_worth_at (fun _ _ _ _ _ _ us hl => match us, hl with | [_, _], _ => rfl) (fun vs H Q E h => len_worth_at h) (fun f cdv A outer s H E hr => w_worth_at T (c_added T) (c_raised T) (c_multiplied T) hr) (fun vs H Q E h => p_worth_at T.tu_ZERO h)
theorem len_worth {vs : List V} {H : Hp} {Q : VK} {E : XK} (h : ((spWorthAt K) : Sp) vs H Q E) : vs.length = 2 := by first | (obtain ⟨_, _, rfl, _⟩ := h; rfl) | (obtain ⟨_, _, _, rfl, _⟩ := h; rfl) | (obtain ⟨_, _, _, _, rfl, _⟩ := h; rfl) | (obtain ⟨_, _, _, _, _, rfl, _⟩ := h; rfl) | (obtain ⟨_, _, _, _, _, _, rfl, _⟩ := h; rfl) | (obtain ⟨_, _, _, _, _, _, _, _, rfl, _⟩ := h; rfl)
theorem c_worth (T : Tp K mg) : Cal P w K mg base 6 "worth" (spWorthAt K) := cal_of (i := 21) (j := 21) T rfl rfl sc_worth (fun _ _ _ _ _ _ us hl => match us, hl with | [_, _], _ => rfl) (fun vs H Q E h => len_worth h) (fun f cdv A outer s H E hr => w_worth T (c_worth_at T) (c_is_fraction T) hr) (fun vs H Q E h => p_worth h)
theorem len_is_in {vs : List V} {H : Hp} {Q : VK} {E : XK} (h : ((spIsIn K) : Sp) vs H Q E) : vs.length = 2 := by first | (obtain ⟨_, _, rfl, _⟩ := h; rfl) | (obtain ⟨_, _, _, rfl, _⟩ := h; rfl) | (obtain ⟨_, _, _, _, rfl, _⟩ := h; rfl) | (obtain ⟨_, _, _, _, _, rfl, _⟩ := h; rfl) | (obtain ⟨_, _, _, _, _, _, rfl, _⟩ := h; rfl) | (obtain ⟨_, _, _, _, _, _, _, _, rfl, _⟩ := h; rfl)
theorem c_is_in (T : Tp K mg) : Cal P w K mg base 1 "is_in" (spIsIn K) := cal_of (i := 22) (j := 22) T rfl rfl sc_is_in (fun _ _ _ _ _ _ us hl => match us, hl with | [_, _], _ => rfl) (fun vs H Q E h => len_is_in h) (fun f cdv A outer s H E hr => w_is_in T  hr) (fun vs H Q E h => p_is_in T.tu_NO_POWERS h)
theorem len_is_stretch {vs : List V} {H : Hp} {Q : VK} {E : XK} (h : ((spIsStretch K) : Sp) vs H Q E) : vs.length = 1 := by first | (obtain ⟨_, _, rfl, _⟩ := h; rfl) | (obtain ⟨_, _, _, rfl, _⟩ := h; rfl) | (obtain ⟨_, _, _, _, rfl, _⟩ := h; rfl) | (obtain ⟨_, _, _, _, _, rfl, _⟩ := h; rfl) | (obtain ⟨_, _, _, _, _, _, rfl, _⟩ := h; rfl) | (obtain ⟨_, _, _, _, _, _, _, _, rfl, _⟩ := h; rfl)
theorem c_is_stretch (T : Tp K mg) : Cal P w K mg base 3 "is_stretch" (spIsStretch K) := cal_of (i := 23) (j := 23) T rfl rfl sc_is_stretch (fun _ _ _ _ _ _ us hl => match us, hl with | [_], _ => rfl) (fun vs H Q E h => len_is_stretch h) (fun f cdv A outer s H E hr => w_is_stretch T (c_is_below T) (c_is_fraction T) hr) (fun vs H Q E h => p_is_stretch h)
theorem len_is_box {vs : List V} {H : Hp} {Q : VK} {E : XK} (h : ((spIsBox K) : Sp) vs H Q E) : vs.length = 1 := by first | (obtain ⟨_, _, rfl, _⟩ := h; rfl) | (obtain ⟨_, _, _, rfl, _⟩ := h; rfl) | (obtain ⟨_, _, _, _, rfl, _⟩ := h; rfl) | (obtain ⟨_, _, _, _, _, rfl, _⟩ := h; rfl) | (obtain ⟨_, _, _, _, _, _, rfl, _⟩ := h; rfl) | (obtain ⟨_, _, _, _, _, _, _, _, rfl, _⟩ := h; rfl)
theorem c_is_box (T : Tp K mg) : Cal P w K mg base 4 "is_box" (spIsBox K) := cal_of (i := 24) (j := 24) T rfl rfl sc_is_box (fun _ _ _ _ _ _ us hl => match us, hl with | [_], _ => rfl) (fun vs H Q E h => len_is_box h) (fun f cdv A outer s H E hr => w_is_box T (c_is_stretch T) hr) (fun vs H Q E h => p_is_box h)
theorem len_check_box {vs : List V} {H : Hp} {Q : VK} {E : XK} (h : ((spCheck K) : Sp) vs H Q E) : vs.length = 2 := by first | (obtain ⟨_, _, rfl, _⟩ := h; rfl) | (obtain ⟨_, _, _, rfl, _⟩ := h; rfl) | (obtain ⟨_, _, _, _, rfl, _⟩ := h; rfl) | (obtain ⟨_, _, _, _, _, rfl, _⟩ := h; rfl) | (obtain ⟨_, _, _, _, _, _, rfl, _⟩ := h; rfl) | (obtain ⟨_, _, _, _, _, _, _, _, rfl, _⟩ := h; rfl)
theorem c_check_box (T : Tp K mg) : Cal P w K mg base 5 "check_box" (spCheck K) := cal_of (i := 25) (j := 25) T rfl rfl sc_check_box (fun _ _ _ _ _ _ us hl => match us, hl with | [_, _], _ => rfl) (fun vs H Q E h => len_check_box h) (fun f cdv A outer s H E hr => w_check_box T (c_is_in T) (c_is_box T) hr) (fun vs H Q E h => p_check_box h)
theorem len_product_to {vs : List V} {H : Hp} {Q : VK} {E : XK} (h : (spFct : Sp) vs H Q E) : vs.length = 1 := by first | (obtain ⟨_, _, rfl, _⟩ := h; rfl) | (obtain ⟨_, _, _, rfl, _⟩ := h; rfl) | (obtain ⟨_, _, _, _, rfl, _⟩ := h; rfl) | (obtain ⟨_, _, _, _, _, rfl, _⟩ := h; rfl) | (obtain ⟨_, _, _, _, _, _, rfl, _⟩ := h; rfl) | (obtain ⟨_, _, _, _, _, _, _, _, rfl, _⟩ := h; rfl)
theorem c_product_to (T : Tp K mg) : Cal P w K mg base 1 "product_to" spFct := cal_of (i := 26) (j := 26) T rfl rfl sc_product_to (fun _ _ _ _ _ _ us hl => match us, hl with | [_], _ => rfl) (fun vs H Q E h => len_product_to h) (fun f cdv A outer s H E hr => w_product_to T  hr) (fun vs H Q E h => p_product_to h)
theorem len_moved {vs : List V} {H : Hp} {Q : VK} {E : XK} (h : ((spMoved K) : Sp) vs H Q E) : vs.length = 3 := by first | (obtain ⟨_, _, rfl, _⟩ := h; rfl) | (obtain ⟨_, _, _, rfl, _⟩ := h; rfl) | (obtain ⟨_, _, _, _, rfl, _⟩ := h; rfl) | (obtain ⟨_, _, _, _, _, rfl, _⟩ := h; rfl) | (obtain ⟨_, _, _, _, _, _, rfl, _⟩ := h; rfl) | (obtain ⟨_, _, _, _, _, _, _, _, rfl, _⟩ := h; rfl)
theorem c_moved (T : Tp K mg) : Cal P w K mg base 6 "moved" (spMoved K) := cal_of (i := 27) (j := 27) T rfl rfl sc_moved (fun _ _ _ _ _ _ us hl => match us, hl with | [_, _, _], _ => rfl) (fun vs H Q E h => len_moved h) (fun f cdv A outer s H E hr => w_moved T (c_times T) (c_sum_with T) (c_counts_by T) (c_constant T) (c_unknown_power T) (c_plus T) (c_divisor_of T) hr) (fun vs H Q E h => p_moved h)
theorem len_told_by_counts {vs : List V} {H : Hp} {Q : VK} {E : XK} (h : ((spTold K) : Sp) vs H Q E) : vs.length = 2 := by first | (obtain ⟨_, _, rfl, _⟩ := h; rfl) | (obtain ⟨_, _, _, rfl, _⟩ := h; rfl) | (obtain ⟨_, _, _, _, rfl, _⟩ := h; rfl) | (obtain ⟨_, _, _, _, _, rfl, _⟩ := h; rfl) | (obtain ⟨_, _, _, _, _, _, rfl, _⟩ := h; rfl) | (obtain ⟨_, _, _, _, _, _, _, _, rfl, _⟩ := h; rfl)
theorem c_told_by_counts (T : Tp K mg) : Cal P w K mg base 6 "told_by_counts" (spTold K) := cal_of (i := 28) (j := 28) T rfl rfl sc_told_by_counts (fun _ _ _ _ _ _ us hl => match us, hl with | [_, _], _ => rfl) (fun vs H Q E h => len_told_by_counts h) (fun f cdv A outer s H E hr => w_told_by_counts T (c_unknown_power T) (c_times T) (c_plus T) (c_product_to T) (c_sum_with T) (c_constant T) (c_counts_by T) (c_degree_by T) hr) (fun vs H Q E h => p_told h)
theorem len_whole_counts {vs : List V} {H : Hp} {Q : VK} {E : XK} (h : ((spWhole K) : Sp) vs H Q E) : vs.length = 2 := by first | (obtain ⟨_, _, rfl, _⟩ := h; rfl) | (obtain ⟨_, _, _, rfl, _⟩ := h; rfl) | (obtain ⟨_, _, _, _, rfl, _⟩ := h; rfl) | (obtain ⟨_, _, _, _, _, rfl, _⟩ := h; rfl) | (obtain ⟨_, _, _, _, _, _, rfl, _⟩ := h; rfl) | (obtain ⟨_, _, _, _, _, _, _, _, rfl, _⟩ := h; rfl)
theorem c_whole_counts (T : Tp K mg) : Cal P w K mg base 7 "whole_counts" (spWhole K) := cal_of (i := 29) (j := 29) T rfl rfl sc_whole_counts (fun _ _ _ _ _ _ us hl => match us, hl with | [_, _], _ => rfl) (fun vs H Q E h => len_whole_counts h) (fun f cdv A outer s H E hr => w_whole_counts T (c_told_by_counts T) (c_degree_by T) (c_product_to T) (c_moved T) hr) (fun vs H Q E h => p_whole h)
theorem len_indexes {vs : List V} {H : Hp} {Q : VK} {E : XK} (h : ((spIdx K) : Sp) vs H Q E) : vs.length = 1 := by first | (obtain ⟨_, _, rfl, _⟩ := h; rfl) | (obtain ⟨_, _, _, rfl, _⟩ := h; rfl) | (obtain ⟨_, _, _, _, rfl, _⟩ := h; rfl) | (obtain ⟨_, _, _, _, _, rfl, _⟩ := h; rfl) | (obtain ⟨_, _, _, _, _, _, rfl, _⟩ := h; rfl) | (obtain ⟨_, _, _, _, _, _, _, _, rfl, _⟩ := h; rfl)
theorem c_indexes (T : Tp K mg) : Cal P w K mg base 1 "indexes" (spIdx K) := cal_of (i := 30) (j := 30) T rfl rfl sc_indexes (fun _ _ _ _ _ _ us hl => match us, hl with | [_], _ => rfl) (fun vs H Q E h => len_indexes h) (fun f cdv A outer s H E hr => w_indexes T  hr) (fun vs H Q E h => p_indexes h)
theorem len_counts_over {vs : List V} {H : Hp} {Q : VK} {E : XK} (h : ((spCounts P w K) : Sp) vs H Q E) : vs.length = 2 := by first | (obtain ⟨_, _, rfl, _⟩ := h; rfl) | (obtain ⟨_, _, _, rfl, _⟩ := h; rfl) | (obtain ⟨_, _, _, _, rfl, _⟩ := h; rfl) | (obtain ⟨_, _, _, _, _, rfl, _⟩ := h; rfl) | (obtain ⟨_, _, _, _, _, _, rfl, _⟩ := h; rfl) | (obtain ⟨_, _, _, _, _, _, _, _, rfl, _⟩ := h; rfl)
theorem c_counts_over (T : Tp K mg) : Cal P w K mg base 8 "counts_over" (spCounts P w K) := cal_of (i := 31) (j := 31) T rfl rfl sc_counts_over (fun _ _ _ _ _ _ us hl => match us, hl with | [_, _], _ => rfl) (fun vs H Q E h => len_counts_over h) (fun f cdv A outer s H E hr => w_counts_over T (c_degree_by T) (c_indexes T) (c_fraction T) (c_whole_counts T) (c_check_box T) hr) (fun vs H Q E h => p_counts_over T.tu_NO_POWERS h)
theorem len__law_hand {vs : List V} {H : Hp} {Q : VK} {E : XK} (h : ((spHand K) : Sp) vs H Q E) : vs.length = 1 := by first | (obtain ⟨_, _, rfl, _⟩ := h; rfl) | (obtain ⟨_, _, _, rfl, _⟩ := h; rfl) | (obtain ⟨_, _, _, _, rfl, _⟩ := h; rfl) | (obtain ⟨_, _, _, _, _, rfl, _⟩ := h; rfl) | (obtain ⟨_, _, _, _, _, _, rfl, _⟩ := h; rfl) | (obtain ⟨_, _, _, _, _, _, _, _, rfl, _⟩ := h; rfl)
theorem c__law_hand (T : Tp K mg) : Cal P w K mg base 1 "_law_hand" (spHand K) := cal_of (i := 32) (j := 32) T rfl rfl sc__law_hand (fun _ _ _ _ _ _ us hl => match us, hl with | [_], _ => rfl) (fun vs H Q E h => len__law_hand h) (fun f cdv A outer s H E hr => w__law_hand T  hr) (fun vs H Q E h => p_hand h)
theorem len__law_draw {vs : List V} {H : Hp} {Q : VK} {E : XK} (h : (spDraw : Sp) vs H Q E) : vs.length = 2 := by first | (obtain ⟨_, _, rfl, _⟩ := h; rfl) | (obtain ⟨_, _, _, rfl, _⟩ := h; rfl) | (obtain ⟨_, _, _, _, rfl, _⟩ := h; rfl) | (obtain ⟨_, _, _, _, _, rfl, _⟩ := h; rfl) | (obtain ⟨_, _, _, _, _, _, rfl, _⟩ := h; rfl) | (obtain ⟨_, _, _, _, _, _, _, _, rfl, _⟩ := h; rfl)
theorem c__law_draw (T : Tp K mg) : Cal P w K mg base 1 "_law_draw" spDraw := cal_of (i := 33) (j := 33) T rfl rfl sc__law_draw (fun _ _ _ _ _ _ us hl => match us, hl with | [_, _], _ => rfl) (fun vs H Q E h => len__law_draw h) (fun f cdv A outer s H E hr => w__law_draw T  hr) (fun vs H Q E h => p_draw h)
theorem len__law_any {vs : List V} {H : Hp} {Q : VK} {E : XK} (h : (spAny : Sp) vs H Q E) : vs.length = 2 := by first | (obtain ⟨_, _, rfl, _⟩ := h; rfl) | (obtain ⟨_, _, _, rfl, _⟩ := h; rfl) | (obtain ⟨_, _, _, _, rfl, _⟩ := h; rfl) | (obtain ⟨_, _, _, _, _, rfl, _⟩ := h; rfl) | (obtain ⟨_, _, _, _, _, _, rfl, _⟩ := h; rfl) | (obtain ⟨_, _, _, _, _, _, _, _, rfl, _⟩ := h; rfl)
theorem c__law_any (T : Tp K mg) : Cal P w K mg base 2 "_law_any" spAny := cal_of (i := 34) (j := 34) T rfl rfl sc__law_any (fun _ _ _ _ _ _ us hl => match us, hl with | [_, _], _ => rfl) (fun vs H Q E h => len__law_any h) (fun f cdv A outer s H E hr => w__law_any T (c__law_draw T) hr) (fun vs H Q E h => p_any h)
theorem len__law_low {vs : List V} {H : Hp} {Q : VK} {E : XK} (h : ((spLow K) : Sp) vs H Q E) : vs.length = 2 := by first | (obtain ⟨_, _, rfl, _⟩ := h; rfl) | (obtain ⟨_, _, _, rfl, _⟩ := h; rfl) | (obtain ⟨_, _, _, _, rfl, _⟩ := h; rfl) | (obtain ⟨_, _, _, _, _, rfl, _⟩ := h; rfl) | (obtain ⟨_, _, _, _, _, _, rfl, _⟩ := h; rfl) | (obtain ⟨_, _, _, _, _, _, _, _, rfl, _⟩ := h; rfl)
theorem c__law_low (T : Tp K mg) : Cal P w K mg base 1 "_law_low" (spLow K) := cal_of (i := 35) (j := 35) T rfl rfl sc__law_low (fun _ _ _ _ _ _ us hl => match us, hl with | [_, _], _ => rfl) (fun vs H Q E h => len__law_low h) (fun f cdv A outer s H E hr => w__law_low T  hr) (fun vs H Q E h => p_low h)
theorem len__law_power {vs : List V} {H : Hp} {Q : VK} {E : XK} (h : (spPow : Sp) vs H Q E) : vs.length = 2 := by first | (obtain ⟨_, _, rfl, _⟩ := h; rfl) | (obtain ⟨_, _, _, rfl, _⟩ := h; rfl) | (obtain ⟨_, _, _, _, rfl, _⟩ := h; rfl) | (obtain ⟨_, _, _, _, _, rfl, _⟩ := h; rfl) | (obtain ⟨_, _, _, _, _, _, rfl, _⟩ := h; rfl) | (obtain ⟨_, _, _, _, _, _, _, _, rfl, _⟩ := h; rfl)
theorem c__law_power (T : Tp K mg) : Cal P w K mg base 1 "_law_power" spPow := cal_of (i := 36) (j := 36) T rfl rfl sc__law_power (fun _ _ _ _ _ _ us hl => match us, hl with | [_, _], _ => rfl) (fun vs H Q E h => len__law_power h) (fun f cdv A outer s H E hr => w__law_power T  hr) (fun vs H Q E h => p_power h)
theorem len__law_binomial {vs : List V} {H : Hp} {Q : VK} {E : XK} (h : (spCh : Sp) vs H Q E) : vs.length = 2 := by first | (obtain ⟨_, _, rfl, _⟩ := h; rfl) | (obtain ⟨_, _, _, rfl, _⟩ := h; rfl) | (obtain ⟨_, _, _, _, rfl, _⟩ := h; rfl) | (obtain ⟨_, _, _, _, _, rfl, _⟩ := h; rfl) | (obtain ⟨_, _, _, _, _, _, rfl, _⟩ := h; rfl) | (obtain ⟨_, _, _, _, _, _, _, _, rfl, _⟩ := h; rfl)
theorem c__law_binomial (T : Tp K mg) : Cal P w K mg base 1 "_law_binomial" spCh := cal_of (i := 37) (j := 37) T rfl rfl sc__law_binomial (fun _ _ _ _ _ _ us hl => match us, hl with | [_, _], _ => rfl) (fun vs H Q E h => len__law_binomial h) (fun f cdv A outer s H E hr => w__law_binomial T  hr) (fun vs H Q E h => p_binomial h)
theorem len__law_poly {vs : List V} {H : Hp} {Q : VK} {E : XK} (h : ((spLPoly P w K) : Sp) vs H Q E) : vs.length = 1 := by first | (obtain ⟨_, _, rfl, _⟩ := h; rfl) | (obtain ⟨_, _, _, rfl, _⟩ := h; rfl) | (obtain ⟨_, _, _, _, rfl, _⟩ := h; rfl) | (obtain ⟨_, _, _, _, _, rfl, _⟩ := h; rfl) | (obtain ⟨_, _, _, _, _, _, rfl, _⟩ := h; rfl) | (obtain ⟨_, _, _, _, _, _, _, _, rfl, _⟩ := h; rfl)
theorem c__law_poly (T : Tp K mg) : Cal P w K mg base 6 "_law_poly" (spLPoly P w K) := cal_of (i := 38) (j := 38) T rfl rfl sc__law_poly (fun _ _ _ _ _ _ us hl => match us, hl with | [_], _ => rfl) (fun vs H Q E h => len__law_poly h) (fun f cdv A outer s H E hr => w__law_poly T (c_Poly_init T) hr) (fun vs H Q E h => p_law_poly T.cls_Poly T.noat_Poly h)
theorem len__law_parts {vs : List V} {H : Hp} {Q : VK} {E : XK} (h : ((spPa P w K) : Sp) vs H Q E) : vs.length = 4 := by first | (obtain ⟨_, _, rfl, _⟩ := h; rfl) | (obtain ⟨_, _, _, rfl, _⟩ := h; rfl) | (obtain ⟨_, _, _, _, rfl, _⟩ := h; rfl) | (obtain ⟨_, _, _, _, _, rfl, _⟩ := h; rfl) | (obtain ⟨_, _, _, _, _, _, rfl, _⟩ := h; rfl) | (obtain ⟨_, _, _, _, _, _, _, _, rfl, _⟩ := h; rfl)
theorem c__law_parts (T : Tp K mg) : Cal P w K mg base 3 "_law_parts" (spPa P w K) := cal_of (i := 39) (j := 39) T rfl rfl sc__law_parts (fun _ _ _ _ _ _ us hl => match us, hl with | [_, _, _, _], _ => rfl) (fun vs H Q E h => len__law_parts h) (fun f cdv A outer s H E hr => w__law_parts T (c__law_draw T) (c__law_any T) hr) (fun vs H Q E h => p_parts h)
theorem len__law_degrees {vs : List V} {H : Hp} {Q : VK} {E : XK} (h : ((spLDeg P w K) : Sp) vs H Q E) : vs.length = 2 := by first | (obtain ⟨_, _, rfl, _⟩ := h; rfl) | (obtain ⟨_, _, _, rfl, _⟩ := h; rfl) | (obtain ⟨_, _, _, _, rfl, _⟩ := h; rfl) | (obtain ⟨_, _, _, _, _, rfl, _⟩ := h; rfl) | (obtain ⟨_, _, _, _, _, _, rfl, _⟩ := h; rfl) | (obtain ⟨_, _, _, _, _, _, _, _, rfl, _⟩ := h; rfl)
theorem c__law_degrees (T : Tp K mg) : Cal P w K mg base 1 "_law_degrees" (spLDeg P w K) := cal_of (i := 40) (j := 40) T rfl rfl sc__law_degrees (fun _ _ _ _ _ _ us hl => match us, hl with | [_, _], _ => rfl) (fun vs H Q E h => len__law_degrees h) (fun f cdv A outer s H E hr => w__law_degrees T  hr) (fun vs H Q E h => p_law_degrees h)
theorem len__law_stretch {vs : List V} {H : Hp} {Q : VK} {E : XK} (h : ((spStr K) : Sp) vs H Q E) : vs.length = 1 := by first | (obtain ⟨_, _, rfl, _⟩ := h; rfl) | (obtain ⟨_, _, _, rfl, _⟩ := h; rfl) | (obtain ⟨_, _, _, _, rfl, _⟩ := h; rfl) | (obtain ⟨_, _, _, _, _, rfl, _⟩ := h; rfl) | (obtain ⟨_, _, _, _, _, _, rfl, _⟩ := h; rfl) | (obtain ⟨_, _, _, _, _, _, _, _, rfl, _⟩ := h; rfl)
theorem c__law_stretch (T : Tp K mg) : Cal P w K mg base 3 "_law_stretch" (spStr K) := cal_of (i := 41) (j := 41) T rfl rfl sc__law_stretch (fun _ _ _ _ _ _ us hl => match us, hl with | [_], _ => rfl) (fun vs H Q E h => len__law_stretch h) (fun f cdv A outer s H E hr => w__law_stretch T (c__law_low T) (c__law_any T) (c__law_draw T) hr) (fun vs H Q E h => p_stretch h)
theorem len__law_box {vs : List V} {H : Hp} {Q : VK} {E : XK} (h : ((spBox K) : Sp) vs H Q E) : vs.length = 2 := by first | (obtain ⟨_, _, rfl, _⟩ := h; rfl) | (obtain ⟨_, _, _, rfl, _⟩ := h; rfl) | (obtain ⟨_, _, _, _, rfl, _⟩ := h; rfl) | (obtain ⟨_, _, _, _, _, rfl, _⟩ := h; rfl) | (obtain ⟨_, _, _, _, _, _, rfl, _⟩ := h; rfl) | (obtain ⟨_, _, _, _, _, _, _, _, rfl, _⟩ := h; rfl)
theorem c__law_box (T : Tp K mg) : Cal P w K mg base 4 "_law_box" (spBox K) := cal_of (i := 42) (j := 42) T rfl rfl sc__law_box (fun _ _ _ _ _ _ us hl => match us, hl with | [_, _], _ => rfl) (fun vs H Q E h => len__law_box h) (fun f cdv A outer s H E hr => w__law_box T (c__law_stretch T) hr) (fun vs H Q E h => p_box h)
theorem len__law_polar {vs : List V} {H : Hp} {Q : VK} {E : XK} (h : ((spPolar K) : Sp) vs H Q E) : vs.length = 4 := by first | (obtain ⟨_, _, rfl, _⟩ := h; rfl) | (obtain ⟨_, _, _, rfl, _⟩ := h; rfl) | (obtain ⟨_, _, _, _, rfl, _⟩ := h; rfl) | (obtain ⟨_, _, _, _, _, rfl, _⟩ := h; rfl) | (obtain ⟨_, _, _, _, _, _, rfl, _⟩ := h; rfl) | (obtain ⟨_, _, _, _, _, _, _, _, rfl, _⟩ := h; rfl)
theorem c__law_polar (T : Tp K mg) : Cal P w K mg base 2 "_law_polar" (spPolar K) := cal_of (i := 43) (j := 43) T rfl rfl sc__law_polar (fun _ _ _ _ _ _ us hl => match us, hl with | [_, _, _, _], _ => rfl) (fun vs H Q E h => len__law_polar h) (fun f cdv A outer s H E hr => w__law_polar T (c__law_power T) (c__law_binomial T) hr) (fun vs H Q E h => p_polar h)
theorem len__law_indexes {vs : List V} {H : Hp} {Q : VK} {E : XK} (h : ((spIdx K) : Sp) vs H Q E) : vs.length = 1 := by first | (obtain ⟨_, _, rfl, _⟩ := h; rfl) | (obtain ⟨_, _, _, rfl, _⟩ := h; rfl) | (obtain ⟨_, _, _, _, rfl, _⟩ := h; rfl) | (obtain ⟨_, _, _, _, _, rfl, _⟩ := h; rfl) | (obtain ⟨_, _, _, _, _, _, rfl, _⟩ := h; rfl) | (obtain ⟨_, _, _, _, _, _, _, _, rfl, _⟩ := h; rfl)
theorem c__law_indexes (T : Tp K mg) : Cal P w K mg base 1 "_law_indexes" (spIdx K) := cal_of (i := 44) (j := 44) T rfl rfl sc__law_indexes (fun _ _ _ _ _ _ us hl => match us, hl with | [_], _ => rfl) (fun vs H Q E h => len__law_indexes h) (fun f cdv A outer s H E hr => w__law_indexes T  hr) (fun vs H Q E h => p_law_indexes h)
theorem len__law_counts {vs : List V} {H : Hp} {Q : VK} {E : XK} (h : ((spLCnt P w K) : Sp) vs H Q E) : vs.length = 2 := by first | (obtain ⟨_, _, rfl, _⟩ := h; rfl) | (obtain ⟨_, _, _, rfl, _⟩ := h; rfl) | (obtain ⟨_, _, _, _, rfl, _⟩ := h; rfl) | (obtain ⟨_, _, _, _, _, rfl, _⟩ := h; rfl) | (obtain ⟨_, _, _, _, _, _, rfl, _⟩ := h; rfl) | (obtain ⟨_, _, _, _, _, _, _, _, rfl, _⟩ := h; rfl)
theorem c__law_counts (T : Tp K mg) : Cal P w K mg base 3 "_law_counts" (spLCnt P w K) := cal_of (i := 45) (j := 45) T rfl rfl sc__law_counts (fun _ _ _ _ _ _ us hl => match us, hl with | [_, _], _ => rfl) (fun vs H Q E h => len__law_counts h) (fun f cdv A outer s H E hr => w__law_counts T (c__law_indexes T) (c__law_low T) (c__law_polar T) (c__law_degrees T) hr) (fun vs H Q E h => p_law_counts h)
theorem len__law_worth {vs : List V} {H : Hp} {Q : VK} {E : XK} (h : ((spLW P w K) : Sp) vs H Q E) : vs.length = 2 := by first | (obtain ⟨_, _, rfl, _⟩ := h; rfl) | (obtain ⟨_, _, _, rfl, _⟩ := h; rfl) | (obtain ⟨_, _, _, _, rfl, _⟩ := h; rfl) | (obtain ⟨_, _, _, _, _, rfl, _⟩ := h; rfl) | (obtain ⟨_, _, _, _, _, _, rfl, _⟩ := h; rfl) | (obtain ⟨_, _, _, _, _, _, _, _, rfl, _⟩ := h; rfl)
theorem c__law_worth (T : Tp K mg) : Cal P w K mg base 2 "_law_worth" (spLW P w K) := cal_of (i := 46) (j := 46) T rfl rfl sc__law_worth (fun _ _ _ _ _ _ us hl => match us, hl with | [_, _], _ => rfl) (fun vs H Q E h => len__law_worth h) (fun f cdv A outer s H E hr => w__law_worth T (c__law_low T) (c__law_power T) hr) (fun vs H Q E h => p_law_worth h)
theorem len__law_mixed {vs : List V} {H : Hp} {Q : VK} {E : XK} (h : ((spMix P w K) : Sp) vs H Q E) : vs.length = 3 := by first | (obtain ⟨_, _, rfl, _⟩ := h; rfl) | (obtain ⟨_, _, _, rfl, _⟩ := h; rfl) | (obtain ⟨_, _, _, _, rfl, _⟩ := h; rfl) | (obtain ⟨_, _, _, _, _, rfl, _⟩ := h; rfl) | (obtain ⟨_, _, _, _, _, _, rfl, _⟩ := h; rfl) | (obtain ⟨_, _, _, _, _, _, _, _, rfl, _⟩ := h; rfl)
theorem c__law_mixed (T : Tp K mg) : Cal P w K mg base 2 "_law_mixed" (spMix P w K) := cal_of (i := 47) (j := 47) T rfl rfl sc__law_mixed (fun _ _ _ _ _ _ us hl => match us, hl with | [_, _, _], _ => rfl) (fun vs H Q E h => len__law_mixed h) (fun f cdv A outer s H E hr => w__law_mixed T (c__law_low T) (c__law_power T) (c__law_binomial T) hr) (fun vs H Q E h => p_mixed h)
theorem facts_law {P : Program} {w : World} {K : PySem.W.Frag} {h : Heap} {mg : Str → Option Value} {f : Addr} (X : K.In h) (G : h.Ns mainGlobals mg) (hfa : mg ("law" : Str) = some (.ref f)) (c : SaysB K) :
    ∃ fd : FuncData, (∀ (s : Shared) (v : Value), BindsTo s fd ⟨[v], []⟩ [("_law_script", v)]) ∧ ∀ base : Heap, K.In base → base.Ns mainGlobals mg → FnOk P w K mg base CX0 9 f fd ["_law_script"] (spLaw K) := by
  have T : Tp K mg := ⟨h, X, G, c⟩
  obtain ⟨fd, F⟩ := c.1.def_ 48 (d := d_law) rfl
  have e := hfa.symm.trans (T.glo_law)
  cases e
  have b := FunD.bindsA (ps := ["_law_script"]) F fun _ _ _ _ _ _ us hl => match us, hl with | [_], _ => rfl
  refine ⟨fd, fun s v => b s [v] rfl, fun base _ _ => FunD.ok F sc_law (fun vs H Q E h => ?_) fun cdv A outer s H vs Q E hr h => ⟨_, (w_law T (c_worth T) (c__law_worth T) (c__law_mixed T) (c__law_low T) (c__law_draw T) (c__law_any T) (c__law_degrees T) (c_counts_over T) (c__law_counts T) (c__law_poly T) (c__law_box T) (c__law_parts T) (c__law_hand T) hr).nox, p_law math h⟩⟩
  obtain ⟨p, ns, rfl, _⟩ := h
  rfl
end
end Bx
open PySem PySem.W PySem.Calls PyProof.Rows
theorem PySem.Challenge.cw_boxedroots_k23_whole_counts_over_boxes_holds : PySem.Challenge.rw_boxedroots_k23_whole_counts_over_boxes.Holds := by
  w_on; o_law
  refine HandSHeadRun.head_any (r := OpenLaw.row PySem.Challenge.rw_boxedroots_k23_whole_counts_over_boxes) (q := view (OpenLaw.row PySem.Challenge.rw_boxedroots_k23_whole_counts_over_boxes).prog [67]) (H := Bx.hk) (ob := Bx.ob) (M := 8000) (loose := Bx.nms) (d := HandSHeadRun.topDef (OpenLaw.row PySem.Challenge.rw_boxedroots_k23_whole_counts_over_boxes).prog 67) (kwd := []) Bx.ob_eq
    (by kernel_rfl) (fun s => by kernel_rfl) Bx.run (by kernel_rfl) (by kernel_rfl) (by kernel_rfl) (by rfl) (by first | assumption | decide +kernel) (by decide +kernel) ⟨rfl, rfl, rfl, rfl, rfl, by decide +kernel⟩ ?hw ?hc
  case hw => w_witness2
  case hc =>
    refine L2.walk_ofE (l := PySem.Challenge.rw_boxedroots_k23_whole_counts_over_boxes) (n := 63) (k := 9) (x := "_law_script") (CX := L2.CX0) rfl (by decide) (by kernel_rfl) ⟨rfl, by decide, by decide⟩ ?F (fun _ _ _ _ z => z)
    intro w mg fa h Y G hmg0
    obtain ⟨K, KX, c⟩ := Y
    have hmg : mg ("law" : PySem.Str) = some (.ref fa) := by
      have e : (HandSHeadRun.topDef (OpenLaw.row PySem.Challenge.rw_boxedroots_k23_whole_counts_over_boxes).prog 67).name = ("law" : PySem.Str) := by kernel_rfl
      rw [← e]
      exact hmg0
    obtain ⟨fd, hb, hF⟩ := Bx.facts_law (P := (PySem.Challenge.rw_boxedroots_k23_whole_counts_over_boxes).prog) (w := w) KX G hmg c
    exact ⟨K, fd, Bx.spLaw K, KX, hb, fun H a ns hl _ hS => ⟨a, ns, rfl, hS, by omega, fun _ => rfl⟩, hF⟩
