import PyProof.Rows.All
import Wide.All
import OpenK.AllK
import Wide.FinOn
import KE.HD3
import HandS.HeadHook4
import KE.KDictPairs
import HandS.DictTup
import HandS.TupSets
import KE.DataMinMax
import KE.KeyNested
import PyProof.Rows.TupTab
import HandS.List
import HandS.Dict
import HandS.ForMost
import HandS.Exc
import HandS.ExcInit
import HandS.ExcIs
import HandS.ExcField
import HandS.Deep
import HandS.IsInst
import HandS.SetFor
import HandS.Defaults
import HandS.HeadHook2
import HandS.Iter
import HandS.TryOnly
import HandS.Wide
import HandS.SortInts
import HandS.Gcd
import HandS.Conv
import HandS.Flow
import HandS.Style
import HandS.HeadHook1
import HandS.CallSlots
import HandS.ExcOwn
import HandS.WideBits
import HandS.Zip
import HandS.Text
import KE.KDictZip
import HandS.HeadEnd
import PyProof.Draws
import PyProof.EnumMake
import HandS.SortRule
import HandS.ReplaceLit
import KE.KExcIs
import KE.KStateDown
import HandS.Words
import HandS.EndBits
import PyProof.Rows.StrStep
import PySem.Challenge.RW_seenfromwithin_k83_whole_floors_drawn
section P_M0
set_option Elab.async false
set_option linter.all false
set_option maxRecDepth 100000
/-! M0: what the head's run names; the facts of the head read off the first addresses (no growing of what is reached) -/
namespace Mi
open PySem PySem.Spec PyProof.Rows L2
/-- the module's name x is the built-in id -/
def bltB (K : PySem.W.Frag) (x : Str) (id : String) : Bool := He.eqO (PySem.W.nsIn K mainGlobals x) (some (some (.builtin id)))
/-- the objects at the first n addresses -/
def frN (n : Nat) (g : Addr → Option Obj) : PySem.W.Frag := He.frT g (List.range n)
theorem frN_in {n : Nat} {h : Heap} : (frN n h.get?).In h := He.frT_in
def obsR (n : Nat) (fa : List He.Fa) (fn : List He.DefD) (ex : PySem.W.Frag → Bool) (g : Addr → Option Obj) : He.AlX := (He.obsT fa fn [] (frN n g), ex (frN n g))
def hookR (n : Nat) (fa : List He.Fa) (fn : List He.DefD) (ex : PySem.W.Frag → Bool) : PySem.W.Hook where
  α := He.AlX
  obs := fun s => obsR n fa fn ex s.heap.get?
  val := fun w => He.valX fn [] w
  says := fun w h => ∃ K : PySem.W.Frag, K.In h ∧ He.SaysX fa fn [] [] ex w h K
  of := fun _ _ e => ⟨_, frN_in, ⟨congrArg (fun z : He.AlX => z.1) e, congrArg (fun z : He.AlX => z.2) e, fun _ h => (List.not_mem_nil h).elim, fun _ h => (List.not_mem_nil h).elim, fun _ h => (List.not_mem_nil h).elim⟩⟩
  keeps := fun _ _ _ ⟨K, hK, c⟩ k => ⟨K, PySem.W.Frag.In.keeps hK k, ⟨c.t, c.more, c.hd, c.out, fun p hp => k _ _ (c.empty p hp)⟩⟩
theorem obsR_eq {n : Nat} {fa : List He.Fa} {fn : List He.DefD} {ex : PySem.W.Frag → Bool} {g : Addr → Option Obj} {s : Shared} (h : ∀ a, g a = s.heap.get? a) : obsR n fa fn ex g = (hookR n fa fn ex).obs s := by
  have e : g = s.heap.get? := funext h
  rw [e] <;> rfl
/-- the run's equation from its three looks, each by a run of its own (a run's memory is given back behind it) -/
theorem run_parts {r : PySem.W.OpenRow} {q : Program} {H : PySem.W.Hook} {ob : PySem.W.SharedT → H.α} {M : Nat} {loose : List PySem.Str} {w : World}
    (h1 : (HeadRun.wholeF (fun p => HeadRun.stepQ (HeadRun.denQ HeadRun.tabQ) p w) HeadRun.fenceQ M r.prog).map (fun x => (HeadRun.looksF r.prog x.1.heap x.2.abs, HeadRun.seenQ q loose (PySem.importedModules r.prog.main.body) (fun s => PySem.W.xlAt q [] s && PySem.W.recOk r.toRowW.records s) x.2.abs)) = some (true, PySem.W.openGood q loose))
    (h2 : (HeadRun.wholeF (fun p => HeadRun.stepQ (HeadRun.denQ HeadRun.tabQ) p w) HeadRun.fenceQ M r.prog).map (fun x => ob x.2) = some (H.val w)) : HeadRun.RunEqI r q H ob M loose w := by
  unfold HeadRun.RunEqI
  obtain ⟨x, hx, e1⟩ := Option.map_eq_some_iff.mp h1
  rw [hx] at h2 ⊢
  have e2 : ob x.2 = H.val w := Option.some.inj h2
  injection e1 with e3 e4
  show some (_, _, ob x.2) = _
  rw [e2]
  exact congrArg some (Prod.ext e3 (Prod.ext e4 rfl))
end Mi
end P_M0
section P_D1
set_option Elab.async false
set_option linter.all false
set_option maxRecDepth 100000
set_option maxHeartbeats 4000000
/-! D1: dicts whose keys are tuples of ints (also of the written part), told by their entries: dict(pairs), in, pop(key) -/
namespace DI
open PySem PySem.W PySem.Calls PyProof.Rows PyProof.V PySem.Spec L2

abbrev XS := List (List Int × Addr × Value)
def hashI (k : List Int) : Int := reduceHash (Builtin.Tuple.tupleHashOf (k.map hashInt))
def entI (x : List Int × Addr × Value) : DictEntry := ⟨hashI x.1, .ref x.2.1, x.2.2⟩
abbrev TKi (P : Program) (w : World) : HeapKind P w (List Int) := tupleKind (intKind P w)
theorem ent_eq (P : Program) (w : World) : entI = entryOfKey (TKi P w) := rfl
def DicT (xs : XS) (a : Addr) (h : Heap) : Prop := ∃ o es ep, h.get? a = some o ∧ o.ExactDict ∧ o.data = .dict es ep ∧ es.toList = xs.map entI ∧ (xs.map (·.1)).Nodup
abbrev dicO (xs : XS) (a : Addr) : HO := .ext (DicT xs a)
theorem dic_ok {P : Program} {w : World} {H : Hp} {h : Heap} {xs : XS} {a : Addr} (x : DicT xs a h) : ObjOk P w H h a (dicO xs a) := by
  refine ⟨x, ?_, fun h1 h2 q k => ?_⟩
  · obtain ⟨o, _, _, e, _⟩ := x
    exact ⟨o, e⟩
  · obtain ⟨o, es, ep, e, r⟩ := q
    exact ⟨o, es, ep, k _ e, r⟩
def Keys (K : Frag) (H : Hp) (xs : XS) : Prop := ∀ x ∈ xs, SqT K H x.2.1 (x.1.map V.int)
section
variable {X : Cx} {pins : List (Addr × Obj)} {σ : L2.St} {H : Hp} {s : Shared} {a b d : Addr} {xs : XS}
theorem items_int {prog : Program} {w : World} : ∀ {ns : List Int} {us : List Value}, Vals (ns.map V.int) us → ItemsAre (intKind prog w) ns us
  | [], _, r => by cases r; exact .nil
  | n :: ns, _, r => by
    cases r with
    | cons r1 r2 =>
      obtain ⟨t, rfl⟩ := r1
      exact .cons (by show Value.isInt n (.int n t) = true; simp [Value.isInt]) (items_int r2)
theorem key_is (I : Inv X pins σ H s) {k : List Int} (h : SqT X.K H b (k.map V.int)) : (TKi X.prog X.w).is s.heap k b := by
  obtain ⟨its, r, ⟨o, e, c, n, dt⟩, _⟩ := I.tuple h
  exact ⟨o, its.toArray, n, e, c, dt, by simpa using items_int r⟩
theorem dic_of (I : Inv X pins σ H s) (e : H a = some (dicO xs a)) (k : Keys X.K H xs) : s.heap.DictOfH (TKi X.prog X.w) a xs := by
  obtain ⟨⟨o, es, ep, h1, h2, h3, h4, h5⟩, _⟩ := (show ObjOk X.prog X.w H s.heap a (dicO xs a) from I.hok a _ e)
  exact ⟨o, es, ep, h1, h2, h3, h4, fun x hx => key_is I (k x hx), h5⟩
theorem dic_new {P : Program} {w : World} {h : Heap} (x : h.DictOfH (TKi P w) a xs) : DicT xs a h := by
  obtain ⟨o, es, ep, h1, h2, h3, h4, _, h5⟩ := x
  exact ⟨o, es, ep, h1, h2, h3, h4, h5⟩
/-- y in d -/
theorem d_inI {A : Around} {E : Value → Shared → Prop} {Q : Value → Shared → Prop} (hu : A.units + 1 < cLine) (I : Inv X pins σ H s) (hd : (a == sysModules) = false) (e : H a = some (dicO xs a)) (k : Keys X.K H xs) {ns : List Int} (hb : SqT X.K H b (ns.map V.int))
    (h : ∀ s', Inv X pins σ H s' → Q (.bool (atKey xs ns).isSome) s') : wpAny (model X.prog X.w) A (compareOp .In (.ref b) (.ref a)) Q E s :=
  wpAny_in_heap (knd := TKi X.prog X.w) (tupleKind_room_in1 hu) (key_is I hb) hd (dic_of I e k) (h _ (I.tok _))
end

section
variable {prog : Program} {w : World} {K : Type} [DecidableEq K] {knd : HeapKind prog w K}
/-- d.pop(k), there -/
theorem meetsPop1 {d b : Addr} {k : K} (hd : (d == sysModules) = false) :
    MeetsIn prog w (Builtin.«dict.pop» ⟨[.ref d, .ref b], []⟩) (fun A R s => ∃ xs, knd.room A.in1 ∧ knd.is s.heap k b ∧ s.heap.DictOfH knd d xs ∧ xs.length ≤ sizeLine ∧
      ∃ p, atKey xs k = some p ∧ ∀ h' tk, h'.DictOfH knd d (DT.dropH xs k) → Heap.SameBut d s.heap h' → R (.ok (.ret p.2)) { s with heap := h', toks := tk }) :=
  .of_wp fun A R s ⟨xs, hu, hkey, hm, hsz, p, hp, hsome⟩ => by
    obtain ⟨o, es, ep, ho, hc, hdat, he, his, hn⟩ := id hm
    have hes : es.size = xs.length := size_of_entries he
    have hpart : (keyPart (Value.ref b)).isSome = false := rfl
    unfold Builtin.«dict.pop»
    refine wpAny_bind ?_
    unfold Builtin.Dict.keyAndDefault
    refine wpAny_bind (wpAny_notOrdered_dict hm.typeIs ?_)
    show wpAny _ _ (pure (d, Value.ref b, none)) _ _ s
    refine wpAny_pure ?_
    simp only [hpart, Bool.false_eq_true, if_false]
    refine wpAny_bind (wpAny_dictEntries ho hdat (wpAny_bind (wpAny_pure ?_)))
    cases hem : es.isEmpty with
    | true =>
      exfalso
      have h0 : xs = [] := by
        have z : es.size = 0 := by simpa using hem
        exact List.length_eq_zero_iff.mp (by omega)
      rw [h0] at hp
      cases hp
    | false =>
      simp only [Bool.false_eq_true, if_false]
      refine wpAny_bind (DT.takeH hu hkey hm hsz (fun hno => ?_) fun p' e hp' hev h' hm' hs' => ?_)
      · rw [hno] at hp
        cases hp
      · rw [hp] at hp'
        cases hp'
        simp only [Option.isNone_some, Bool.false_eq_true, if_false]
        exact wpAny_bind (wpAny_letGo (wpAny_pure ⟨e.val, rfl, by rw [hev]; exact hsome h' _ hm' hs'⟩))
end
section
variable {X : Cx}
def rPop1 (K : Frag) : V → List V → Hp → VK → Prop := fun x vs H Q => ∃ (a b : Addr) (xs : XS) (ns : List Int), x = .ref a ∧ vs = [.ref b] ∧ (a == sysModules) = false ∧ H a = some (dicO xs a) ∧ Keys K H xs ∧ xs.length ≤ sizeLine ∧ (∀ x ∈ xs, x.2.2 = .bool true) ∧ SqT K H b (ns.map V.int) ∧ (atKey xs ns).isSome = true ∧
  Q (.bl true) (upd H a (dicO (DT.dropH xs ns) a))
theorem atKey_val {xs : XS} (h : ∀ x ∈ xs, x.2.2 = .bool true) {ns : List Int} {p : Addr × Value} (e : atKey xs ns = some p) : p.2 = .bool true := by
  unfold atKey at e
  obtain ⟨x, hx, rfl⟩ := Option.map_eq_some_iff.mp e
  exact h x (List.mem_of_find?_eq_some hx)
theorem mt_pop1 (hu : X.A.units + 1 < cLine) : MtR X "dict.pop" (rPop1 X.K) := by
  intro pins s σ H x vs v us Q I rx rxs h
  obtain ⟨a, b, xs, ns, rfl, rfl, hd, e, k, z, hv, hb, hs, q⟩ := h
  cases rx
  obtain ⟨u1, rfl, r1⟩ := vals1 rxs
  cases r1
  have dd := dic_of I e k
  obtain ⟨p, hp⟩ := Option.isSome_iff_exists.mp hs
  refine call_meetsIn PySem.F.slot_dict_pop dd.typeIs PySem.F.entry_dict_pop (PySem.F.args_dict_pop_2 _ _) (meetsPop1 (knd := TKi X.prog X.w) (k := ns) hd)
    ⟨xs, tupleKind_room_in1 hu, key_is I hb, dd, z, p, hp, fun h' tk dd' hs => ?_⟩
  have I2 : Inv X pins σ (upd H a (dicO (DT.dropH xs ns) a)) { s with heap := h', toks := tk } :=
    d_write I (by rw [e]; exact True.intro) hs (let ⟨q, _, _, hq, _⟩ := dd'; ⟨q, hq⟩) (dic_ok (dic_new dd'))
  rw [atKey_val hv hp]
  exact ⟨.bl true, _, I2, rfl, q⟩
end
section
variable {X : Cx}
/-- the pairs of dict(pairs) -/
inductive Prs (K : Frag) (H : Hp) : List Addr → XS → Prop
  | nil : Prs K H [] []
  | cons {p : Addr} {ps : List Addr} {k : List Int} {b : Addr} {xs : XS} : SqT K H p [.ref b, .bl true] → SqT K H b (k.map V.int) → Prs K H ps xs → Prs K H (p :: ps) ((k, b, .bool true) :: xs)
theorem Prs.length {K : Frag} {H : Hp} : ∀ {ps : List Addr} {xs : XS}, Prs K H ps xs → ps.length = xs.length
  | _, _, .nil => rfl
  | _, _, .cons _ _ r => congrArg (· + 1) r.length
theorem Prs.get {K : Frag} {H : Hp} : ∀ {ps : List Addr} {xs : XS} {i : Nat} {x : List Int × Addr × Value}, Prs K H ps xs → xs[i]? = some x → ∃ p, ps[i]? = some p ∧ SqT K H p [.ref x.2.1, .bl true] ∧ SqT K H x.2.1 (x.1.map V.int) ∧ x.2.2 = .bool true
  | _, _, i, _, .nil, e => by simp at e
  | _, _, 0, _, .cons h1 h2 _, e => by
    cases (Option.some.inj e)
    exact ⟨_, rfl, h1, h2, rfl⟩
  | _, _, i + 1, _, .cons _ _ r, e => by
    obtain ⟨p, h1, h2⟩ := Prs.get (i := i) r (by simpa using e)
    exact ⟨p, by simpa using h1, h2⟩
theorem refs_of : ∀ {ps : List Addr} {us : List Value}, Vals (ps.map V.ref) us → us = ps.map Value.ref
  | [], us, r => by cases r; rfl
  | p :: ps, us, r => by
    cases r with
    | cons h t =>
      cases h
      rw [List.map_cons, ← refs_of t]
/-- dict(xs) of a list of pairs (key, True) -/
theorem call_dictI (hc : X.calm = true) (hu : X.A.units + 2 < cLine) : CallR X (.type "dict") (fun vs H Q => ∃ (a : Addr) (ps : List Addr) (xs : XS), vs = [.ref a] ∧ SqL X.K H a (ps.map V.ref) ∧ Prs X.K H ps xs ∧
    ∀ d, H d = none → (d == sysModules) = false → Q (.ref d) (upd H d (dicO (storedAllH [] xs) d))) := by
  intro pins s σ H vs us Q I r h
  obtain ⟨a, ps, xs, rfl, hq, hp, q⟩ := h
  obtain ⟨u, rfl, rx⟩ := vals1 r
  cases rx
  obtain ⟨its, rv, pl, hz⟩ := I.list hq
  have ei := refs_of rv
  subst ei
  rw [List.length_map] at hz
  obtain ⟨o, n, ho, hcl, hd, hdat⟩ := pl
  have hl := hp.length
  have it : PairItems s.heap (ps.map Value.ref).toArray (fun j => ps.getD j 0) (xs.map fun x => (Value.ref x.2.1, x.2.2)) := by
    refine ⟨by simp [hl], fun j k v e => ?_⟩
    rw [List.getElem?_map] at e
    obtain ⟨x, hx, e2⟩ := Option.map_eq_some_iff.mp e
    obtain ⟨p, h1, h2, h3, h4⟩ := hp.get hx
    cases e2
    have eg : ps.getD j 0 = p := by rw [List.getD_eq_getElem?_getD, h1]; rfl
    refine ⟨by simp [h1], .inl ?_⟩
    obtain ⟨its, r2, ⟨ot, g1, g2, n2, g3⟩, _⟩ := I.tuple h2
    obtain ⟨u1, u2, rfl, ra, rb⟩ := vals2 r2
    cases ra
    cases rb
    show s.heap.IsTuple (ps.getD j 0) _
    rw [eg, h4]
    exact ⟨ot, g1, g2, n2, g3⟩
  have stay : KeysStay (TKi X.prog X.w) s.heap s.heap.objs.size [] xs := fun h' hk x hx => by
    obtain ⟨i, hi⟩ := List.mem_iff_getElem?.mp hx
    obtain ⟨p, _, _, h3, _⟩ := hp.get hi
    obtain ⟨o2, items, n2, g1, g2, g3, g4⟩ := key_is I h3
    exact ⟨o2, items, n2, hk _ _ (Nat.ne_of_lt (Heap.lt_size g1)) List.not_mem_nil g1, g2, g3, g4⟩
  refine call_dict_pairsH (knd := TKi X.prog X.w) (ps := xs) (PairArg.list a (ps.map Value.ref).toArray (fun j => ps.getD j 0) (xs.map fun x => (Value.ref x.2.1, x.2.2))) (I.ok.hd hc) hu ⟨⟨o, n, ho, hcl, hd, hdat⟩, it⟩ ⟨by simp, fun i key v e => ?_⟩ stay
    (by rw [List.length_map, ← hl]; exact hz) fun h' tk dd k => ?_
  · have e : (xs.map fun x => (Value.ref x.2.1, x.2.2))[i]? = some (key, v) := e
    rw [List.getElem?_map] at e
    obtain ⟨x, hx, e2⟩ := Option.map_eq_some_iff.mp e
    cases e2
    exact ⟨x.1, x.2.1, hx, rfl⟩
  · have hm : (s.heap.objs.size == sysModules) = false := beq_eq_false_iff_ne.mpr (Nat.ne_of_gt I.big)
    exact ⟨.ref s.heap.objs.size, _, I.laid (t' := tk) (fun b o e => k b o List.not_mem_nil e) (Nat.le_refl _) (dic_ok (dic_new dd)), rfl, q _ (I.hok.fresh (Nat.le_refl _)) hm⟩
end
end DI
end P_D1
section P_D2
set_option Elab.async false
set_option linter.all false
set_option maxRecDepth 100000
set_option maxHeartbeats 4000000
/-! D2: min, max of two values by their data; a key of nested tuples asked of an empty dict -/
namespace DI
open PySem PySem.W PySem.Calls PyProof.Rows PyProof.V PySem.Spec L2

section
variable {prog : Program} {w : World} {A : Around} {E : Value → Shared → Prop} {s : Shared}
theorem pick2 {a b v : Value} {x y : PyData} (f : PyData → PyData → Bool) (hP : #[a, b][argBest (fun i j => f ([x, y].getD i .none) ([x, y].getD j .none)) (#[a, b].size - 1)]? = some v) : v = if f y x = true then b else a := by
  have e : argBest (fun i j => f ([x, y].getD i .none) ([x, y].getD j .none)) (#[a, b].size - 1) = if f y x = true then 1 else 0 := by
    show argBest _ 1 = _
    simp [argBest]
  rw [e] at hP
  by_cases c : f y x = true
  · rw [if_pos c] at hP ⊢
    exact (by simpa using hP.symm)
  · rw [if_neg c] at hP ⊢
    exact (by simpa using hP.symm)
theorem min_two {a b : Value} {x y : PyData} {as : List Addr} {Q : Value → Shared → Prop} (hh : A.handled = none) (hr : ReadsAll s.heap [a, b] [x, y] as) (ha : AlikeAll [x, y]) (hu : A.units + 1 + PyData.depthAll [x, y] < cLine)
    (h : ∀ h' tk, (∀ c o, s.heap.get? c = some o → h'.get? c = some o) → Q (if dataLt y x = true then b else a) { s with heap := h', toks := tk }) :
    wpAny (model prog w) A (call (.builtin "min") [a, b]) Q E s := by
  have nm : (toString "min" ++ toString ".loop" : String) = "min.loop" := by decide
  have hT : (s.heap.push { cls := .type "tuple", data := .seq #[a, b] }).IsTuple s.heap.objs.size #[a, b] := ⟨_, Heap.get?_push_size _ rfl, rfl, 0, rfl⟩
  have k0 : ∀ c o, s.heap.get? c = some o → (s.heap.push { cls := .type "tuple", data := .seq #[a, b] }).get? c = some o := fun c o e => Heap.get?_push_of_some _ e
  refine call_function_tree F.kind_min F.plain_min F.entry_min (F.args_min2 a b) ?_
  show wpAny _ A.in1 (Builtin.Builtins.bindParams "min" ["key", "default"] 0 ⟨[], []⟩ >>= _) _ _ _
  refine wpAny_bind (wpAny_of_eq (a := [none, none]) rfl ?_)
  show wpAny _ A.in1 (newTuple [a, b] >>= _) _ _ _
  refine wpAny_bind (wpAny_newObj_type (wpAny_bind (iter_tupleW (A := A.in1) hh hT fun s₂ e W st hfp hw hk => ?_)))
  refine wpAny_bind (wpAny_newObj_type ?_)
  rw [nm]
  refine wpAny_pure ⟨plainId_quiet F.plain_min_loop _, codeAny_min_loop_firstH W s.heap (fun c o q => hw c o (k0 c o q)) _ (cmpIn_lt (A := A.in1) (vs := #[a, b]) hr ha hu) s₂.heap.objs.size (fun m => Nat.lt_irrefl _ (hfp _ m))
    (fresh_in fun c o q => hk c o (k0 c o q)) _ Nat.zero_lt_two (fun c o q => Heap.get?_push_of_some _ (hk c o (k0 c o q))) (W.frame 0 s₂ _ s₂.toks st (Nat.le_refl _) fun c _ o q => Heap.get?_push_of_some _ q) (Heap.get?_push_size _ rfl) fun v s' hP m => ?_⟩
  obtain ⟨h', tk, rfl, hk'⟩ := moved_old e rfl (Moved.drop_new (tk := s₂.toks) m (Nat.le_refl _))
  rw [pick2 dataLt hP]
  exact h h' tk fun c o q => hk' c o (k0 c o q)
theorem max_two {a b : Value} {x y : PyData} {as : List Addr} {Q : Value → Shared → Prop} (hh : A.handled = none) (hr : ReadsAll s.heap [a, b] [x, y] as) (ha : AlikeAll [x, y]) (hu : A.units + 1 + PyData.depthAll [x, y] < cLine)
    (h : ∀ h' tk, (∀ c o, s.heap.get? c = some o → h'.get? c = some o) → Q (if dataLt x y = true then b else a) { s with heap := h', toks := tk }) :
    wpAny (model prog w) A (call (.builtin "max") [a, b]) Q E s := by
  have nm : (toString "max" ++ toString ".loop" : String) = "max.loop" := by decide
  have hT : (s.heap.push { cls := .type "tuple", data := .seq #[a, b] }).IsTuple s.heap.objs.size #[a, b] := ⟨_, Heap.get?_push_size _ rfl, rfl, 0, rfl⟩
  have k0 : ∀ c o, s.heap.get? c = some o → (s.heap.push { cls := .type "tuple", data := .seq #[a, b] }).get? c = some o := fun c o e => Heap.get?_push_of_some _ e
  refine call_function_tree F.kind_max F.plain_max F.entry_max (F.args_max2 a b) ?_
  show wpAny _ A.in1 (Builtin.Builtins.bindParams "max" ["key", "default"] 0 ⟨[], []⟩ >>= _) _ _ _
  refine wpAny_bind (wpAny_of_eq (a := [none, none]) rfl ?_)
  show wpAny _ A.in1 (newTuple [a, b] >>= _) _ _ _
  refine wpAny_bind (wpAny_newObj_type (wpAny_bind (iter_tupleW (A := A.in1) hh hT fun s₂ e W st hfp hw hk => ?_)))
  refine wpAny_bind (wpAny_newObj_type ?_)
  rw [nm]
  refine wpAny_pure ⟨plainId_quiet F.plain_max_loop _, codeAny_max_loop_firstH W s.heap (fun c o q => hw c o (k0 c o q)) _ (cmpIn_gt (A := A.in1) (vs := #[a, b]) hr ha hu) s₂.heap.objs.size (fun m => Nat.lt_irrefl _ (hfp _ m))
    (fresh_in fun c o q => hk c o (k0 c o q)) _ Nat.zero_lt_two (fun c o q => Heap.get?_push_of_some _ (hk c o (k0 c o q))) (W.frame 0 s₂ _ s₂.toks st (Nat.le_refl _) fun c _ o q => Heap.get?_push_of_some _ q) (Heap.get?_push_size _ rfl) fun v s' hP m => ?_⟩
  obtain ⟨h', tk, rfl, hk'⟩ := moved_old e rfl (Moved.drop_new (tk := s₂.toks) m (Nat.le_refl _))
  rw [pick2 (fun p q => dataLt q p) hP]
  exact h h' tk fun c o q => hk' c o (k0 c o q)
end
section
variable {X : Cx}
/-- two tuples of two ints -/
def PairV (K : Frag) (H : Hp) (v : V) (p : Int × Int) : Prop := ∃ a, v = .ref a ∧ SqT K H a [.int p.1, .int p.2]
abbrev pd (p : Int × Int) : PyData := .tuple [.int p.1, .int p.2]
theorem PairV.dp {K : Frag} {H : Hp} {v : V} {p : Int × Int} (h : PairV K H v p) : Dp K H v (pd p) := by
  obtain ⟨a, rfl, h⟩ := h
  exact .tup h (.cons (.int _) (.cons (.int _) .nil))
theorem alike_pairs (p q : Int × Int) : AlikeAll [pd p, pd q] := by
  refine ⟨fun x hx y hy => ?_, fun x hx => ?_⟩
  · have hx : x = pd p ∨ x = pd q := by simpa using hx
    have hy : y = pd p ∨ y = pd q := by simpa using hy
    rcases hx with rfl | rfl <;> rcases hy with rfl | rfl <;> rfl
  · have hx : x = pd p ∨ x = pd q := by simpa using hx
    rcases hx with rfl | rfl <;> exact fun z => nomatch z
theorem depth_pairs (p q : Int × Int) : PyData.depthAll [pd p, pd q] ≤ 5 := by
  simp [PyData.depthAll, PyData.depth]
def ltPB (p q : Int × Int) : Bool := dataLt (pd p) (pd q)
def rMinPP (K : Frag) : List V → Hp → VK → Prop := fun xs H Q => ∃ x y p q, xs = [x, y] ∧ PairV K H x p ∧ PairV K H y q ∧ Q (if ltPB q p = true then y else x) H
def rMaxPP (K : Frag) : List V → Hp → VK → Prop := fun xs H Q => ∃ x y p q, xs = [x, y] ∧ PairV K H x p ∧ PairV K H y q ∧ Q (if ltPB p q = true then y else x) H
theorem cr_minPP (hc : X.calm = true) (hu : X.A.units + 10 < cLine) : CallR X (.builtin "min") (rMinPP X.K) := by
  intro pins s σ H xs us Q I r h
  obtain ⟨x, y, p, q, rfl, hx, hy, k⟩ := h
  obtain ⟨u, v, rfl, rx, ry⟩ := vals2 r
  obtain ⟨as, r1⟩ := Dp.reads I _ _ _ hx.dp rx
  obtain ⟨bs, r2⟩ := Dp.reads I _ _ _ hy.dp ry
  have d := depth_pairs p q
  refine min_two (I.ok.hd hc) (.cons r1 (.cons r2 .nil)) (alike_pairs p q) (by omega) fun h' tk kp => ?_
  refine ⟨_, H, I.kept kp, ?_, k⟩
  show RelV (if ltPB q p = true then y else x) (if ltPB q p = true then v else u)
  by_cases c : ltPB q p = true
  · rw [if_pos c, if_pos c]; exact ry
  · rw [if_neg c, if_neg c]; exact rx
theorem cr_maxPP (hc : X.calm = true) (hu : X.A.units + 10 < cLine) : CallR X (.builtin "max") (rMaxPP X.K) := by
  intro pins s σ H xs us Q I r h
  obtain ⟨x, y, p, q, rfl, hx, hy, k⟩ := h
  obtain ⟨u, v, rfl, rx, ry⟩ := vals2 r
  obtain ⟨as, r1⟩ := Dp.reads I _ _ _ hx.dp rx
  obtain ⟨bs, r2⟩ := Dp.reads I _ _ _ hy.dp ry
  have d := depth_pairs p q
  refine max_two (I.ok.hd hc) (.cons r1 (.cons r2 .nil)) (alike_pairs p q) (by omega) fun h' tk kp => ?_
  refine ⟨_, H, I.kept kp, ?_, k⟩
  show RelV (if ltPB p q = true then y else x) (if ltPB p q = true then v else u)
  by_cases c : ltPB p q = true
  · rw [if_pos c, if_pos c]; exact ry
  · rw [if_neg c, if_neg c]; exact rx
/-- (t, u) not in {} -/
def rNotIn0 (K : Frag) : R2 := fun x y H Q => ∃ (a d : Addr) (v1 v2 : V) (p q : Int × Int), x = .ref a ∧ y = .ref d ∧ SqT K H a [v1, v2] ∧ PairV K H v1 p ∧ PairV K H v2 q ∧ Rd H d (.dK []) ∧ Q (.bl true) H
theorem nested_pair {pins : List (Addr × Obj)} {σ : L2.St} {H : Hp} {s : Shared} (I : Inv X pins σ H s) {v : V} {u : Value} {p : Int × Int} (h : PairV X.K H v p) (r : RelV v u) : NestedIs s.heap (.tup [.num p.1, .num p.2]) u := by
  obtain ⟨a, rfl, h⟩ := h
  cases r
  obtain ⟨its, rv, ⟨o, e, c, n, d⟩, _⟩ := I.tuple h
  obtain ⟨u1, u2, rfl, ⟨t1, rfl⟩, ⟨t2, rfl⟩⟩ := vals2 rv
  exact .tup e c d (.cons (.int _ _) (.cons (.int _ _) .nil))
theorem op_notIn0 (hu : X.A.units + 10 < cLine) : OpR X (compareOp .NotIn) (rNotIn0 X.K) := by
  intro pins s σ H x y v u Q I rx ry h
  obtain ⟨a, d, v1, v2, p, q, rfl, rfl, ht, h1, h2, hd, k⟩ := h
  cases rx
  cases ry
  obtain ⟨its, rv, ⟨o, e, c, n, dt⟩, _⟩ := I.tuple ht
  obtain ⟨u1, u2, rfl, r1, r2⟩ := vals2 rv
  have n1 : NestedIs s.heap (.tup [.tup [.num p.1, .num p.2], .tup [.num q.1, .num q.2]]) (.ref a) := .tup e c dt (.cons (nested_pair I h1 r1) (.cons (nested_pair I h2 r2) .nil))
  obtain ⟨_, hs, vs, rel, ⟨od, es, ep, g1, g2, g3, g4, g5, g6⟩⟩ := dk_rd I.hok hd
  have ev : vs = [] := by cases rel; rfl
  subst ev
  have ee : es.toList = [] := by
    generalize es.toList = l at g5
    cases g5
    rfl
  have dd : s.heap.DictOfH (nestedKind X.prog X.w) d [] := ⟨od, es, ep, g1, g2, g3, by rw [ee]; rfl, fun _ hx => (List.not_mem_nil hx).elim, List.nodup_nil⟩
  exact wpAny_notIn_heap (knd := nestedKind X.prog X.w) (k := .tup [.tup [.num p.1, .num p.2], .tup [.num q.1, .num q.2]]) (by show X.A.units + 1 + 8 < cLine; omega) ⟨n1, by simp [NestedKey.depth, NestedKey.depthAll]⟩ hs dd ⟨.bl true, H, I.tok _, rfl, k⟩
end
end DI
end P_D2
section P_X1
set_option Elab.async false
set_option linter.all false
set_option maxRecDepth 100000
set_option maxHeartbeats 4000000
/-! X1: own exception classes below an own class; an exception kept behind its except suite; what is asked of it; count of Booleans -/
namespace Xc
open PySem PySem.Spec PyProof.Rows L2
/-- an exception's object, kept -/
def xc (cls : Value) (a : Addr) (d : Option Addr) : HO := .ext fun h => ∃ oe : Obj, h.get? a = some oe ∧ oe.cls = cls ∧ oe.dict = d ∧ ∃ vs, oe.data = .fields vs
theorem xc_ok {P : Program} {w : World} {H : Hp} {h : Heap} {a : Addr} {cls : Value} {d : Option Addr} {oe : Obj} (e : h.get? a = some oe) (hz : Zc cls d oe) (hf : ∃ vs, oe.data = .fields vs) : ObjOk P w H h a (xc cls a d) :=
  ⟨⟨oe, e, hz.1, hz.2, hf⟩, ⟨oe, e⟩, fun h1 h2 ⟨o, z, r⟩ k => ⟨o, k _ z, r⟩⟩
theorem xc_at {P : Program} {w : World} {H : Hp} {h : Heap} {a : Addr} {cls : Value} {d : Option Addr} (hok : HOk P w H h) (he : H a = some (xc cls a d)) : ∃ oe : Obj, h.get? a = some oe ∧ oe.cls = cls ∧ oe.dict = d ∧ ∃ vs, oe.data = .fields vs := by
  have x : ObjOk P w H h a (.ext fun h => ∃ oe : Obj, h.get? a = some oe ∧ oe.cls = cls ∧ oe.dict = d ∧ ∃ vs, oe.data = .fields vs) := hok a _ he
  exact x.1
section
variable {X : Cx} {pins : List (Addr × Obj)} {σ : L2.St} {H : Hp} {s sI : Shared} {a : Addr} {o : HO} {oe : Obj} {vs : Array Value}
/-- an object that stands is tracked -/
theorem track (I : Inv X pins σ H s) (na : H a = none) (he : s.heap.get? a = some oe) (hd : oe.data = .fields vs) (nL : a ≠ X.env.locals) (nF : a ∉ X.fs) (np : ∀ p ∈ X.pn ++ pins, p.1 ≠ a) (nb : ∀ ob, X.s_0.heap.get? a = some ob → X.H_0 a = none → a ∉ X.ex → False)
    (new : ObjOk X.prog X.w (upd H a o) s.heap a o) : Inv X pins σ (upd H a o) s := by
  have ne : ∀ {b : Addr} {u : HO}, H b = some u → b ≠ a := fun {b u} e z => by rw [z, na] at e; cases e
  refine ⟨I.ok, I.os, I.bare, ?_, I.loc, I.cell, ?_, fun x c hc => ?_, fun p hp => ?_, fun b u e => ?_, I.len⟩
  · refine ⟨I.base.keep, I.base.slot, fun b ob e n hx => ?_, I.base.there, fun b xs e => ?_, fun b ob u e => ?_, fun b ps e => ?_⟩
    · by_cases hb : b = a
      · subst hb; exact (nb ob e n hx).elim
      · rw [upd_ne hb]; exact I.base.free b ob e n hx
    · have := I.base.tups b xs e
      rw [upd_ne (ne this)]; exact this
    · have := I.base.frzs b ob u e
      rw [upd_ne (ne this)]; exact this
    · obtain ⟨m, q⟩ := I.base.tbls b ps e
      exact ⟨m, by rw [upd_ne (ne q)]; exact q⟩
  · rw [upd_ne (Ne.symm nL)]; exact I.free
  · have hca : c ≠ a := fun z => by
      obtain ⟨v, hv⟩ := I.cell x c hc
      obtain ⟨ob, e1, e2⟩ : ∃ ob, s.heap.get? c = some ob ∧ ∃ v, ob.data = .cell v := by
        first
          | exact ⟨_, hv, _, rfl⟩
          | (obtain ⟨ob, e1, e2, e3⟩ := hv; exact ⟨ob, e1, _, e3⟩)
          | (obtain ⟨ob, e1, e2⟩ := hv; exact ⟨ob, e1, _, e2⟩)
      rw [z, he] at e1
      cases e1
      obtain ⟨v, e2⟩ := e2
      rw [hd] at e2
      cases e2
    rw [upd_ne hca]; exact I.freeC x c hc
  · obtain ⟨p1, p2, p3, p4, p5⟩ := I.pin p hp
    exact ⟨p1, by rw [upd_ne (np p hp)]; exact p2, p3, p4, p5⟩
  · by_cases hb : b = a
    · subst hb
      rw [upd_same] at e
      cases e
      exact new
    · rw [upd_ne hb] at e
      exact (I.hok b u e).stay (fun c v _ q => q) (fun c q => by rw [upd_ne (ne q)]; exact q) fun c xs q => by rw [upd_ne (ne q)]; exact q
end

/-- what the clause 'except x as n' wishes, the exception kept behind it -/
def wKp (K : PySem.W.Frag) (c : Value) (i : Nat) (ts : Addr → Value → Option Addr → TS) (Wout : WX) (D : Ends) : WX := fun cls d σ H =>
  ∃ b, PySem.W.exmOne K cls c = some b ∧ (b = true → ∀ a, H a = none → ts a cls d { nx := fun σ' H' => H' a = none ∧ D.nx (σ'.set i none) (upd H' a (xc cls a d)), rt := fun _ _ => False, bk := fun _ _ => False, ct := fun _ _ => False } (σ.set i (some (.ref a))) H) ∧
    (b = false → Wout cls d σ H)
section
variable {X : Cx} {x n : Str} {c : Value} {i : Nat} {body suite : List Stmt} {b₀ : Stmt} {np pos pos' : Pos} {tb : WX → TS} {ts : Addr → Value → Option Addr → TS} {Wout : WX}
theorem ps_try_keep (hs : X.stack = X.env :: X.outer) (hf : X.env.frame = some X.env.locals) (hN : X.N.Nodup) (hi : X.N[i]? = some n) (hln : X.env.kindOf n = some .local) (hc : Names X x c) (tk : Takes X Wout)
    (hb : ∀ (W : WX) (pn : List (Addr × Obj)) (xe : Value → Shared → Prop), Takes (X.tr pn xe) W → PassesOwn (model X.prog X.w) X.A X.env xe → PSs (X.tr pn xe) body (tb W))
    (hsu : ∀ (a : Addr) (oe : Obj) (cls : Value) (d : Option Addr) (pn : List (Addr × Obj)), Zc cls d oe → (∃ vs, oe.data = .fields vs) → PSs (X.suite a ((a, oe) :: pn)) (b₀ :: suite) (ts a cls d)) :
    PS X (.Try body [.ExceptHandler (some (.Name x np)) (some n) (b₀ :: suite) pos'] [] [] pos) (fun D σ H => tb (wKp X.K c i ts Wout D) D σ H) := by
  refine ⟨fun pins s σ H D I h => ?_⟩
  have ok := I.ok
  have hfr : X.A.frames = some (X.env :: X.outer) := by rw [ok.frames, hs]
  have hloc : Loc X.env.scope n := .inl hln
  refine wpAny_Try_except ?_
  refine wpAny_mono ((hb (wKp X.K c i ts Wout D) (X.pn ++ pins) (fun e s₁ => wpAny (model X.prog X.w) X.A (noteFrame e X.env) (fun _ s₂ => wpAny (model X.prog X.w) X.A (setFlight e none) (fun _ s₃ =>
    wpAny (model X.prog X.w) X.A (handleBy e X.env [.ExceptHandler (some (.Name x np)) (some n) (b₀ :: suite) pos']) (SP X pins D) X.xe s₃) X.xe s₂) X.xe s₁) (fun u s' xx => ?_) PassesOwn.looking).run [] s σ H D (I.toTry _) h) (fun f s1 hsp => ?_) (fun e s1 he => he)
  · obtain ⟨a, B, sI, pins', σ', H', cls, d, rfl, J', nb, up, sky, na, os, ag, b, hb1, hyes, hno⟩ := xx
    have J : Inv X pins σ' H' sI := J'.ofTry ok
    have sky' : Sky B (X.env :: X.outer) a (Zc cls d) X.env.locals s'.heap := by rw [← hs]; exact sky
    show wpAny (model X.prog X.w) X.A (noteFrame (.ref a) X.env) _ _ _
    refine Sky.land Zc.steady hfr hf sky' fun h3 fl3 up3 => ?_
    have J3 : Inv X pins σ' H' { s' with heap := h3 } := J.landed nb fl3.1 (up.trans up3) os ag
    obtain ⟨oe3, vs3, he3, hz3, hd3⟩ := fl3.there
    have notFr : ∀ {h : Heap} {o : Obj} {vs : Array Value}, h.FunFrames B (X.env :: X.outer) → h.get? a = some o → o.data = .fields vs → a ∉ frs (X.env :: X.outer) := fun {h o vs} ff e dd hm => by
      obtain ⟨_, o', e', hnf⟩ := ff.mem hm
      rw [e] at e'; cases e'
      exact hnf _ dd
    have nfr := notFr fl3.2.2.1 he3 hd3
    have nL : a ≠ X.env.locals := fun z => nfr (List.mem_filterMap.mpr ⟨X.env, List.mem_cons_self, by rw [hf, z]⟩)
    have nF : a ∉ X.fs := fun hm => by
      obtain ⟨e, he, q⟩ := List.mem_filterMap.mp hm
      exact nfr (List.mem_filterMap.mpr ⟨e, List.mem_cons_of_mem _ he, q⟩)
    have nB : B.get? a = none := fl3.2.1
    have nI : ∀ ob, sI.heap.get? a = some ob → False := fun ob e => by
      have := nb a ob e (by rw [hs]; exact nfr)
      rw [nB] at this; cases this
    have hnp : ∀ p ∈ X.pn ++ pins, p.1 ≠ a := fun p hp z => by
      obtain ⟨p1, _⟩ := J.pin p hp
      rw [z] at p1
      exact nI _ p1
    have n0 : ∀ ob, X.s_0.heap.get? a = some ob → X.H_0 a = none → a ∉ X.ex → False := fun ob e n hx => by
      obtain ⟨sl, e2⟩ := J.base.any e n hx
      exact nI _ e2
    have S3 := J3.suite he3 hd3 na nL nF
    refine wpAny_handleBy_cons (codeAny_handlers_test ?_) (by intro q; cases q)
    have LT : PySem.W.Looks (model X.prog X.w) h3 (typeOf (.ref a)) cls := fun A Q E s k q => wpAny_typeOf_ref (k _ _ he3) (by rw [hz3.1]; exact q)
    have LM := PySem.W.exm_one (M := model X.prog X.w) (J3.kIn) LT hb1
    have test : ∀ {Q : Value → Shared → Prop} {E : Value → Shared → Prop}, Q c { s' with heap := h3 } → wpAny (model X.prog X.w) (X.A.mark (some (.ref a))) (eval (.Name x np) X.env) Q E { s' with heap := h3 } := fun {Q E} q => by
      obtain ⟨hg, hdbg, hm | ⟨hm, hv, hnn⟩⟩ := hc
      · exact ld_glob (X := X.suite a ((a, oe3) :: (X.pn ++ pins))) S3 hg hm q hdbg
      · exact ld_blt (X := X.suite a ((a, oe3) :: (X.pn ++ pins))) S3 hg hm hv q hnn hdbg
    refine test (LM.here ?_)
    cases b with
    | true =>
      refine codeAny_handlers_suite_as ?_
      refine HandSPX.lands_againZ fl3 fun h4 fl4 up4 => ?_
      have J4 : Inv X pins σ' H' { s' with heap := h4 } := J.landed nb fl4.1 ((up.trans up3).trans up4) os ag
      obtain ⟨oe4, vs4, he4, hz4, hd4⟩ := fl4.there
      have S4 := J4.suite he4 hd4 na nL nF
      refine store_ok (X := X.suite a ((a, oe4) :: (X.pn ++ pins))) (v := .ref a) S4 hN hi hloc rfl (fun s5 S5 => ?_) (.inr hln)
      refine wpAny_mono ((hsu a oe4 cls d (X.pn ++ pins) hz4 ⟨_, hd4⟩).run [] s5 _ H' _ S5 (hyes rfl a na)) (fun f s6 hsp => ?_) (fun _ _ z => False.elim z)
      cases f with
      | next =>
        obtain ⟨σ6, H6, S6, n6, q6⟩ := hsp
        obtain ⟨p6, _⟩ := S6.pin (a, oe4) (List.mem_append_left _ List.mem_cons_self)
        have U6 : Inv X pins σ6 H6 s6 := S6.unsuite ok
        have T6 := track (o := xc cls a d) U6 n6 p6 hd4 nL nF hnp n0 (xc_ok p6 hz4 ⟨_, hd4⟩)
        exact gone_ok T6 hN hi hln fun s7 J7 => ⟨_, _, J7, q6⟩
      | brk =>
        obtain ⟨σ6, H6, S6, q6⟩ := hsp
        exact q6.elim
      | cont =>
        obtain ⟨σ6, H6, S6, q6⟩ := hsp
        exact q6.elim
      | ret u =>
        obtain ⟨v6, σ6, H6, S6, r6, q6⟩ := hsp
        exact q6.elim
    | false =>
      show wpAny _ X.A (handleBy (.ref a) X.env []) _ _ _
      refine wpAny_handleBy_nil ?_
      obtain ⟨k1, k2, k3, oe, vs, T, oT, ts', he, hz, hd, h1, hr⟩ := id fl3
      unfold PySem.passOn
      refine wpAny_bind (wpAny_field he hd h1 ?_)
      rw [if_neg (show ¬ ((Value.ref T == Value.none) = true) from by simp)]
      have fin : wpAny (model X.prog X.w) X.A (setFlight (.ref a) X.env.frame) (fun _ s4 => wpAny (model X.prog X.w) X.A (throw (.ref a) : Sem Flow) (SP X pins D) X.xe s4) X.xe { s' with heap := h3 } := by
        rw [hf]
        refine HandSPX.setFlight_upZ fl3 fun h4 hh4 up4 => wpAny_throw (tk _ _ ?_)
        exact ⟨a, B, sI, pins, σ', H', cls, d, rfl, J, nb, (up.trans up3).trans up4, .inr (.inr (by rw [hs]; exact hh4)), na, os, ag, hno rfl⟩
      first
        | exact wpAny_bind (wpAny_pure (wpAny_bind fin))
        | exact wpAny_bind fin
  · cases f with
    | next =>
      obtain ⟨σ', H', J', q⟩ := hsp
      exact wpAny_execs_nil ⟨σ', H', J'.ofTry ok, q⟩
    | brk =>
      obtain ⟨σ', H', J', q⟩ := hsp
      exact ⟨σ', H', J'.ofTry ok, q⟩
    | cont =>
      obtain ⟨σ', H', J', q⟩ := hsp
      exact ⟨σ', H', J'.ofTry ok, q⟩
    | ret u =>
      obtain ⟨v, σ', H', J', r, q⟩ := hsp
      exact ⟨v, σ', H', J'.ofTry ok, r, q⟩
end
/-- a thing that e has just made is locked for good -/
theorem pe_frz {X : Cx} {e : Expr} {t : TE} (h : PE X e t) : PE X e (fun σ H Q => t σ H fun v H1 => ∃ d u, v = .ref d ∧ H1 d = some u ∧ Mut (some u) ∧ ∀ od, Q v (upd H1 d (.frz od u))) := by
  refine ⟨fun pins s σ H Q I hw => ?_⟩
  refine thn (h.run pins s σ H _ I hw) fun v s1 ⟨x, H1, I2, r, d, u, e2, hd, mu, q⟩ => ?_
  obtain ⟨od, I3⟩ := I2.lock hd mu
  exact ⟨x, _, I3, r, q od⟩
/-! ### all dicts locked while a def runs -/
def lk (H : Hp) (os : Addr → Obj) : Hp := fun b => match H b with
  | some (.dK kvs) => some (.frz (os b) (.dK kvs))
  | some (.dT kvs) => some (.frz (os b) (.dT kvs))
  | o => o
def ul (H H' : Hp) : Hp := fun b => match H b with
  | some (.dK kvs) => some (.dK kvs)
  | some (.dT kvs) => some (.dT kvs)
  | _ => H' b
section
variable {H H' : Hp} {os : Addr → Obj} {b : Addr}
theorem lk_none : lk H os b = none ↔ H b = none := by
  unfold lk
  split
  · rename_i h; rw [h]; exact ⟨fun z => (nomatch z), fun z => (nomatch z)⟩
  · rename_i h; rw [h]; exact ⟨fun z => (nomatch z), fun z => (nomatch z)⟩
  · exact Iff.rfl
theorem lk_K {kvs : List (Key × V)} (h : H b = some (.dK kvs)) : lk H os b = some (.frz (os b) (.dK kvs)) := by unfold lk; rw [h]
theorem lk_T {kvs : List (List Key × V)} (h : H b = some (.dT kvs)) : lk H os b = some (.frz (os b) (.dT kvs)) := by unfold lk; rw [h]
def NoD : HO → Prop
  | .dK _ => False
  | .dT _ => False
  | _ => True
theorem lk_o {o : HO} (h : H b = some o) (n : NoD o) : lk H os b = some o := by
  unfold lk
  split
  · rename_i q; rw [h] at q; cases q; exact n.elim
  · rename_i q; rw [h] at q; cases q; exact n.elim
  · exact h
theorem ul_K {kvs : List (Key × V)} (h : H b = some (.dK kvs)) : ul H H' b = some (.dK kvs) := by unfold ul; rw [h]
theorem ul_T {kvs : List (List Key × V)} (h : H b = some (.dT kvs)) : ul H H' b = some (.dT kvs) := by unfold ul; rw [h]
theorem ul_o (h : ∀ o, H b = some o → NoD o) : ul H H' b = H' b := by
  unfold ul
  split
  · rename_i q; exact (h _ q).elim
  · rename_i q; exact (h _ q).elim
  · rfl
end
theorem lk_ok {P : Program} {w : World} {H : Hp} {h : Heap} (ok : HOk P w H h) : ∃ os, HOk P w (lk H os) h := by
  classical
  refine ⟨fun b => (h.get? b).getD { cls := .none, data := .plain }, fun b o e => ?_⟩
  have own : ∀ c, H c = some (.own b) → lk H (fun b => (h.get? b).getD { cls := .none, data := .plain }) c = some (.own b) := fun c q => lk_o q trivial
  have tup : ∀ c xs, H c = some (.tup xs) → lk H (fun b => (h.get? b).getD { cls := .none, data := .plain }) c = some (.tup xs) := fun c xs q => lk_o q trivial
  cases q : H b with
  | none => rw [lk_none.mpr q] at e; cases e
  | some u =>
    have x := ok b u q
    have st := x.stay (h' := h) (H' := lk H (fun b => (h.get? b).getD { cls := .none, data := .plain })) (fun _ _ _ z => z) own tup
    cases u with
    | dK kvs =>
      rw [lk_K q] at e
      cases e
      obtain ⟨_, _, _, _, ob, _, _, e1, _⟩ := x
      exact ⟨by rw [e1]; rfl, st⟩
    | dT kvs =>
      rw [lk_T q] at e
      cases e
      obtain ⟨_, _, _, _, ob, _, _, e1, _⟩ := x
      exact ⟨by rw [e1]; rfl, st⟩
    | _ =>
      rw [lk_o q trivial] at e
      cases e
      exact st
theorem FnOk.lock {P : Program} {w : World} {K : PySem.W.Frag} {mg : Str → Option Value} {base : Heap} {k : Nat} {f : Addr} {fd : FuncData} {ps : List Str} {sp : Sp} (F : FnOk P w K mg base (L2.CX P w) k f fd ps sp) :
    FnOk P w K mg base (L2.CX P w) k f fd ps fun vs H Q E => vs.length = ps.length ∧ ∀ os, sp vs (lk H os) (fun v H' => Q v (ul H H')) (fun _ _ _ => False) := by
  refine ⟨fun vs H Q E q => q.1, fun A outer s H args us vs Q E hr he hb hv q => ?_⟩
  obtain ⟨os, ok⟩ := lk_ok he.hok
  have he' : Env0 P w K mg base A outer s (lk H os) := ⟨he.frames, he.mod, fun b o e => ⟨(he.bs b o e).1, lk_none.mpr (he.bs b o e).2⟩, he.bsz, he.funs, fun b h => lk_none.mpr (he.frf b h), ok, he.bare⟩
  refine codeAny_mono (F.run A outer s (lk H os) args us vs _ _ hr he' hb hv (q.2 os)) fun r s' c => ?_
  cases r with
  | error e =>
    obtain ⟨a, B, H', cls, d, _, _, _, _, _, _, _, z⟩ := c
    exact z.elim
  | ok fl =>
    cases fl with
    | ret u =>
      obtain ⟨v, H', e1, e2, un, hok, rv, qv⟩ := c
      have K1 : ∀ {b : Addr} {kvs}, H b = some (.dK kvs) → H' b = some (.frz (os b) (.dK kvs)) := fun {b kvs} h => un.frzs b _ _ (lk_K h)
      have T1 : ∀ {b : Addr} {kvs}, H b = some (.dT kvs) → H' b = some (.frz (os b) (.dT kvs)) := fun {b kvs} h => un.frzs b _ _ (lk_T h)
      have keep : ∀ {c : Addr} {o : HO}, H' c = some o → (∀ ob u, o ≠ .frz ob u) → ul H H' c = some o := fun {c o} h n => by
        rw [ul_o fun o2 h2 => ?_]
        · exact h
        · cases o2 with
          | dK kvs => rw [K1 h2] at h; cases h; exact n _ _ rfl
          | dT kvs => rw [T1 h2] at h; cases h; exact n _ _ rfl
          | _ => trivial
      refine ⟨v, ul H H', e1, e2, ⟨fun b o h n => un.keep b o h (lk_none.mpr n), fun b o h n => un.slot b o h (lk_none.mpr n), fun b o h n hx => ?_, un.there, fun b xs h => ?_, fun b o u h => ?_, fun b ps h => ?_⟩, fun b o h => ?_, rv, qv⟩
      · rw [ul_o fun o h => by rw [n] at h; cases h]
        exact un.free b o h (lk_none.mpr n) hx
      · exact keep (un.tups b xs (lk_o h trivial)) fun _ _ z => nomatch z
      · rw [ul_o fun o2 h2 => by rw [h] at h2; cases h2; trivial]
        exact un.frzs b o u (lk_o h trivial)
      · obtain ⟨m, q⟩ := un.tbls b ps (lk_o h trivial)
        exact ⟨m, keep q fun _ _ z => nomatch z⟩
      · have own : ∀ c, H' c = some (.own b) → ul H H' c = some (.own b) := fun c q => keep q fun _ _ z => nomatch z
        have tup : ∀ c xs, H' c = some (.tup xs) → ul H H' c = some (.tup xs) := fun c xs q => keep q fun _ _ z => nomatch z
        cases q : H b with
        | none =>
          rw [ul_o fun o h => by rw [q] at h; cases h] at h
          exact (hok b o h).stay (fun _ _ _ z => z) own tup
        | some u =>
          cases u with
          | dK kvs =>
            rw [ul_K q] at h
            cases h
            obtain ⟨_, x⟩ := hok b _ (K1 q)
            exact x.stay (fun _ _ _ z => z) own tup
          | dT kvs =>
            rw [ul_T q] at h
            cases h
            obtain ⟨_, x⟩ := hok b _ (T1 q)
            exact x.stay (fun _ _ _ z => z) own tup
          | _ =>
            rw [ul_o fun o h => by rw [q] at h; cases h; trivial] at h
            exact (hok b o h).stay (fun _ _ _ z => z) own tup
    | next => exact False.elim c
    | brk => exact False.elim c
    | cont => exact False.elim c
end Xc
end P_X1
section P_M1
set_option Elab.async false
set_option linter.all false
set_option maxRecDepth 100000
set_option maxHeartbeats 4000000
/-! M1: plain values over HandS: what a value is, the relation to the abstract heap, how it stays. -/
namespace Mi
open PySem PySem.Spec PyProof.Rows L2

abbrev Kf := PySem.W.Frag
/-- a value: lists and tuples as data; ref: an object of the small heap -/
inductive MV where
  | non | bl (b : Bool) | int (i : Int) | str (s : List Nat)
  | tup (xs : List MV) | lst (xs : List MV) | dic (ks : List (Key × MV)) | dit (ks : List (List Key × MV)) | ref (n : Nat) | exc (c : Str) (v : MV) | scr (xs : List MV)
  deriving Inhabited
/-- an object of the small heap: a list; a dict, keys ints and texts; a dict, keys tuples of them; a dict of int tuples to True, told by its entries; an instance -/
inductive MO where
  | lst (xs : List MV)
  | dic (ks : List (Key × MV))
  | dit (ks : List (List Key × MV))
  | cel (ks : List (List Int))
  | ins (c : Str) (fs : List (Str × MV))
/-- the value of an exception that has no field -/
def noV : MV := .exc Str.empty .non
structure MH where
  nx : Nat
  get : Nat → Option MO
inductive Res (α : Type) where
  | ok (a : α) (h : MH) | ex (c : Str) (v : MV) (h : MH) | no
inductive SV where
  | un | val (m : MV) | own (xs : List MV)
  deriving Inhabited
abbrev Sl := List SV
inductive Fl where
  | nx (σ : Sl) (h : MH) | rt (v : MV) (h : MH) | bk (σ : Sl) (h : MH) | ct (σ : Sl) (h : MH) | ex (c : Str) (v : MV) (σ : Sl) (h : MH) | no
/-- the ghosts: which addresses are frozen, where the small heap's objects stand, how many there are -/
structure Gh where
  F : Addr → Prop
  ρ : Nat → Addr
  N : Nat
def Gh.fz (g : Gh) (p : Addr) : Gh := { g with F := fun b => g.F b ∨ b = p }

/-- a tuple of the written part -/
def WrT (K : Kf) (a : Addr) (vs : List V) : Prop := ∃ (o : Obj) (its : Array Value) (n : Nat), K.lookup a = some o ∧ o.cls = .type "tuple" ∧ o.data = .seq its n ∧ its.size ≤ sizeLine ∧ Vals vs its.toList
/-- a list of the written part -/
def WrL (K : Kf) (a : Addr) (vs : List V) : Prop := ∃ (o : Obj) (its : Array Value) (n : Nat), K.lookup a = some o ∧ o.cls = .type "list" ∧ o.dict = none ∧ o.data = .seq its n ∧ its.size ≤ sizeLine ∧ Vals vs its.toList
/-- an exception's object -/
abbrev xcO (K : Kf) (c : Str) (a : Addr) (d : Option Addr) : HO := Xc.xc (.ref (He.ga K c)) a d
mutual
inductive RV (K : Kf) (g : Gh) (H : Hp) : MV → V → Prop
  | non : RV K g H .non .non
  | bl (b : Bool) : RV K g H (.bl b) (.bl b)
  | int (i : Int) : RV K g H (.int i) (.int i)
  | str (s : List Nat) : RV K g H (.str s) (.str ⟨s.toArray⟩)
  | tup {a : Addr} {vs : List V} {xs : List MV} : g.F a → H a = some (.tup vs) → xs.length ≤ sizeLine → RVs K g H xs vs → RV K g H (.tup xs) (.ref a)
  | tupK {a : Addr} {vs : List V} {xs : List MV} : WrT K a vs → RVs K g H xs vs → RV K g H (.tup xs) (.ref a)
  | lst {a : Addr} {vs : List V} {xs : List MV} : g.F a → H a = some (.lst vs) → xs.length ≤ sizeLine → RVs K g H xs vs → RV K g H (.lst xs) (.ref a)
  | scr {a : Addr} {vs : List V} {xs : List MV} : ((g.F a ∧ ∃ o, H a = some (.frz o (.lst vs))) ∨ WrL K a vs) → xs.length ≤ sizeLine → RVs K g H xs vs → RV K g H (.scr xs) (.ref a)
  | dic {a : Addr} {o : Obj} {kvs : List (Key × V)} {ks : List (Key × MV)} : g.F a → H a = some (.frz o (.dK kvs)) → RKs K g H ks kvs → RV K g H (.dic ks) (.ref a)
  | dit {a : Addr} {o : Obj} {kvs : List (List Key × V)} {ks : List (List Key × MV)} : g.F a → H a = some (.frz o (.dT kvs)) → ks.map (·.1) = kvs.map (·.1) → RVs K g H (ks.map (·.2)) (kvs.map (·.2)) → RV K g H (.dit ks) (.ref a)
  | ref (n : Nat) : n < g.N → RV K g H (.ref n) (.ref (g.ρ n))
  | exc {a dd : Addr} {c : Str} {m : MV} {v : V} : g.F a → H a = some (xcO K c a (some dd)) → g.F dd → H dd = some (.xd [("value", v)]) → RV K g H m v → RV K g H (.exc c m) (.ref a)
  | exc0 {a : Addr} {c : Str} : g.F a → H a = some (xcO K c a none) → RV K g H (.exc c noV) (.ref a)
inductive RVs (K : Kf) (g : Gh) (H : Hp) : List MV → List V → Prop
  | nil : RVs K g H [] []
  | cons {x : MV} {v : V} {xs : List MV} {vs : List V} : RV K g H x v → RVs K g H xs vs → RVs K g H (x :: xs) (v :: vs)
inductive RKs (K : Kf) (g : Gh) (H : Hp) : List (Key × MV) → List (Key × V) → Prop
  | nil : RKs K g H [] []
  | cons {k : Key} {x : MV} {v : V} {ks : List (Key × MV)} {kvs : List (Key × V)} : RV K g H x v → RKs K g H ks kvs → RKs K g H ((k, x) :: ks) ((k, v) :: kvs)
end
section
variable {K : Kf} {g g' : Gh} {H H' : Hp}
/-- what a value's reading leans on stays -/
structure Up (g : Gh) (H : Hp) (g' : Gh) (H' : Hp) : Prop where
  n : g.N ≤ g'.N
  rho : ∀ n, n < g.N → g'.ρ n = g.ρ n
  f1 : ∀ b, g.F b → g'.F b
  hp : ∀ b o, g.F b → H b = some o → H' b = some o
mutual
theorem RV.up (u : Up g H g' H') : ∀ {m : MV} {v : V}, RV K g H m v → RV K g' H' m v
  | _, _, .non => .non
  | _, _, .bl b => .bl b
  | _, _, .int i => .int i
  | _, _, .str s => .str s
  | _, _, .tup f h z r => .tup (u.f1 _ f) (u.hp _ _ f h) z (RVs.up u r)
  | _, _, .tupK w r => .tupK w (RVs.up u r)
  | _, _, .lst f h z r => .lst (u.f1 _ f) (u.hp _ _ f h) z (RVs.up u r)
  | _, _, .scr h z r => .scr (by
      rcases h with ⟨f, o, h⟩ | h
      · exact .inl ⟨u.f1 _ f, o, u.hp _ _ f h⟩
      · exact .inr h) z (RVs.up u r)
  | _, _, .dic f h r => .dic (u.f1 _ f) (u.hp _ _ f h) (RKs.up u r)
  | _, _, .dit f h e r => .dit (u.f1 _ f) (u.hp _ _ f h) e (RVs.up u r)
  | _, _, .ref n h => by
      have e := u.rho n h
      rw [← e]
      exact .ref n (Nat.lt_of_lt_of_le h u.n)
  | _, _, .exc f h f2 h2 r => .exc (u.f1 _ f) (u.hp _ _ f h) (u.f1 _ f2) (u.hp _ _ f2 h2) (RV.up u r)
  | _, _, .exc0 f h => .exc0 (u.f1 _ f) (u.hp _ _ f h)
theorem RVs.up (u : Up g H g' H') : ∀ {xs : List MV} {vs : List V}, RVs K g H xs vs → RVs K g' H' xs vs
  | _, _, .nil => .nil
  | _, _, .cons r rs => .cons (RV.up u r) (RVs.up u rs)
theorem RKs.up (u : Up g H g' H') : ∀ {xs : List (Key × MV)} {vs : List (Key × V)}, RKs K g H xs vs → RKs K g' H' xs vs
  | _, _, .nil => .nil
  | _, _, .cons r rs => .cons (RV.up u r) (RKs.up u rs)
end
theorem Up.refl : Up g H g H := ⟨Nat.le_refl _, fun _ _ => rfl, fun _ h => h, fun _ _ _ h => h⟩
theorem RVs.length : ∀ {xs : List MV} {vs : List V}, RVs K g H xs vs → xs.length = vs.length
  | _, _, .nil => rfl
  | _, _, .cons _ rs => congrArg (· + 1) rs.length
theorem RVs.get : ∀ {xs : List MV} {vs : List V} {i : Nat} {m : MV}, RVs K g H xs vs → xs[i]? = some m → ∃ v, vs[i]? = some v ∧ RV K g H m v
  | _, _, _, _, .nil, e => by simp at e
  | _, _, 0, _, .cons r _, e => by simp at e; subst e; exact ⟨_, rfl, r⟩
  | _, _, i + 1, _, .cons _ rs, e => by
    obtain ⟨v, h1, h2⟩ := RVs.get (i := i) rs (by simpa using e)
    exact ⟨v, by simpa using h1, h2⟩
theorem RVs.get' : ∀ {xs : List MV} {vs : List V} {i : Nat} {v : V}, RVs K g H xs vs → vs[i]? = some v → ∃ m, xs[i]? = some m ∧ RV K g H m v
  | _, _, _, _, .nil, e => by simp at e
  | _, _, 0, _, .cons r _, e => by simp at e; subst e; exact ⟨_, rfl, r⟩
  | _, _, i + 1, _, .cons _ rs, e => by
    obtain ⟨v, h1, h2⟩ := RVs.get' (i := i) rs (by simpa using e)
    exact ⟨v, by simpa using h1, h2⟩
theorem RVs.append : ∀ {xs ys : List MV} {vs ws : List V}, RVs K g H xs vs → RVs K g H ys ws → RVs K g H (xs ++ ys) (vs ++ ws)
  | _, _, _, _, .nil, s => s
  | _, _, _, _, .cons r t, s => .cons r (RVs.append t s)
theorem RVs.take : ∀ {xs : List MV} {vs : List V} (n : Nat), RVs K g H xs vs → RVs K g H (xs.take n) (vs.take n)
  | _, _, 0, _ => .nil
  | _, _, _ + 1, .nil => .nil
  | _, _, n + 1, .cons r t => .cons r (RVs.take n t)
theorem RVs.drop : ∀ {xs : List MV} {vs : List V} (n : Nat), RVs K g H xs vs → RVs K g H (xs.drop n) (vs.drop n)
  | _, _, 0, r => r
  | _, _, _ + 1, .nil => .nil
  | _, _, n + 1, .cons _ t => RVs.drop n t
theorem RVs.reverse {xs : List MV} {vs : List V} (r : RVs K g H xs vs) : RVs K g H xs.reverse vs.reverse := by
  have go : ∀ {xs : List MV} {vs : List V}, RVs K g H xs vs → RVs K g H xs.reverse vs.reverse := by
    intro xs
    induction xs with
    | nil => intro vs r; cases r; exact .nil
    | cons x xs ih =>
      intro vs r
      cases r with
      | cons r rs =>
        rw [List.reverse_cons, List.reverse_cons]
        exact (ih rs).append (.cons r .nil)
  exact go r
theorem RVs.set {x : MV} {v : V} (r : RV K g H x v) : ∀ {xs : List MV} {vs : List V} (i : Nat), RVs K g H xs vs → RVs K g H (xs.set i x) (vs.set i v)
  | _, _, _, .nil => .nil
  | _, _, 0, .cons _ t => .cons r t
  | _, _, i + 1, .cons q t => .cons q (RVs.set r i t)
theorem RVs.ints : ∀ {ns : List Int}, RVs K g H (ns.map MV.int) (ns.map V.int)
  | [] => .nil
  | n :: _ => .cons (.int n) RVs.ints
theorem RVs.strs : ∀ {ns : List (List Nat)}, RVs K g H (ns.map MV.str) (ns.map fun s => V.str ⟨s.toArray⟩)
  | [] => .nil
  | n :: _ => .cons (.str n) RVs.strs
end

/-! ### the small heap -/
def Live (g : Gh) (hm : MH) (b : Addr) : Prop := ∃ n, hm.get n ≠ none ∧ g.ρ n = b
/-- the entries of a told dict -/
def CelX (K : Kf) (g : Gh) (H : Hp) (ks : List (List Int)) (xs : DI.XS) : Prop := xs.map (·.1) = ks ∧ ∀ x ∈ xs, x.2.2 = .bool true ∧ RV K g H (.tup (x.1.map .int)) (.ref x.2.1)
def RO (K : Kf) (g : Gh) (H : Hp) (a : Addr) : MO → Prop
  | .lst xs => xs.length ≤ sizeLine ∧ ∃ vs, H a = some (.lst vs) ∧ RVs K g H xs vs
  | .dic ks => ∃ kvs, H a = some (.dK kvs) ∧ RKs K g H ks kvs
  | .dit ks => ∃ kvs, H a = some (.dT kvs) ∧ ks.map (·.1) = kvs.map (·.1) ∧ RVs K g H (ks.map (·.2)) (kvs.map (·.2))
  | .cel ks => ks.length ≤ sizeLine ∧ (a == sysModules) = false ∧ ∃ xs, H a = some (DI.dicO xs a) ∧ CelX K g H ks xs
  | .ins c fs => ∃ dx vs, H a = some (.ins (He.ga K c) dx vs) ∧ fs.map (·.1) = vs.map (·.1) ∧ RVs K g H (fs.map (·.2)) (vs.map (·.2))
structure Rel (K : Kf) (g : Gh) (hm : MH) (H : Hp) : Prop where
  nx : g.N = hm.nx
  lt : ∀ n, hm.get n ≠ none → n < hm.nx
  inj : ∀ n m, hm.get n ≠ none → hm.get m ≠ none → g.ρ n = g.ρ m → n = m
  nf : ∀ n, hm.get n ≠ none → ¬ g.F (g.ρ n)
  ob : ∀ n o, hm.get n = some o → RO K g H (g.ρ n) o
  fs : ∀ b, g.F b → H b ≠ none
theorem RO.has {K : Kf} {g : Gh} {H : Hp} {a : Addr} : ∀ {o : MO}, RO K g H a o → H a ≠ none
  | .lst _, ⟨_, _, h, _⟩ => by rw [h]; intro z; cases z
  | .dic _, ⟨_, h, _⟩ => by rw [h]; intro z; cases z
  | .dit _, ⟨_, h, _⟩ => by rw [h]; intro z; cases z
  | .cel _, ⟨_, _, _, h, _⟩ => by rw [h]; intro z; cases z
  | .ins _ _, ⟨_, _, h, _⟩ => by rw [h]; intro z; cases z
theorem RO.up {K : Kf} {g g' : Gh} {H H' : Hp} {a : Addr} (u : Up g H g' H') (h : ∀ o, H a = some o → H' a = some o) : ∀ {o : MO}, RO K g H a o → RO K g' H' a o
  | .lst _, ⟨z, vs, e, r⟩ => ⟨z, vs, h _ e, r.up u⟩
  | .dic _, ⟨vs, e, r⟩ => ⟨vs, h _ e, r.up u⟩
  | .dit _, ⟨vs, e, q, r⟩ => ⟨vs, h _ e, q, r.up u⟩
  | .cel _, ⟨z, b, xs, e, q, r⟩ => ⟨z, b, xs, h _ e, q, fun x hx => ⟨(r x hx).1, (r x hx).2.up u⟩⟩
  | .ins _ _, ⟨dx, vs, e, q, r⟩ => ⟨dx, vs, h _ e, q, r.up u⟩

/-- what a piece of code leaves -/
structure Ext (K : Kf) (g : Gh) (hm : MH) (H : Hp) (g' : Gh) (hm' : MH) (H' : Hp) : Prop where
  n : g.N ≤ g'.N
  rho : ∀ n, n < g.N → g'.ρ n = g.ρ n
  f1 : ∀ b, g.F b → g'.F b
  f2 : ∀ b, g'.F b → g.F b ∨ H b = none
  keep : ∀ b o, H b = some o → ¬ Live g hm b → H' b = some o
  stay : ∀ b, H b ≠ none → H' b ≠ none
  fresh : ∀ n, g.N ≤ n → n < g'.N → H (g'.ρ n) = none
  live : ∀ n, n < g.N → hm'.get n ≠ none → hm.get n ≠ none
  rel : Rel K g' hm' H'
section
variable {K : Kf} {g g' g'' : Gh} {hm hm' hm'' : MH} {H H' H'' : Hp}
theorem Rel.notlive (r : Rel K g hm H) {b : Addr} (f : g.F b) : ¬ Live g hm b := fun ⟨n, h, e⟩ => r.nf n h (e ▸ f)
theorem Ext.up (r : Rel K g hm H) (e : Ext K g hm H g' hm' H') : Up g H g' H' :=
  ⟨e.n, e.rho, e.f1, fun b o f h => e.keep b o h (r.notlive f)⟩
theorem Ext.refl (r : Rel K g hm H) : Ext K g hm H g hm H :=
  ⟨Nat.le_refl _, fun _ _ => rfl, fun _ h => h, fun _ h => .inl h, fun _ _ h _ => h, fun _ h => h, fun n h1 h2 => absurd (Nat.lt_of_lt_of_le h2 h1) (Nat.lt_irrefl _), fun _ _ h => h, r⟩
theorem Ext.live' (r : Rel K g hm H) (e : Ext K g hm H g' hm' H') {b : Addr} (hb : H b ≠ none) (l : Live g' hm' b) : Live g hm b := by
  obtain ⟨n, h, rfl⟩ := l
  have hn := e.rel.lt n h
  rw [← e.rel.nx] at hn
  by_cases c : n < g.N
  · exact ⟨n, e.live n c h, (e.rho n c).symm⟩
  · exact absurd (e.fresh n (Nat.le_of_not_lt c) hn) hb
theorem Ext.trans (r : Rel K g hm H) (a : Ext K g hm H g' hm' H') (b : Ext K g' hm' H' g'' hm'' H'') : Ext K g hm H g'' hm'' H'' where
  n := Nat.le_trans a.n b.n
  rho := fun n h => (b.rho n (Nat.lt_of_lt_of_le h a.n)).trans (a.rho n h)
  f1 := fun c h => b.f1 c (a.f1 c h)
  f2 := fun c h => by
    rcases b.f2 c h with h | h
    · exact a.f2 c h
    · refine .inr ?_
      cases q : H c with
      | none => rfl
      | some o => exact absurd h (a.stay c (by rw [q]; intro z; cases z))
  keep := fun c o h l => b.keep c o (a.keep c o h l) fun l' => l (a.live' r (by rw [h]; intro z; cases z) l')
  stay := fun c h => b.stay c (a.stay c h)
  fresh := fun n h1 h2 => by
    by_cases c : n < g'.N
    · rw [b.rho n c]; exact a.fresh n h1 c
    · have q := b.fresh n (Nat.le_of_not_lt c) h2
      cases e : H (g''.ρ n) with
      | none => rfl
      | some o => exact absurd q (a.stay _ (by rw [e]; intro z; cases z))
  live := fun n h1 h2 => a.live n h1 (b.live n (Nat.lt_of_lt_of_le h1 a.n) h2)
  rel := b.rel
/-- a new object is laid, and frozen -/
theorem Ext.fz (r : Rel K g hm H) {p : Addr} {o : HO} (hp : H p = none) : Ext K g hm H (g.fz p) hm (upd H p o) := by
  have u : Up g H (g.fz p) (upd H p o) := ⟨Nat.le_refl _, fun _ _ => rfl, fun _ h => .inl h, fun b w _ h => by rw [upd_ne (ne_of_none h hp)]; exact h⟩
  have pn : ∀ n, hm.get n ≠ none → g.ρ n ≠ p := fun n h e => by
    cases q : hm.get n with
    | none => exact h q
    | some w => exact (r.ob n w q).has (e ▸ hp)
  refine ⟨Nat.le_refl _, fun _ _ => rfl, fun _ h => .inl h, fun b h => ?_, fun b w h _ => by rw [upd_ne (ne_of_none h hp)]; exact h, fun b h => ?_, fun n h1 h2 => absurd (Nat.lt_of_lt_of_le h2 h1) (Nat.lt_irrefl _), fun _ _ h => h, ?_⟩
  · rcases h with h | h
    · exact .inl h
    · exact .inr (h ▸ hp)
  · by_cases c : b = p
    · rw [c, upd_same]; intro z; cases z
    · rw [upd_ne c]; exact h
  · refine ⟨r.nx, r.lt, r.inj, fun n h f => ?_, fun n w h => RO.up u (fun w' q => by rw [upd_ne (ne_of_none q hp)]; exact q) (r.ob n w h), fun b f => ?_⟩
    · rcases f with f | f
      · exact r.nf n h f
      · exact pn n h f
    · rcases f with f | f
      · by_cases c : b = p
        · rw [c, upd_same]; intro z; cases z
        · rw [upd_ne c]; exact r.fs b f
      · rw [f, upd_same]; intro z; cases z
/-- a new object is laid, not frozen yet -/
theorem Ext.lay (r : Rel K g hm H) {p : Addr} {o : HO} (hp : H p = none) : Ext K g hm H g hm (upd H p o) := by
  have u : Up g H g (upd H p o) := ⟨Nat.le_refl _, fun _ _ => rfl, fun _ h => h, fun b w _ h => by rw [upd_ne (ne_of_none h hp)]; exact h⟩
  refine ⟨Nat.le_refl _, fun _ _ => rfl, fun _ h => h, fun b h => .inl h, fun b w h _ => by rw [upd_ne (ne_of_none h hp)]; exact h, fun b h => ?_, fun n h1 h2 => absurd (Nat.lt_of_lt_of_le h2 h1) (Nat.lt_irrefl _), fun _ _ h => h, ?_⟩
  · by_cases c : b = p
    · rw [c, upd_same]; intro z; cases z
    · rw [upd_ne c]; exact h
  · refine ⟨r.nx, r.lt, r.inj, r.nf, fun n w h => RO.up u (fun w' q => by rw [upd_ne (ne_of_none q hp)]; exact q) (r.ob n w h), fun b f => ?_⟩
    by_cases c : b = p
    · rw [c, upd_same]; intro z; cases z
    · rw [upd_ne c]; exact r.fs b f
/-- an object of ours, not frozen, not of the small heap, is frozen -/
theorem Ext.freeze (r : Rel K g hm H) {a : Addr} (h0 : H a ≠ none) (nl : ¬ Live g hm a) : Rel K (g.fz a) hm H ∧ Up g H (g.fz a) H := by
  have u : Up g H (g.fz a) H := ⟨Nat.le_refl _, fun _ _ => rfl, fun _ h => .inl h, fun b w _ h => h⟩
  refine ⟨⟨r.nx, r.lt, r.inj, fun n h f => ?_, fun n w h => RO.up u (fun _ q => q) (r.ob n w h), fun b f => ?_⟩, u⟩
  · rcases f with f | f
    · exact r.nf n h f
    · exact nl ⟨n, h, f⟩
  · rcases f with f | f
    · exact r.fs b f
    · rw [f]; exact h0
end

/-! ### the slots -/
def RSl (K : Kf) (g : Gh) (hm : MH) (H : Hp) : SV → Option V → Prop
  | .un, _ => True
  | .val m, some v => RV K g H m v
  | .own xs, some v => xs.length ≤ sizeLine ∧ ∃ a vs, v = .ref a ∧ H a = some (.lst vs) ∧ RVs K g H xs vs ∧ ¬ g.F a ∧ ¬ Live g hm a
  | _, none => False
structure REnv (K : Kf) (g : Gh) (hm : MH) (H : Hp) (σm : Sl) (σ : L2.St) : Prop where
  len : σm.length = σ.length
  sl : ∀ (i : Nat) (s : SV), σm[i]? = some s → ∃ o : Option V, σ[i]? = some o ∧ RSl K g hm H s o
  ap : ∀ (i j : Nat) (xs ys : List MV), σm[i]? = some (.own xs) → σm[j]? = some (.own ys) → i ≠ j → σ[i]? ≠ σ[j]?
section
variable {K : Kf} {g g' g'' : Gh} {hm hm' hm'' : MH} {H H' H'' : Hp} {σm : Sl} {σ : L2.St}
theorem REnv.ext (r : Rel K g hm H) (e : Ext K g hm H g' hm' H') (R : REnv K g hm H σm σ) : REnv K g' hm' H' σm σ := by
  refine ⟨R.len, fun i s h => ?_, R.ap⟩
  obtain ⟨o, h1, h2⟩ := R.sl i s h
  refine ⟨o, h1, ?_⟩
  cases s with
  | un => trivial
  | val m =>
    cases o with
    | none => exact h2
    | some v => exact RV.up (e.up r) h2
  | own xs =>
    cases o with
    | none => exact h2
    | some v =>
      obtain ⟨z, a, vs, rfl, ha, hr, nf, nl⟩ := h2
      refine ⟨z, a, vs, rfl, e.keep _ _ ha nl, hr.up (e.up r), fun f => ?_, fun l => nl (e.live' r (by rw [ha]; intro z; cases z) l)⟩
      rcases e.f2 a f with f | f
      · exact nf f
      · rw [ha] at f; cases f
theorem REnv.val (R : REnv K g hm H σm σ) {i : Nat} {m : MV} (h : σm[i]? = some (.val m)) : ∃ v, σ[i]? = some (some v) ∧ RV K g H m v := by
  obtain ⟨o, h1, h2⟩ := R.sl i _ h
  cases o with
  | none => exact h2.elim
  | some v => exact ⟨v, h1, h2⟩
theorem REnv.own (R : REnv K g hm H σm σ) {i : Nat} {xs : List MV} (h : σm[i]? = some (.own xs)) :
    ∃ a vs, σ[i]? = some (some (.ref a)) ∧ xs.length ≤ sizeLine ∧ H a = some (.lst vs) ∧ RVs K g H xs vs ∧ ¬ g.F a ∧ ¬ Live g hm a := by
  obtain ⟨o, h1, h2⟩ := R.sl i _ h
  cases o with
  | none => exact h2.elim
  | some v =>
    obtain ⟨z, a, vs, rfl, q⟩ := h2
    exact ⟨a, vs, h1, z, q⟩
theorem get_set {α : Type} {l : List α} {i j : Nat} {x s : α} (h : (l.set i x)[j]? = some s) : (j = i ∧ s = x ∧ i < l.length) ∨ (j ≠ i ∧ l[j]? = some s) := by
  by_cases c : j = i
  · subst c
    by_cases hj : j < l.length
    · rw [List.getElem?_set_self hj] at h
      exact .inl ⟨rfl, (Option.some.inj h).symm, hj⟩
    · rw [List.getElem?_eq_none (by simpa using hj)] at h; cases h
  · rw [List.getElem?_set_ne (Ne.symm c)] at h
    exact .inr ⟨c, h⟩
theorem REnv.set_val (R : REnv K g hm H σm σ) (i : Nat) {m : MV} {v : V} (rv : RV K g H m v) : REnv K g hm H (σm.set i (.val m)) (σ.set i (some v)) := by
  refine ⟨by simp [R.len], fun j s h => ?_, fun j k xs ys h1 h2 ne => ?_⟩
  · rcases get_set h with ⟨rfl, rfl, hl⟩ | ⟨c, h⟩
    · exact ⟨some v, List.getElem?_set_self (by rw [← R.len]; exact hl), rv⟩
    · obtain ⟨o, h1, h2⟩ := R.sl j s h
      exact ⟨o, by rw [List.getElem?_set_ne (Ne.symm c)]; exact h1, h2⟩
  · rcases get_set h1 with ⟨rfl, z, _⟩ | ⟨c1, h1⟩
    · cases z
    · rcases get_set h2 with ⟨rfl, z, _⟩ | ⟨c2, h2⟩
      · cases z
      · rw [List.getElem?_set_ne (Ne.symm c1), List.getElem?_set_ne (Ne.symm c2)]
        exact R.ap j k xs ys h1 h2 ne
theorem REnv.set_un (R : REnv K g hm H σm σ) (i : Nat) (o : Option V) : REnv K g hm H (σm.set i .un) (σ.set i o) := by
  refine ⟨by simp [R.len], fun j s h => ?_, fun j k xs ys h1 h2 ne => ?_⟩
  · rcases get_set h with ⟨rfl, rfl, hl⟩ | ⟨c, h⟩
    · exact ⟨o, List.getElem?_set_self (by rw [← R.len]; exact hl), trivial⟩
    · obtain ⟨o, h1, h2⟩ := R.sl j s h
      exact ⟨o, by rw [List.getElem?_set_ne (Ne.symm c)]; exact h1, h2⟩
  · rcases get_set h1 with ⟨rfl, z, _⟩ | ⟨c1, h1⟩
    · cases z
    · rcases get_set h2 with ⟨rfl, z, _⟩ | ⟨c2, h2⟩
      · cases z
      · rw [List.getElem?_set_ne (Ne.symm c1), List.getElem?_set_ne (Ne.symm c2)]
        exact R.ap j k xs ys h1 h2 ne
/-- a slot's own list is put: at a new address, or at its old one (its object has changed) -/
theorem REnv.set_own (R : REnv K g hm H σm σ) (i : Nat) {a : Addr} {xs : List MV} {vs : List V} (z : xs.length ≤ sizeLine) (ha : H a = some (.lst vs)) (rv : RVs K g H xs vs) (nf : ¬ g.F a) (nl : ¬ Live g hm a)
    (ne : ∀ (j : Nat) (ys : List MV), j ≠ i → σm[j]? = some (.own ys) → σ[j]? ≠ some (some (.ref a))) : REnv K g hm H (σm.set i (.own xs)) (σ.set i (some (.ref a))) := by
  refine ⟨by simp [R.len], fun j s h => ?_, fun j k ys ws h1 h2 d => ?_⟩
  · rcases get_set h with ⟨rfl, rfl, hl⟩ | ⟨c, h⟩
    · exact ⟨some (.ref a), List.getElem?_set_self (by rw [← R.len]; exact hl), z, a, vs, rfl, ha, rv, nf, nl⟩
    · obtain ⟨o, h1, h2⟩ := R.sl j s h
      exact ⟨o, by rw [List.getElem?_set_ne (Ne.symm c)]; exact h1, h2⟩
  · rcases get_set h1 with ⟨rfl, e1, l1⟩ | ⟨c1, h1⟩
    · rcases get_set h2 with ⟨rfl, e2, _⟩ | ⟨c2, h2⟩
      · exact absurd rfl d
      · rw [List.getElem?_set_self (by rw [← R.len]; exact l1), List.getElem?_set_ne (Ne.symm c2)]
        exact fun e => ne k ws c2 h2 e.symm
    · rcases get_set h2 with ⟨e0, e2, l2⟩ | ⟨c2, h2⟩
      · rw [e0, List.getElem?_set_self (by rw [← R.len]; exact l2), List.getElem?_set_ne (Ne.symm c1)]
        exact ne j ys c1 h1
      · rw [List.getElem?_set_ne (Ne.symm c1), List.getElem?_set_ne (Ne.symm c2)]
        exact R.ap j k ys ws h1 h2 d
end
end Mi
end P_M1
section P_M2
set_option Elab.async false
set_option linter.all false
set_option maxRecDepth 100000
set_option maxHeartbeats 4000000
/-! M2: what a piece of Python does, as a Lean function on plain values: the readings rdE, rdP, rdO, rdA, rdT, rdS, and how they go together. -/
namespace Mi
open PySem PySem.Spec PyProof.Rows L2

abbrev EM := Sl → MH → Res MV
abbrev OM := Sl → MH → Res (List MV)
abbrev TM := Sl → MH → Res Bool
abbrev SM := Sl → MH → Fl
abbrev WNo : WX := fun _ _ _ _ => False

/-- an exception's data -/
def RX (K : Kf) (g : Gh) (H : Hp) (c : Str) (m : MV) (cls : Value) (d : Option Addr) : Prop := cls = .ref (He.ga K c) ∧ ((∃ (dd : Addr) (v : V), d = some dd ∧ g.F dd ∧ H dd = some (.xd [("value", v)]) ∧ RV K g H m v) ∨ (d = none ∧ m = noV))
section
variable {α β : Type}
/-- what is left behind a piece: P tells of its answer -/
def Post (K : Kf) (W : WX) (g : Gh) (hm : MH) (σ : L2.St) (H : Hp) (r : Res α) (P : α → Gh → MH → Hp → Prop) : Prop := match r with
  | .ok m hm' => ∀ g' H', Ext K g hm H g' hm' H' → P m g' hm' H'
  | .ex c m hm' => ∀ g' H' cls d, Ext K g hm H g' hm' H' → RX K g' H' c m cls d → W cls d σ H'
  | .no => False
/-- the start of a reading -/
def Rdg (K : Kf) (W : WX) (σ : L2.St) (H : Hp) (f : Sl → MH → Res α) (P : α → Gh → MH → Hp → Prop) : Prop := ∃ g σm hm, Rel K g hm H ∧ REnv K g hm H σm σ ∧ Post K W g hm σ H (f σm hm) P
end
/-- a value that may be looked at, not kept: a slot's own list too -/
inductive RP (K : Kf) (g : Gh) (hm : MH) (H : Hp) : MV → V → Prop
  | of {m : MV} {v : V} : RV K g H m v → RP K g hm H m v
  | own {a : Addr} {vs : List V} {xs : List MV} : xs.length ≤ sizeLine → H a = some (.lst vs) → RVs K g H xs vs → ¬ Live g hm a → RP K g hm H (.lst xs) (.ref a)
def rdE (K : Kf) (W : WX) (f : EM) : TE := fun σ H Q => Rdg K W σ H f fun m g' _ H' => ∀ v, RV K g' H' m v → Q v H'
def rdP (K : Kf) (W : WX) (f : EM) : TE := fun σ H Q => Rdg K W σ H f fun m g' hm' H' => ∀ v, RP K g' hm' H' m v → Q v H'
/-- a new list, nobody's yet -/
def rdO (K : Kf) (W : WX) (f : OM) : TE := fun σ H Q => Rdg K W σ H f fun xs g' hm' H' => ∀ a vs, H a = none → H' a = some (.lst vs) → xs.length ≤ sizeLine → RVs K g' H' xs vs → ¬ g'.F a → ¬ Live g' hm' a → Q (.ref a) H'
def rdA (K : Kf) (W : WX) (f : OM) : TA := fun σ H Q => Rdg K W σ H f fun ms g' _ H' => ∀ vs, RVs K g' H' ms vs → Q vs H'
def rdT (K : Kf) (W : WX) (f : TM) : TT := fun σ H Q => Rdg K W σ H f fun b _ _ H' => Q b H'

theorem imp_e {X : Cx} {e : Expr} {t t' : TE} (h : PE X e t) (k : ∀ σ H Q, t' σ H Q → t σ H Q) : PE X e t' := ⟨fun pins s σ H Q I q => h.run pins s σ H Q I (k σ H Q q)⟩
theorem imp_t {X : Cx} {e : Expr} {t t' : TT} (h : PT X e t) (k : ∀ σ H Q, t' σ H Q → t σ H Q) : PT X e t' := ⟨fun pins s σ H Q I q => h.run pins s σ H Q I (k σ H Q q)⟩
theorem imp_w {X : Cx} {e : Expr} {t t' : TT} (h : PW X e t) (k : ∀ σ H Q, t' σ H Q → t σ H Q) : PW X e t' := ⟨fun wh pins s σ H Q I q => h.run wh pins s σ H Q I (k σ H Q q)⟩
theorem imp_a {X : Cx} {e : List Expr} {t t' : TA} (h : PA X e t) (k : ∀ σ H Q, t' σ H Q → t σ H Q) : PA X e t' := ⟨fun p pins s σ H Q I q => h.run p pins s σ H Q I (k σ H Q q)⟩
theorem imp_s {X : Cx} {st : Stmt} {t t' : TS} (h : PS X st t) (k : ∀ D σ H, t' D σ H → t D σ H) : PS X st t' := ⟨fun pins s σ H D I q => h.run pins s σ H D I (k D σ H q)⟩
theorem imp_ss {X : Cx} {st : List Stmt} {t t' : TS} (h : PSs X st t) (k : ∀ D σ H, t' D σ H → t D σ H) : PSs X st t' := ⟨fun pins s σ H D I q => h.run pins s σ H D I (k D σ H q)⟩
theorem imp_g {X : Cx} {tg : Expr} {t t' : TG} (h : PG X tg t) (k : ∀ v σ H Q, t' v σ H Q → t v σ H Q) : PG X tg t' := ⟨fun pins s σ H v u Q I r q => h.run pins s σ H v u Q I r (k v σ H Q q)⟩

section
variable {α β : Type} {K : Kf} {W : WX} {σ : L2.St} {H : Hp}
theorem RP.ext {g g' : Gh} {hm hm' : MH} {H' : Hp} {m : MV} {v : V} (r : Rel K g hm H) (e : Ext K g hm H g' hm' H') (p : RP K g hm H m v) : RP K g' hm' H' m v := by
  cases p with
  | of p => exact .of (p.up (e.up r))
  | own z ha rv nl => exact .own z (e.keep _ _ ha nl) (rv.up (e.up r)) fun l => nl (e.live' r (by rw [ha]; intro z; cases z) l)
theorem Post.mono {g : Gh} {hm : MH} {r : Res α} {P P' : α → Gh → MH → Hp → Prop} (h : Post K W g hm σ H r P) (k : ∀ m g' hm' H', Ext K g hm H g' hm' H' → P m g' hm' H' → P' m g' hm' H') : Post K W g hm σ H r P' := by
  cases r with
  | ok m hm' => exact fun g' H' e => k m g' hm' H' e (h g' H' e)
  | ex c m hm' => exact h
  | no => exact h
def bindR (r : Res α) (k : α → MH → Res β) : Res β := match r with
  | .ok m h => k m h
  | .ex c v h => .ex c v h
  | .no => .no
def bindE (f : Sl → MH → Res α) (k : α → Sl → MH → Res β) : Sl → MH → Res β := fun σ h => bindR (f σ h) fun m h' => k m σ h'
/-- of a bound piece: the first, then the rest from there -/
theorem Post.bind {g : Gh} {hm : MH} {r : Res α} {k : α → MH → Res β} {P : β → Gh → MH → Hp → Prop} (rel : Rel K g hm H) (h : Post K W g hm σ H (bindR r k) P) :
    Post K W g hm σ H r fun m g' hm' H' => Post K W g' hm' σ H' (k m hm') P := by
  cases r with
  | ok m hm' =>
    intro g' H' e
    have h' : Post K W g hm σ H (k m hm') P := h
    cases q : k m hm' with
    | ok m2 hm2 =>
      rw [q] at h'
      exact fun g2 H2 e2 => h' g2 H2 (e.trans rel e2)
    | ex c m2 hm2 =>
      rw [q] at h'
      exact fun g2 H2 cls d e2 x => h' g2 H2 cls d (e.trans rel e2) x
    | no =>
      rw [q] at h'
      exact h'
  | ex c m hm' => exact h
  | no => exact h
theorem Post.noW {g : Gh} {hm : MH} {r : Res α} {P : α → Gh → MH → Hp → Prop} (h : Post K WNo g hm σ H r P) (W : WX) : Post K W g hm σ H r P := by
  cases r with
  | ok m hm' => exact h
  | ex c m hm' => exact fun g' H' cls d e x => (h g' H' cls d e x).elim
  | no => exact h
theorem rdE_mono {f : EM} {Q Q' : VK} (h : rdE K W f σ H Q) (k : ∀ v H, Q v H → Q' v H) : rdE K W f σ H Q' :=
  let ⟨g, σm, hm, r, R, p⟩ := h
  ⟨g, σm, hm, r, R, p.mono fun _ _ _ _ _ q v rv => k _ _ (q v rv)⟩
theorem rdP_mono {f : EM} {Q Q' : VK} (h : rdP K W f σ H Q) (k : ∀ v H, Q v H → Q' v H) : rdP K W f σ H Q' :=
  let ⟨g, σm, hm, r, R, p⟩ := h
  ⟨g, σm, hm, r, R, p.mono fun _ _ _ _ _ q v rv => k _ _ (q v rv)⟩
theorem rdA_mono {f : OM} {Q Q' : List V → Hp → Prop} (h : rdA K W f σ H Q) (k : ∀ v H, Q v H → Q' v H) : rdA K W f σ H Q' :=
  let ⟨g, σm, hm, r, R, p⟩ := h
  ⟨g, σm, hm, r, R, p.mono fun _ _ _ _ _ q v rv => k _ _ (q v rv)⟩
theorem rdT_mono {f : TM} {Q Q' : Bool → Hp → Prop} (h : rdT K W f σ H Q) (k : ∀ v H, Q v H → Q' v H) : rdT K W f σ H Q' :=
  let ⟨g, σm, hm, r, R, p⟩ := h
  ⟨g, σm, hm, r, R, p.mono fun _ _ _ _ _ q => k _ _ q⟩
/-- values looked at, in a row -/
inductive RPs (K : Kf) (g : Gh) (hm : MH) (H : Hp) : List MV → List V → Prop
  | nil : RPs K g hm H [] []
  | cons {x : MV} {v : V} {xs : List MV} {vs : List V} : RP K g hm H x v → RPs K g hm H xs vs → RPs K g hm H (x :: xs) (v :: vs)
theorem RPs.ext {g g' : Gh} {hm hm' : MH} {H' : Hp} (r : Rel K g hm H) (e : Ext K g hm H g' hm' H') : ∀ {m : List MV} {v : List V}, RPs K g hm H m v → RPs K g' hm' H' m v
  | _, _, .nil => .nil
  | _, _, .cons p ps => .cons (p.ext r e) (RPs.ext r e ps)
/-- between two parts of an expression: ms, vs are known already; k is to come -/
def Mid (K : Kf) (W : WX) (σ : L2.St) (H : Hp) (ms : List MV) (vs : List V) (k : Sl → MH → Res α) (P : α → Gh → MH → Hp → Prop) : Prop :=
  ∃ g σm hm, Rel K g hm H ∧ REnv K g hm H σm σ ∧ RPs K g hm H ms vs ∧ Post K W g hm σ H (k σm hm) P
theorem Mid.start {k : Sl → MH → Res α} {P : α → Gh → MH → Hp → Prop} (h : Rdg K W σ H k P) : Mid K W σ H [] [] k P :=
  let ⟨g, σm, hm, r, R, p⟩ := h
  ⟨g, σm, hm, r, R, .nil, p⟩
theorem Mid.step {ms : List MV} {vs : List V} {f : EM} {k : MV → Sl → MH → Res α} {P : α → Gh → MH → Hp → Prop} (h : Mid K W σ H ms vs (bindE f k) P) :
    rdP K W f σ H fun v H1 => ∃ m, Mid K W σ H1 (m :: ms) (v :: vs) (k m) P := by
  obtain ⟨g, σm, hm, r, R, ps, p⟩ := h
  exact ⟨g, σm, hm, r, R, (Post.bind r p).mono fun m g' hm' H' e q v rv => ⟨m, g', σm, hm', e.rel, R.ext r e, .cons rv (ps.ext r e), q⟩⟩
theorem Mid.stepT {ms : List MV} {vs : List V} {f : TM} {k : Bool → Sl → MH → Res α} {P : α → Gh → MH → Hp → Prop} (h : Mid K W σ H ms vs (bindE f k) P) :
    rdT K W f σ H fun b H1 => Mid K W σ H1 ms vs (k b) P := by
  obtain ⟨g, σm, hm, r, R, ps, p⟩ := h
  exact ⟨g, σm, hm, r, R, (Post.bind r p).mono fun m g' hm' H' e q => ⟨g', σm, hm', e.rel, R.ext r e, ps.ext r e, q⟩⟩
theorem Mid.rdg {ms : List MV} {vs : List V} {k : Sl → MH → Res α} {P : α → Gh → MH → Hp → Prop} (h : Mid K W σ H ms vs k P) : Rdg K W σ H k P :=
  let ⟨g, σm, hm, r, R, _, p⟩ := h
  ⟨g, σm, hm, r, R, p⟩
end

/-! ### from one reading to another -/
section
variable {X : Cx} {W : WX} {e : Expr}
def wrapL (f : OM) : EM := fun σ h => bindR (f σ h) fun xs h' => .ok (.lst xs) h'
theorem PE.p {f : EM} (h : PE X e (rdP X.K W f)) : PE X e (rdE X.K W f) → PE X e (rdP X.K W f) := fun _ => h
theorem toP {f : EM} (h : PE X e (rdE X.K W f)) : PE X e (rdP X.K W f) := imp_e h fun σ H Q q =>
  let ⟨g, σm, hm, r, R, p⟩ := q
  ⟨g, σm, hm, r, R, p.mono fun _ _ _ _ _ k v rv => k v (.of rv)⟩
/-- a new list is frozen -/
theorem Ext.fzo {K : Kf} {g g' : Gh} {hm hm' : MH} {H H' : Hp} {a : Addr} (e : Ext K g hm H g' hm' H') (h0 : H a = none) (h1 : H' a ≠ none) (nl : ¬ Live g' hm' a) : Ext K g hm H (g'.fz a) hm' H' ∧ Up g' H' (g'.fz a) H' := by
  obtain ⟨rel, u⟩ := Ext.freeze e.rel h1 nl
  refine ⟨⟨e.n, e.rho, fun b f => .inl (e.f1 b f), fun b f => ?_, e.keep, e.stay, e.fresh, e.live, rel⟩, u⟩
  rcases f with f | f
  · exact e.f2 b f
  · exact .inr (f ▸ h0)
theorem ofO {f : OM} (h : PE X e (rdO X.K W f)) : PE X e (rdE X.K W (wrapL f)) := imp_e h fun σ H Q q => by
  obtain ⟨g, σm, hm, r, R, p⟩ := q
  refine ⟨g, σm, hm, r, R, ?_⟩
  unfold wrapL at p
  cases c : f σm hm with
  | ok xs h' =>
    rw [c] at p
    intro g' H' e a vs h0 h1 z rv nf nl
    obtain ⟨e2, u⟩ := Ext.fzo e h0 (by rw [h1]; intro z; cases z) nl
    exact p (g'.fz a) H' e2 _ (.lst (.inr rfl) h1 z (rv.up u))
  | ex c m h' =>
    rw [c] at p
    exact p
  | no =>
    rw [c] at p
    exact p
end
end Mi
end P_M2
section P_M3
set_option Elab.async false
set_option linter.all false
set_option maxRecDepth 100000
set_option maxHeartbeats 4000000
set_option exponentiation.threshold 10000
/-! M3: the operators on plain values -/
namespace Mi
open PySem PySem.Spec PyProof.Rows L2

abbrev zl : Nat := 16777216
theorem zl_eq : sizeLine = zl := sizeLine_eq
def bigN : Nat := 2 ^ 400000
theorem big_log {i : Int} (h : i.natAbs < bigN) : i.natAbs.log2 < 400000 := PySem.Flt.log2_lt_of (by decide) h
theorem lt_big {n : Nat} (h : n < 2 ^ 4000) : n < bigN := Nat.lt_of_lt_of_le h (Nat.pow_le_pow_right (by decide) (by decide))

/-! ### data -/
def okV : Nat → MV → Bool
  | _, .non | _, .bl _ | _, .int _ => true
  | _, .str s => s.all (· < 0x110000)
  | n + 1, .lst xs => xs.all (okV n)
  | n + 1, .tup xs => xs.all (okV n)
  | _, _ => false
abbrev okD (m : MV) : Bool := okV 40 m
mutual
def meq : MV → MV → Bool
  | .non, .non => true
  | .bl a, .bl b => a == b
  | .bl a, .int j => (if a then 1 else 0) == j
  | .int i, .bl b => i == (if b then 1 else 0)
  | .int i, .int j => i == j
  | .str x, .str y => x == y
  | .lst xs, .lst ys => meqs xs ys
  | .tup xs, .tup ys => meqs xs ys
  | _, _ => false
def meqs : List MV → List MV → Bool
  | [], [] => true
  | x :: xs, y :: ys => meq x y && meqs xs ys
  | _, _ => false
end
mutual
def toD : MV → PyData
  | .bl b => .bool b
  | .int i => .int i
  | .str s => .str ⟨s.toArray⟩
  | .lst xs => .list (toDs xs)
  | .tup xs => .tuple (toDs xs)
  | _ => .none
def toDs : List MV → List PyData
  | [] => []
  | x :: xs => toD x :: toDs xs
end
theorem toD_lay : ∀ (n : Nat) (m : MV), okV n m = true → (toD m).canLay0 = true ∧ (toD m).depth ≤ n := by
  intro n
  induction n with
  | zero =>
    intro m h
    cases m <;> simp_all [okV, toD, PyData.canLay0, PyData.depth, PyData.strOk]
  | succ n ih =>
    have all : ∀ xs : List MV, xs.all (okV n) = true → PyData.canLayAll0 (toDs xs) = true ∧ PyData.depthAll (toDs xs) ≤ n := by
      intro xs
      induction xs with
      | nil => intro _; simp [toDs, PyData.canLayAll0, PyData.depthAll]
      | cons x xs ih2 =>
        intro h
        rw [List.all_cons, Bool.and_eq_true] at h
        obtain ⟨a, b⟩ := ih x h.1
        obtain ⟨c, d⟩ := ih2 h.2
        refine ⟨?_, ?_⟩
        · simp [toDs, PyData.canLayAll0, a, c]
        · simp only [toDs, PyData.depthAll]; omega
    intro m h
    cases m with
    | lst xs =>
      have h' : xs.all (okV n) = true := h
      obtain ⟨a, b⟩ := all xs h'
      refine ⟨?_, ?_⟩
      · simp [toD, PyData.canLay0, a]
      · simp only [toD, PyData.depth]; omega
    | tup xs =>
      have h' : xs.all (okV n) = true := h
      obtain ⟨a, b⟩ := all xs h'
      refine ⟨?_, ?_⟩
      · simp [toD, PyData.canLay0, a]
      · simp only [toD, PyData.depth]; omega
    | _ => simp_all [okV, toD, PyData.canLay0, PyData.depth, PyData.strOk]
theorem shaped_of {m : MV} (h : okD m = true) : SeqAt.shaped (toD m) = true := by
  obtain ⟨a, b⟩ := toD_lay 40 m h
  unfold SeqAt.shaped
  rw [a, Bool.true_and]
  exact decide_eq_true (by omega)
theorem str_beq (x y : List Nat) : ((⟨x.toArray⟩ : Str) == ⟨y.toArray⟩) = (x == y) := by
  by_cases h : x = y
  · subst h; simp
  · have e1 : (x == y) = false := by simpa using h
    have e2 : ¬ ((⟨x.toArray⟩ : Str) = ⟨y.toArray⟩) := fun z => h (by simpa using congrArg (fun s : Str => s.cps.toList) z)
    rw [e1]
    simpa using e2
theorem eqv_meq : ∀ (n : Nat) (a b : MV), okV n a = true → okV n b = true → PyData.eqv (toD a) (toD b) = meq a b := by
  intro n
  induction n with
  | zero =>
    intro a b ha hb
    cases a <;> first | (exfalso; simp [okV] at ha; done) | skip
    all_goals (cases b <;> first | (exfalso; simp [okV] at hb; done) | skip)
    all_goals simp [toD, PyData.eqv, meq, str_beq]
  | succ n ih =>
    have all : ∀ xs ys : List MV, xs.all (okV n) = true → ys.all (okV n) = true → PyData.eqvAll (toDs xs) (toDs ys) = meqs xs ys := by
      intro xs
      induction xs with
      | nil => intro ys _ _; cases ys <;> simp [toDs, PyData.eqvAll, meqs]
      | cons x xs ih2 =>
        intro ys hx hy
        cases ys with
        | nil => simp [toDs, PyData.eqvAll, meqs]
        | cons y ys =>
          rw [List.all_cons, Bool.and_eq_true] at hx hy
          simp only [toDs, PyData.eqvAll, meqs, ih x y hx.1 hy.1, ih2 ys hx.2 hy.2]
    intro a b ha hb
    cases a <;> first | (exfalso; simp [okV] at ha; done) | skip
    all_goals (cases b <;> first | (exfalso; simp [okV] at hb; done) | skip)
    case lst.lst xs ys => simpa [toD, PyData.eqv, meq] using all xs ys ha hb
    case tup.tup xs ys => simpa [toD, PyData.eqv, meq] using all xs ys ha hb
    all_goals simp [toD, PyData.eqv, meq, str_beq]
section
variable {K : Kf} {g : Gh} {hm : MH} {H : Hp}
theorem dp_of : ∀ (n : Nat) (m : MV) (v : V), okV n m = true → RV K g H m v → Dp K H v (toD m) := by
  intro n
  induction n with
  | zero =>
    intro m v h r
    cases r <;> first | (exfalso; simp [okV] at h; done) | skip
    all_goals simp only [toD]
    · exact .non
    · exact .bl _
    · exact .int _
    · exact .str _
  | succ n ih =>
    have all : ∀ (xs : List MV) (vs : List V), xs.all (okV n) = true → RVs K g H xs vs → DpAll K H vs (toDs xs) := by
      intro xs
      induction xs with
      | nil => intro vs _ r; cases r; exact .nil
      | cons x xs ih2 =>
        intro vs h r
        cases r with
        | cons r rs =>
          rw [List.all_cons, Bool.and_eq_true] at h
          exact .cons (ih x _ h.1 r) (ih2 _ h.2 rs)
    intro m v h r
    cases r <;> first | (exfalso; simp [okV] at h; done) | skip
    all_goals simp only [toD]
    · exact .non
    · exact .bl _
    · exact .int _
    · exact .str _
    · rename_i f hh z rs; exact .tup (SqT.of hh) (all _ _ h rs)
    · rename_i w rs; exact .tup (.inr w) (all _ _ h rs)
    · rename_i f hh z rs; exact .lst (SqL.of hh) (all _ _ h rs)
theorem dps_of (n : Nat) : ∀ (xs : List MV) (vs : List V), xs.all (okV n) = true → RVs K g H xs vs → DpAll K H vs (toDs xs)
  | [], _, _, .nil => .nil
  | x :: xs, _, h, .cons r rs => by
    rw [List.all_cons, Bool.and_eq_true] at h
    exact .cons (dp_of n x _ h.1 r) (dps_of n xs _ h.2 rs)
theorem dpP {m : MV} {v : V} (h : okD m = true) (r : RP K g hm H m v) : Dp K H v (toD m) := by
  cases r with
  | of r => exact dp_of 40 m v h r
  | own z ha rv nl => simp only [toD]; exact .lst (SqL.of ha) (dps_of 39 _ _ h rv)
end

/-! ### two values -/
def VP2 (K : Kf) (r : R2) (op : MH → MV → MV → Option MV) : Prop := ∀ (g : Gh) (hm : MH) (H : Hp) (x y : MV) (vx vy : V) (m : MV) (Q : VK), Rel K g hm H → RP K g hm H x vx → RP K g hm H y vy → op hm x y = some m →
  (∀ g' H' v, Ext K g hm H g' hm H' → RV K g' H' m v → Q v H') → r vx vy H Q
def optR {α : Type} (o : Option α) (h : MH) : Res α := match o with
  | some m => .ok m h
  | none => .no
def bin2 (op : MH → MV → MV → Option MV) (fa fb : EM) : EM := bindE fa fun x => bindE fb fun y => fun _ h => optR (op h x y) h
section
variable {X : Cx} {W : WX} {a b : Expr} {pos : Pos}
theorem fin2 {K : Kf} {W : WX} {σ : L2.St} {H : Hp} {r : R2} {op : MH → MV → MV → Option MV} {x y : MV} {vx vy : V} {Q : VK} (hv : VP2 K r op)
    (h : Mid K W σ H [y, x] [vy, vx] (fun _ h => optR (op h x y) h) fun m g' _ H' => ∀ v, RV K g' H' m v → Q v H') : r vx vy H Q := by
  obtain ⟨g, σm, hm, rl, R, ps, p⟩ := h
  cases ps with
  | cons py ps =>
    cases ps with
    | cons px ps =>
      have p : Post K W g hm σ H (optR (op hm x y) hm) fun m g' _ H' => ∀ v, RV K g' H' m v → Q v H' := p
      cases e : op hm x y with
      | none => rw [e] at p; exact False.elim p
      | some m =>
        rw [e] at p
        exact hv g hm H x y vx vy m Q rl px py e fun g' H' v ex rv => p g' H' ex v rv
theorem mid2 {K : Kf} {W : WX} {r : R2} {op : MH → MV → MV → Option MV} {fa fb : EM} (hv : VP2 K r op) (σ : L2.St) (H : Hp) (Q : VK) (h : rdE K W (bin2 op fa fb) σ H Q) : tOp r (rdP K W fa) (rdP K W fb) σ H Q :=
  rdP_mono (Mid.start h).step fun vx H1 ⟨x, c⟩ => rdP_mono c.step fun vy H2 ⟨y, c2⟩ => fin2 hv c2
theorem se_bin {op : Operator} {r : R2} {f : MH → MV → MV → Option MV} {fa fb : EM} (ho : OpR X (binaryOp op) r) (hv : VP2 X.K r f) (ha : PE X a (rdP X.K W fa)) (hb : PE X b (rdP X.K W fb)) :
    PE X (.BinOp a op b pos) (rdE X.K W (bin2 f fa fb)) := imp_e (pe_op ho ha hb) (mid2 hv)
theorem se_cmp {op : CmpOp} {r : R2} {f : MH → MV → MV → Option MV} {fa fb : EM} (ho : OpR X (compareOp op) r) (hv : VP2 X.K r f) (hm : behindInMarks op b = false) (ha : PE X a (rdP X.K W fa)) (hb : PE X b (rdP X.K W fb)) :
    PE X (.Compare a [op] [b] pos) (rdE X.K W (bin2 f fa fb)) := imp_e (pe_cmpR ho ha hb hm) (mid2 hv)
theorem se_ix {r : R2} {f : MH → MV → MV → Option MV} {fa fb : EM} (ho : IxR X r) (hv : VP2 X.K r f) (hs : PlainIx b) (ha : PE X a (rdP X.K W fa)) (hb : PE X b (rdP X.K W fb)) :
    PE X (.Subscript a b pos) (rdE X.K W (bin2 f fa fb)) := imp_e (pe_ix ho ha hb hs) (mid2 hv)
theorem VP2.or {K : Kf} {r r' : R2} {f f' : MH → MV → MV → Option MV} (h : VP2 K r f) (h' : VP2 K r' f') : VP2 K (fun x y H Q => r x y H Q ∨ r' x y H Q) fun hm x y => (f hm x y).or (f' hm x y) := by
  intro g hm H x y vx vy m Q rl px py e k
  have e' : (f hm x y).or (f' hm x y) = some m := e
  cases q : f hm x y with
  | some m' =>
    rw [q] at e'
    cases e'
    exact .inl (h g hm H x y vx vy _ Q rl px py q k)
  | none =>
    rw [q] at e'
    exact .inr (h' g hm H x y vx vy _ Q rl px py e' k)
/-- the same function, spelt otherwise -/
theorem VP2.as {K : Kf} {r : R2} {f f' : MH → MV → MV → Option MV} (h : VP2 K r f) (e : ∀ hm x y, f' hm x y = f hm x y) : VP2 K r f' :=
  fun g hm H x y vx vy m Q rl px py q k => h g hm H x y vx vy m Q rl px py ((e hm x y).symm.trans q) k
end

/-! ### the operators -/
def intOp (f : Int → Int → Option MV) : MH → MV → MV → Option MV := fun _ x y => match x, y with
  | .int i, .int j => f i j
  | _, _ => none
theorem intOp_some {f : Int → Int → Option MV} {hm : MH} {x y m : MV} (h : intOp f hm x y = some m) : ∃ i j, x = .int i ∧ y = .int j ∧ f i j = some m := by
  unfold intOp at h
  split at h
  · exact ⟨_, _, rfl, rfl, h⟩
  · cases h
theorem RP.int_inv {K : Kf} {g : Gh} {hm : MH} {H : Hp} {i : Int} {v : V} (r : RP K g hm H (.int i) v) : v = .int i := by
  cases r with
  | of r => cases r; rfl
theorem RP.bl_inv {K : Kf} {g : Gh} {hm : MH} {H : Hp} {i : Bool} {v : V} (r : RP K g hm H (.bl i) v) : v = .bl i := by
  cases r with
  | of r => cases r; rfl
theorem RP.str_inv {K : Kf} {g : Gh} {hm : MH} {H : Hp} {i : List Nat} {v : V} (r : RP K g hm H (.str i) v) : v = .str ⟨i.toArray⟩ := by
  cases r with
  | of r => cases r; rfl
theorem RP.lst_inv {K : Kf} {g : Gh} {hm : MH} {H : Hp} {xs : List MV} {v : V} (r : RP K g hm H (.lst xs) v) : ∃ a vs, v = .ref a ∧ H a = some (.lst vs) ∧ xs.length ≤ sizeLine ∧ RVs K g H xs vs := by
  cases r with
  | of r => cases r with
    | lst f h z rs => exact ⟨_, _, rfl, h, z, rs⟩
  | own z h rs nl => exact ⟨_, _, rfl, h, z, rs⟩
theorem RP.tup_inv {K : Kf} {g : Gh} {hm : MH} {H : Hp} {xs : List MV} {v : V} (r : RP K g hm H (.tup xs) v) : ∃ a vs, v = .ref a ∧ SqT K H a vs ∧ RVs K g H xs vs := by
  cases r with
  | of r => cases r with
    | tup f h z rs => exact ⟨_, _, rfl, SqT.of h, rs⟩
    | tupK w rs => exact ⟨_, _, rfl, .inr w, rs⟩
section
variable {K : Kf}
theorem vp_int {C : Int → Int → Prop} [∀ i j, Decidable (C i j)] {gv : Int → Int → V} {gm : Int → Int → MV} (hg : ∀ g H i j, RV K g H (gm i j) (gv i j)) :
    VP2 K (rI C gv) (intOp fun i j => if C i j then some (gm i j) else none) := by
  intro g hm H x y vx vy m Q rl px py e k
  obtain ⟨i, j, rfl, rfl, e1⟩ := intOp_some e
  by_cases c : C i j
  · rw [if_pos c] at e1
    cases e1
    exact ⟨i, j, px.int_inv, py.int_inv, c, k g H _ (.refl rl) (hg g H i j)⟩
  · rw [if_neg c] at e1; cases e1
theorem vp_int0 {gv : Int → Int → V} {gm : Int → Int → MV} (hg : ∀ g H i j, RV K g H (gm i j) (gv i j)) : VP2 K (rI0 gv) (intOp fun i j => some (gm i j)) := by
  intro g hm H x y vx vy m Q rl px py e k
  obtain ⟨i, j, rfl, rfl, e1⟩ := intOp_some e
  cases e1
  exact ⟨i, j, px.int_inv, py.int_inv, k g H _ (.refl rl) (hg g H i j)⟩
/-! + -/
def addM : MH → MV → MV → Option MV := fun _ x y => match x, y with
  | .int i, .int j => some (.int (i + j))
  | .str a, .str b => if a.length + b.length ≤ zl then some (.str (a ++ b)) else none
  | .lst a, .lst b => if a.length + b.length ≤ zl then some (.lst (a ++ b)) else none
  | _, _ => none
def rAddM : R2 := fun x y H Q => rI0 (fun i j => .int (i + j)) x y H Q ∨ (∃ i j, x = .str i ∧ y = .str j ∧ i.length + j.length ≤ sizeLine ∧ Q (.str (i ++ j)) H) ∨ rCat x y H Q
theorem op_addM {X : Cx} : OpR X (binaryOp .Add) rAddM := op_add.or (op_add_str.or op_cat)
theorem str_app (a b : List Nat) : (⟨a.toArray⟩ : Str) ++ ⟨b.toArray⟩ = ⟨(a ++ b).toArray⟩ := by
  show (⟨a.toArray ++ b.toArray⟩ : Str) = _
  simp
theorem str_len (a : List Nat) : (⟨a.toArray⟩ : Str).length = a.length := by
  show a.toArray.size = _
  simp
theorem vp_add : VP2 K rAddM addM := by
  intro g hm H x y vx vy m Q rl px py e k
  unfold addM at e
  split at e
  · cases e
    exact .inl ⟨_, _, px.int_inv, py.int_inv, k g H _ (.refl rl) (.int _)⟩
  · split at e
    · rename_i c
      cases e
      refine .inr (.inl ⟨_, _, px.str_inv, py.str_inv, by rw [str_len, str_len, zl_eq]; exact c, ?_⟩)
      rw [str_app]
      exact k g H _ (.refl rl) (.str _)
    · cases e
  · split at e
    · rename_i a b c
      cases e
      obtain ⟨l, vs, rfl, h1, z1, r1⟩ := px.lst_inv
      obtain ⟨l', vs', rfl, h2, z2, r2⟩ := py.lst_inv
      refine .inr (.inr ⟨l, l', vs, vs', rfl, rfl, h1, h2, by rw [← r1.length, ← r2.length, zl_eq]; exact c, fun p hp => ?_⟩)
      have ex := Ext.fz (o := .lst (vs ++ vs')) rl hp
      exact k _ _ _ ex (.lst (.inr rfl) upd_same (by rw [List.length_append, zl_eq]; exact c) ((r1.append r2).up (ex.up rl)))
    · cases e
  · cases e
/-! - * // % ** -/
def subM : MH → MV → MV → Option MV := fun _ x y => match x, y with
  | .int i, .int j => some (.int (i - j))
  | .bl a, .bl b => some (.int (b2i a - b2i b))
  | _, _ => none
abbrev rSubM : R2 := fun x y H Q => rI0 (fun i j => .int (i - j)) x y H Q ∨ ∃ a b, x = .bl a ∧ y = .bl b ∧ Q (.int (b2i a - b2i b)) H
theorem op_subM {X : Cx} : OpR X (binaryOp .Sub) rSubM := op_sub.or fun pins s σ H x y v u Q I rx ry h => by
  obtain ⟨a, b, rfl, rfl, q⟩ := h
  cases rx
  cases ry
  exact sub_bool ⟨.int (b2i a - b2i b), H, I.tok _, ⟨_, rfl⟩, q⟩
theorem vp_sub : VP2 K rSubM subM := by
  intro g hm H x y vx vy m Q rl px py e k
  unfold subM at e
  split at e
  · cases e
    exact .inl ⟨_, _, px.int_inv, py.int_inv, k g H _ (.refl rl) (.int _)⟩
  · cases e
    exact .inr ⟨_, _, px.bl_inv, py.bl_inv, k g H _ (.refl rl) (.int _)⟩
  · cases e
def mulOk (i j : Int) : Prop := i.natAbs < bigN ∧ j.natAbs < bigN
instance (i j : Int) : Decidable (mulOk i j) := inferInstanceAs (Decidable (_ ∧ _))
theorem mulOk.w {i j : Int} (h : mulOk i j) : CMulW i j := by
  have a := big_log h.1
  have b := big_log h.2
  unfold CMulW
  omega
def mulM : MH → MV → MV → Option MV := fun _ x y => match x, y with
  | .int i, .int j => if mulOk i j then some (.int (i * j)) else none
  | .lst xs, .int k => if xs.length * k.toNat ≤ zl ∧ k.natAbs < 2 ^ 62 then some (.lst (List.replicate k.toNat xs).flatten) else none
  | _, _ => none
def rMulM : R2 := fun x y H Q => rI CMulW (fun i j => .int (i * j)) x y H Q ∨ rRep x y H Q
theorem op_mulM {X : Cx} : OpR X (binaryOp .Mult) rMulM := op_mulW.or op_rep
theorem RVs.rep {g : Gh} {H : Hp} {xs : List MV} {vs : List V} (r : RVs K g H xs vs) : ∀ k : Nat, RVs K g H (List.replicate k xs).flatten (List.replicate k vs).flatten
  | 0 => .nil
  | k + 1 => by
    rw [List.replicate_succ, List.replicate_succ, List.flatten_cons, List.flatten_cons]
    exact RVs.append r (RVs.rep r k)
theorem len_rep {α : Type} (xs : List α) : ∀ k : Nat, (List.replicate k xs).flatten.length = xs.length * k
  | 0 => by simp
  | k + 1 => by rw [List.replicate_succ, List.flatten_cons, List.length_append, len_rep xs k, Nat.mul_succ, Nat.add_comm]
theorem vp_mul : VP2 K rMulM mulM := by
  intro g hm H x y vx vy m Q rl px py e k
  unfold mulM at e
  split at e
  · split at e
    · rename_i c
      cases e
      exact .inl ⟨_, _, px.int_inv, py.int_inv, c.w, k g H _ (.refl rl) (.int _)⟩
    · cases e
  · split at e
    · rename_i xs j c
      cases e
      obtain ⟨l, vs, rfl, h1, z1, r1⟩ := px.lst_inv
      refine .inr ⟨l, j, vs, rfl, py.int_inv, h1, by omega, by omega, by rw [← r1.length, zl_eq]; exact c.1, fun p hp => ?_⟩
      have ex := Ext.fz (o := .lst (List.replicate j.toNat vs).flatten) rl hp
      exact k _ _ _ ex (.lst (.inr rfl) upd_same (by rw [len_rep, zl_eq]; exact c.1) ((r1.rep _).up (ex.up rl)))
    · cases e
  · cases e
def CDivG (_ j : Int) : Prop := j ≠ 0 ∧ j.natAbs < 2 ^ 9000
instance (i j : Int) : Decidable (CDivG i j) := inferInstanceAs (Decidable (_ ∧ _))
theorem op_fdivG {X : Cx} : OpR X (binaryOp .FloorDiv) (rI CDivG fun i j => .int (i.fdiv j)) := opI fun _ _ _ _ _ _ _ hc q => floordiv_int hc.1 q (.inl (PyProof.noPylong_of_log2 (PySem.Flt.log2_lt_of (by decide) hc.2)))
def divM : MH → MV → MV → Option MV := intOp fun i j => if CDivG i j then some (.int (i.fdiv j)) else none
theorem vp_div : VP2 K (rI CDivG fun i j => .int (i.fdiv j)) divM := vp_int fun _ _ _ _ => .int _
def modM : MH → MV → MV → Option MV := intOp fun i j => if j ≠ 0 then some (.int (i.fmod j)) else none
theorem vp_mod : VP2 K (rI (fun _ j => j ≠ 0) fun i j => .int (i.fmod j)) modM := vp_int fun _ _ _ _ => .int _
def CPowG (i j : Int) : Prop := 0 ≤ j ∧ (Builtin.Int.intBits i : Int) * j ≤ 2 ^ 27
instance (i j : Int) : Decidable (CPowG i j) := inferInstanceAs (Decidable (_ ∧ _))
theorem op_powG {X : Cx} : OpR X (binaryOp .Pow) (rI CPowG fun i j => .int (i ^ j.toNat)) := opI fun _ _ _ _ _ _ _ hc q => pow_int hc.1 hc.2 q
def powM : MH → MV → MV → Option MV := intOp fun i j => if CPowG i j then some (.int (i ^ j.toNat)) else none
theorem vp_pow : VP2 K (rI CPowG fun i j => .int (i ^ j.toNat)) powM := vp_int fun _ _ _ _ => .int _
/-! < <= > >= -/
def ltL : List Nat → List Nat → Bool
  | [], [] => false
  | [], _ :: _ => true
  | _ :: _, [] => false
  | x :: xs, y :: ys => if x < y then true else if y < x then false else ltL xs ys
theorem ltL_iff (a b : List Nat) : decide (a < b) = ltL a b := by
  induction a generalizing b with
  | nil => cases b <;> simp [ltL]
  | cons x xs ih =>
    cases b with
    | nil => simp [ltL]
    | cons y ys =>
      unfold ltL
      by_cases h1 : x < y
      · simp [h1, List.cons_lt_cons_iff]
      · by_cases h2 : y < x
        · have h3 : ¬ (x = y) := by omega
          simp [h1, h2, h3, List.cons_lt_cons_iff]
        · have h3 : x = y := by omega
          subst h3
          simp only [h1, if_false, List.cons_lt_cons_iff, false_or, true_and]
          rw [← ih ys]
def cmpM (fi : Int → Int → Bool) (fs : List Nat → List Nat → Bool) : MH → MV → MV → Option MV := fun _ x y => match x, y with
  | .int i, .int j => some (.bl (fi i j))
  | .str a, .str b => some (.bl (fs a b))
  | _, _ => none
theorem vp_cmp {ri : Int → Int → V} {rs : Str → Str → V} {fi : Int → Int → Bool} {fs : List Nat → List Nat → Bool} (h1 : ∀ i j, ri i j = .bl (fi i j)) (h2 : ∀ a b, rs ⟨a.toArray⟩ ⟨b.toArray⟩ = .bl (fs a b)) :
    VP2 K (fun x y H Q => rI0 ri x y H Q ∨ ∃ i j, x = .str i ∧ y = .str j ∧ Q (rs i j) H) (cmpM fi fs) := by
  intro g hm H x y vx vy m Q rl px py e k
  unfold cmpM at e
  split at e
  · cases e
    exact .inl ⟨_, _, px.int_inv, py.int_inv, by rw [h1]; exact k g H _ (.refl rl) (.bl _)⟩
  · cases e
    exact .inr ⟨_, _, px.str_inv, py.str_inv, by rw [h2]; exact k g H _ (.refl rl) (.bl _)⟩
  · cases e
def ltM : MH → MV → MV → Option MV := cmpM (fun i j => decide (i < j)) ltL
def gtM : MH → MV → MV → Option MV := cmpM (fun i j => decide (j < i)) fun a b => ltL b a
def leM : MH → MV → MV → Option MV := cmpM (fun i j => decide (i ≤ j)) fun a b => !ltL b a
def geM : MH → MV → MV → Option MV := cmpM (fun i j => decide (j ≤ i)) fun a b => !ltL a b
abbrev rCmp (ri : Int → Int → V) (rs : Str → Str → V) : R2 := fun x y H Q => rI0 ri x y H Q ∨ ∃ i j, x = .str i ∧ y = .str j ∧ Q (rs i j) H
theorem op_ltM {X : Cx} : OpR X (compareOp .Lt) (rCmp (fun i j => .bl (decide (i < j))) fun i j => .bl (decide (i.cps.toList < j.cps.toList))) := op_lt.or op_lt_str
theorem op_gtM {X : Cx} : OpR X (compareOp .Gt) (rCmp (fun i j => .bl (decide (j < i))) fun i j => .bl (decide (j.cps.toList < i.cps.toList))) := op_gt.or op_gt_str
theorem op_leM {X : Cx} : OpR X (compareOp .LtE) (rCmp (fun i j => .bl (decide (i ≤ j))) fun i j => .bl (!decide (j.cps.toList < i.cps.toList))) := op_le.or op_le_str
theorem op_geM {X : Cx} : OpR X (compareOp .GtE) (rCmp (fun i j => .bl (decide (j ≤ i))) fun i j => .bl (!decide (i.cps.toList < j.cps.toList))) := op_ge.or op_ge_str
theorem vp_lt : VP2 K (rCmp (fun i j => .bl (decide (i < j))) fun i j => .bl (decide (i.cps.toList < j.cps.toList))) ltM := vp_cmp (fun _ _ => rfl) fun a b => by rw [← ltL_iff]
theorem vp_gt : VP2 K (rCmp (fun i j => .bl (decide (j < i))) fun i j => .bl (decide (j.cps.toList < i.cps.toList))) gtM := vp_cmp (fun _ _ => rfl) fun a b => by rw [← ltL_iff]
theorem vp_le : VP2 K (rCmp (fun i j => .bl (decide (i ≤ j))) fun i j => .bl (!decide (j.cps.toList < i.cps.toList))) leM := vp_cmp (fun _ _ => rfl) fun a b => by rw [← ltL_iff]
theorem vp_ge : VP2 K (rCmp (fun i j => .bl (decide (j ≤ i))) fun i j => .bl (!decide (i.cps.toList < j.cps.toList))) geM := vp_cmp (fun _ _ => rfl) fun a b => by rw [← ltL_iff]
/-! == != -/
def eqM : MH → MV → MV → Option MV := fun _ x y => if okD x = true ∧ okD y = true then some (.bl (meq x y)) else none
def neM : MH → MV → MV → Option MV := fun _ x y => if okD x = true ∧ okD y = true then some (.bl (!meq x y)) else none
theorem vp_eq : VP2 K (rEqD K) eqM := by
  intro g hm H x y vx vy m Q rl px py e k
  unfold eqM at e
  split at e
  · rename_i c
    cases e
    refine ⟨toD x, toD y, dpP c.1 px, dpP c.2 py, shaped_of c.1, shaped_of c.2, ?_⟩
    rw [eqv_meq 40 x y c.1 c.2]
    exact k g H _ (.refl rl) (.bl _)
  · cases e
theorem vp_ne : VP2 K (rNeD K) neM := by
  intro g hm H x y vx vy m Q rl px py e k
  unfold neM at e
  split at e
  · rename_i c
    cases e
    refine ⟨toD x, toD y, dpP c.1 px, dpP c.2 py, shaped_of c.1, shaped_of c.2, ?_⟩
    rw [eqv_meq 40 x y c.1 c.2]
    exact k g H _ (.refl rl) (.bl _)
  · cases e
/-! in, not in -/
theorem any_eqv (n : Nat) (x : MV) (hx : okV n x = true) : ∀ ys : List MV, ys.all (okV n) = true → (toDs ys).any (fun z => PyData.eqv z (toD x)) = ys.any fun z => meq z x
  | [], _ => rfl
  | y :: ys, h => by
    rw [List.all_cons, Bool.and_eq_true] at h
    simp only [toDs, List.any_cons, eqv_meq n y x h.1 hx, any_eqv n x hx ys h.2]
theorem okV_up : ∀ (n : Nat) (m : MV), okV n m = true → okV (n + 1) m = true := by
  intro n
  induction n with
  | zero =>
    intro m h
    cases m <;> simp_all [okV]
  | succ n ih =>
    intro m h
    cases m with
    | lst xs =>
      have h' : xs.all (okV n) = true := h
      show xs.all (okV (n + 1)) = true
      rw [List.all_eq_true] at h' ⊢
      exact fun x hx => ih x (h' x hx)
    | tup xs =>
      have h' : xs.all (okV n) = true := h
      show xs.all (okV (n + 1)) = true
      rw [List.all_eq_true] at h' ⊢
      exact fun x hx => ih x (h' x hx)
    | _ => simp_all [okV]
def flatM : MV → Bool
  | .non | .bl _ | .int _ | .str _ => true
  | _ => false
def inMb (x y : MV) : Option Bool := match y with
  | .lst ys => if okD x = true ∧ okV 40 (.lst ys) = true then some (ys.any fun z => meq z x) else none
  | .tup ys => if flatM x = true ∧ ys.all flatM = true then some (ys.any fun z => meq z x) else none
  | .str s => match x with
    | .str [c] => some (decide (c ∈ s))
    | _ => none
  | _ => none
def inM : MH → MV → MV → Option MV := fun _ x y => (inMb x y).map .bl
def notInM : MH → MV → MV → Option MV := fun _ x y => (inMb x y).map fun b => .bl (!b)
def rInM (K : Kf) : R2 := fun x y H Q => rInD K x y H Q ∨ rIn K false x y H Q ∨ ∃ (c : Nat) (z : Str), x = .str ⟨#[c]⟩ ∧ y = .str z ∧ Q (.bl (decide (c ∈ z.cps.toList))) H
def rNotInM (K : Kf) : R2 := fun x y H Q => rNotInD K x y H Q ∨ rIn K true x y H Q ∨ ∃ (c : Nat) (z : Str), x = .str ⟨#[c]⟩ ∧ y = .str z ∧ Q (.bl (!decide (c ∈ z.cps.toList))) H
theorem flat_rv {g : Gh} {H : Hp} {m : MV} {v : V} (h : flatM m = true) (r : RV K g H m v) : flatV v = true := by
  cases r <;> first | rfl | (exfalso; simp [flatM] at h; done)
theorem flats_rv {g : Gh} {H : Hp} : ∀ {m : List MV} {v : List V}, m.all flatM = true → RVs K g H m v → v.all flatV = true
  | _, _, _, .nil => rfl
  | _, _, h, .cons r rs => by
    rw [List.all_cons, Bool.and_eq_true] at h
    rw [List.all_cons, flat_rv h.1 r, flats_rv h.2 rs] <;> rfl
theorem eqV_meq {g g' : Gh} {H H' : Hp} {a b : MV} {v w : V} (ha : flatM a = true) (hb : flatM b = true) (ra : RV K g H a v) (rb : RV K g' H' b w) : eqV v w = meq a b := by
  cases ra <;> first | (exfalso; simp [flatM] at ha; done) | skip
  all_goals (cases rb <;> first | (exfalso; simp [flatM] at hb; done) | skip)
  all_goals simp [eqV, meq, str_beq]
theorem inV_meq {g g' : Gh} {H H' : Hp} {x : MV} {v : V} (hx : flatM x = true) (rx : RV K g' H' x v) : ∀ {ys : List MV} {vs : List V}, ys.all flatM = true → RVs K g H ys vs → inV v vs = ys.any fun z => meq z x
  | _, _, _, .nil => rfl
  | _, _, h, .cons r rs => by
    rw [List.all_cons, Bool.and_eq_true] at h
    have q := inV_meq hx rx h.2 rs
    unfold inV at q ⊢
    rw [List.any_cons, List.any_cons, q, eqV_meq h.1 hx r rx]
theorem RP.flat {g : Gh} {hm : MH} {H : Hp} {m : MV} {v : V} (h : flatM m = true) (r : RP K g hm H m v) : RV K g H m v := by
  cases r with
  | of r => exact r
  | own z ha rv nl => exfalso; simp [flatM] at h
theorem vp_inb {g : Gh} {hm : MH} {H : Hp} {x y : MV} {vx vy : V} {b : Bool} (px : RP K g hm H x vx) (py : RP K g hm H y vy) (e : inMb x y = some b) (neg : Bool) {Q : VK} (q : Q (.bl (if neg then !b else b)) H) :
    (∃ d ds, Dp K H vx d ∧ Dp K H vy (.list ds) ∧ SeqAt.shaped d = true ∧ SeqAt.shaped (.list ds) = true ∧ Q (.bl (if neg then !(ds.any fun z => PyData.eqv z d) else ds.any fun z => PyData.eqv z d)) H) ∨ rIn K neg vx vy H Q ∨
      ∃ (c : Nat) (z : Str), vx = .str ⟨#[c]⟩ ∧ vy = .str z ∧ Q (.bl (if neg then !decide (c ∈ z.cps.toList) else decide (c ∈ z.cps.toList))) H := by
  unfold inMb at e
  split at e
  · rename_i ys
    split at e
    · rename_i c
      cases e
      refine .inl ⟨toD x, toDs ys, dpP c.1 px, by have z := dpP (m := .lst ys) c.2 py; simpa only [toD] using z, shaped_of c.1, by have z := shaped_of (m := .lst ys) c.2; simpa only [toD] using z, ?_⟩
      have c2 : ys.all (okV 39) = true := c.2
      rw [any_eqv 40 x c.1 ys (by rw [List.all_eq_true] at c2 ⊢; exact fun z hz => okV_up 39 z (c2 z hz))]
      exact q
    · cases e
  · rename_i ys
    split at e
    · rename_i c
      cases e
      obtain ⟨a, vs, rfl, h1, rs⟩ := py.tup_inv
      refine .inr (.inl ⟨a, vs, rfl, .inr h1, flat_rv c.1 (px.flat c.1), flats_rv c.2 rs, ?_⟩)
      rw [inV_meq c.1 (px.flat c.1) c.2 rs]
      exact q
    · cases e
  · split at e
    · rename_i s c
      cases e
      exact .inr (.inr ⟨c, _, px.str_inv, py.str_inv, by simpa using q⟩)
    · cases e
  · cases e
theorem vp_in : VP2 K (rInM K) inM := by
  intro g hm H x y vx vy m Q rl px py e k
  unfold inM at e
  cases c : inMb x y with
  | none => rw [c] at e; cases e
  | some b =>
    rw [c] at e
    cases e
    exact vp_inb px py c false (k g H _ (.refl rl) (.bl _))
theorem vp_notIn : VP2 K (rNotInM K) notInM := by
  intro g hm H x y vx vy m Q rl px py e k
  unfold notInM at e
  cases c : inMb x y with
  | none => rw [c] at e; cases e
  | some b =>
    rw [c] at e
    cases e
    have z := vp_inb px py c true (Q := Q) (k g H _ (.refl rl) (.bl _))
    rcases z with ⟨d, ds, a1, a2, a3, a4, a5⟩ | z | z
    · exact .inl ⟨d, ds, a1, a2, a3, a4, a5⟩
    · exact .inr (.inl z)
    · exact .inr (.inr z)
theorem op_inM {X : Cx} (hu : X.A.units + 65 < cLine) : OpR X (compareOp .In) (rInM X.K) := (op_inD hu).or (op_in_seq.or op_in_sign)
theorem op_notInM {X : Cx} (hu : X.A.units + 65 < cLine) : OpR X (compareOp .NotIn) (rNotInM X.K) := (op_notInD hu).or (op_notIn_seq.or op_notIn_sign)
end
end Mi
end P_M3
section P_M4
set_option Elab.async false
set_option linter.all false
set_option maxRecDepth 100000
set_option maxHeartbeats 4000000
/-! M4: names, constants, tests, displays, subscripts, slices -/
namespace Mi
open PySem PySem.Spec PyProof.Rows L2

/-! ### names, constants -/
def varE (i : Nat) : EM := fun σ h => match σ[i]? with
  | some (.val m) => .ok m h
  | _ => .no
def peekE (i : Nat) : EM := fun σ h => match σ[i]? with
  | some (.val m) => .ok m h
  | some (.own xs) => .ok (.lst xs) h
  | _ => .no
def cE (m : MV) : EM := fun _ h => .ok m h
section
variable {K : Kf} {W : WX} {X : Cx}
theorem rd_var {i : Nat} (σ : L2.St) (H : Hp) (Q : VK) (h : rdE K W (varE i) σ H Q) : tVar i σ H Q := by
  obtain ⟨g, σm, hm, rl, R, p⟩ := h
  unfold varE at p
  split at p
  · rename_i m e
    obtain ⟨v, h1, h2⟩ := R.val e
    exact ⟨v, h1, p g H (.refl rl) v h2⟩
  · exact p.elim
theorem rd_peek {i : Nat} (σ : L2.St) (H : Hp) (Q : VK) (h : rdP K W (peekE i) σ H Q) : tVar i σ H Q := by
  obtain ⟨g, σm, hm, rl, R, p⟩ := h
  unfold peekE at p
  split at p
  · rename_i m e
    obtain ⟨v, h1, h2⟩ := R.val e
    exact ⟨v, h1, p g H (.refl rl) v (.of h2)⟩
  · rename_i xs e
    obtain ⟨a, vs, h1, z, h2, h3, h4, h5⟩ := R.own e
    exact ⟨_, h1, p g H (.refl rl) _ (.own z h2 h3 h5)⟩
  · exact p.elim
theorem rd_c {m : MV} {v : V} (hv : ∀ g H, RV K g H m v) (σ : L2.St) (H : Hp) (Q : VK) (h : rdE K W (cE m) σ H Q) : tC v σ H Q := by
  obtain ⟨g, σm, hm, rl, R, p⟩ := h
  exact p g H (.refl rl) v (hv g H)
theorem se_int {i : Int} {j pos} : PE X (.Constant (.int i) j pos) (rdE X.K W (cE (.int i))) := imp_e pe_int (rd_c fun _ _ => .int i)
theorem se_bl {b : Bool} {j pos} : PE X (.Constant (.bool b) j pos) (rdE X.K W (cE (.bl b))) := imp_e pe_bl (rd_c fun _ _ => .bl b)
theorem se_non {j pos} : PE X (.Constant .none j pos) (rdE X.K W (cE .non)) := imp_e pe_non (rd_c fun _ _ => .non)
theorem se_str {x : Str} {l : List Nat} {j pos} (h : x.cps.toList = l) : PE X (.Constant (.str x) j pos) (rdE X.K W (cE (.str l))) := imp_e pe_str (rd_c fun _ _ => by
  have e : x = ⟨l.toArray⟩ := by
    cases x with
    | mk c => rw [← h]
  rw [e]
  exact .str l)
/-- a module's constant: a tuple of ints -/
theorem se_glob {x : Str} {a : Addr} {vs : List V} {xs : List MV} {pos : Pos} (hg : Gl X x) (hm : X.mg x = some (.ref a)) (hd : (x == ("__debug__" : Str)) = false) (w : WrT X.K a vs) (r : ∀ g H, RVs X.K g H xs vs) :
    PE X (.Name x pos) (rdE X.K W (cE (.tup xs))) := imp_e (pe_glob (v := .ref a) hg hm rfl hd) (rd_c fun g H => .tupK w (r g H))
end

/-! ### one value -/
def VP1 (K : Kf) (r : V → Hp → VK → Prop) (op : MH → MV → Option MV) : Prop := ∀ (g : Gh) (hm : MH) (H : Hp) (x : MV) (vx : V) (m : MV) (Q : VK), Rel K g hm H → RP K g hm H x vx → op hm x = some m →
  (∀ g' H' v, Ext K g hm H g' hm H' → RV K g' H' m v → Q v H') → r vx H Q
def un1 (op : MH → MV → Option MV) (fa : EM) : EM := bindE fa fun x => fun _ h => optR (op h x) h
section
variable {K : Kf} {W : WX} {X : Cx} {a b c : Expr} {pos : Pos}
theorem fin1 {σ : L2.St} {H : Hp} {r : V → Hp → VK → Prop} {op : MH → MV → Option MV} {x : MV} {vx : V} {Q : VK} (hv : VP1 K r op)
    (h : Mid K W σ H [x] [vx] (fun _ h => optR (op h x) h) fun m g' _ H' => ∀ v, RV K g' H' m v → Q v H') : r vx H Q := by
  obtain ⟨g, σm, hm, rl, R, ps, p⟩ := h
  cases ps with
  | cons px ps =>
    have p : Post K W g hm σ H (optR (op hm x) hm) fun m g' _ H' => ∀ v, RV K g' H' m v → Q v H' := p
    cases e : op hm x with
    | none => rw [e] at p; exact False.elim p
    | some m =>
      rw [e] at p
      exact hv g hm H x vx m Q rl px e fun g' H' v ex rv => p g' H' ex v rv
theorem mid1 {r : V → Hp → VK → Prop} {op : MH → MV → Option MV} {fa : EM} (hv : VP1 K r op) (σ : L2.St) (H : Hp) (Q : VK) (h : rdE K W (un1 op fa) σ H Q) : rdP K W fa σ H fun v H1 => r v H1 Q :=
  rdP_mono (Mid.start h).step fun vx H1 ⟨x, c⟩ => fin1 hv c
theorem se_un {op : UnaryOp} {r : V → Hp → VK → Prop} {f : MH → MV → Option MV} {fa : EM} (ho : UnR X (unaryOp op) r) (hv : VP1 X.K r f) (ha : PE X a (rdP X.K W fa)) : PE X (.UnaryOp op a pos) (rdE X.K W (un1 f fa)) :=
  imp_e (pe_un ho ha) (mid1 hv)
def negM : MH → MV → Option MV := fun _ x => match x with
  | .int i => some (.int (-i))
  | _ => none
theorem vp_neg : VP1 K (rU fun i => .int (-i)) negM := by
  intro g hm H x vx m Q rl px e k
  unfold negM at e
  split at e
  · cases e
    exact ⟨_, px.int_inv, k g H _ (.refl rl) (.int _)⟩
  · cases e
/-! is None -/
def isN : MV → Bool
  | .non => true
  | _ => false
def isNM : MH → MV → Option MV := fun _ x => some (.bl (isN x))
def notNM : MH → MV → Option MV := fun _ x => some (.bl (!isN x))
theorem isN_rv {g : Gh} {hm : MH} {H : Hp} {m : MV} {v : V} (r : RP K g hm H m v) : decide (v = .non) = isN m := by
  cases r with
  | of r => cases r <;> simp [isN]
  | own z ha rv nl => simp [isN]
theorem rd_isN {fa : EM} (σ : L2.St) (H : Hp) (Q : VK) (h : rdE K W (un1 isNM fa) σ H Q) : tIsN (rdP K W fa) σ H Q :=
  rdP_mono (Mid.start h).step fun vx H1 ⟨x, c⟩ => by
    obtain ⟨g, σm, hm, rl, R, ps, p⟩ := c
    cases ps with
    | cons px ps =>
      show Q (.bl (decide (vx = .non))) H1
      rw [isN_rv px]
      exact p g H1 (.refl rl) _ (.bl _)
theorem rd_notN {fa : EM} (σ : L2.St) (H : Hp) (Q : VK) (h : rdE K W (un1 notNM fa) σ H Q) : tNotN (rdP K W fa) σ H Q :=
  rdP_mono (Mid.start h).step fun vx H1 ⟨x, c⟩ => by
    obtain ⟨g, σm, hm, rl, R, ps, p⟩ := c
    cases ps with
    | cons px ps =>
      show Q (.bl (!decide (vx = .non))) H1
      rw [isN_rv px]
      exact p g H1 (.refl rl) _ (.bl _)
theorem se_isN {j pos'} {fa : EM} (ha : PE X a (rdP X.K W fa)) : PE X (.Compare a [.Is] [.Constant .none j pos'] pos) (rdE X.K W (un1 isNM fa)) := imp_e (pe_cmp (pc_isN ha)) rd_isN
theorem se_notN {j pos'} {fa : EM} (ha : PE X a (rdP X.K W fa)) : PE X (.Compare a [.IsNot] [.Constant .none j pos'] pos) (rdE X.K W (un1 notNM fa)) := imp_e (pe_cmp (pc_notN ha)) rd_notN
end

/-! ### tests, and, or, not, if -/
def tstE (f : EM) : TM := bindE f fun x => fun _ h => match x with
  | .bl b => .ok b h
  | _ => .no
def andE (fa fb : EM) : EM := bindE fa fun x => match x with
  | .bl true => fb
  | .bl false => cE (.bl false)
  | _ => fun _ _ => .no
def orE (fa fb : EM) : EM := bindE fa fun x => match x with
  | .bl false => fb
  | .bl true => cE (.bl true)
  | _ => fun _ _ => .no
def notM : MH → MV → Option MV := fun _ x => match x with
  | .bl b => some (.bl (!b))
  | _ => none
def andT (fa fb : TM) : TM := bindE fa fun x => if x = true then fb else fun _ h => .ok false h
def orT (fa fb : TM) : TM := bindE fa fun x => if x = true then fun _ h => .ok true h else fb
def notT (fa : TM) : TM := bindE fa fun x => fun _ h => .ok (!x) h
def ifE (c : TM) (fa fb : EM) : EM := bindE c fun x => if x = true then fa else fb
section
variable {K : Kf} {W : WX} {X : Cx} {a b c : Expr} {pos : Pos} {rest : List Expr}
/-- the value's reading from the looked-at one -/
theorem rdE_of_P {f : EM} {σ : L2.St} {H : Hp} {Q : VK} (h : rdP K W f σ H Q) : rdE K W f σ H Q :=
  let ⟨g, σm, hm, rl, R, p⟩ := h
  ⟨g, σm, hm, rl, R, p.mono fun _ _ _ _ _ q v rv => q v (.of rv)⟩
theorem rd_tst {f : EM} (σ : L2.St) (H : Hp) (Q : Bool → Hp → Prop) (h : rdT K W (tstE f) σ H Q) : tB (rdE K W f) σ H Q :=
  rdE_of_P (rdP_mono (Mid.start h).step fun vx H1 ⟨x, c⟩ => by
    obtain ⟨g, σm, hm, rl, R, ps, p⟩ := c
    cases ps with
    | cons px ps =>
      cases x with
      | bl b => exact ⟨b, px.bl_inv, p g H1 (.refl rl)⟩
      | _ => exact False.elim p)
theorem st_val {f : EM} (h : PE X a (rdE X.K W f)) (he : ∀ whole, isTrue a X.env whole = (do let v ← whole; standAt a.pos; holding [v] (truthy v)) := by intro _; rfl) : PT X a (rdT X.K W (tstE f)) := imp_t (pt_val h he) rd_tst
theorem st_cmp {op : CmpOp} {r : R2} {f : MH → MV → MV → Option MV} {fa fb : EM} (ho : OpR X (compareOp op) r) (hv : VP2 X.K r f) (hm : behindInMarks op b = false) (ha : PE X a (rdP X.K W fa)) (hb : PE X b (rdP X.K W fb)) :
    PT X (.Compare a [op] [b] pos) (rdT X.K W (tstE (bin2 f fa fb))) := imp_t (pt_cmpR ho ha hb hm) fun σ H Q h => by
  have z := rd_tst σ H Q h
  exact mid2 hv σ H _ z
theorem st_isN {j pos'} {fa : EM} (ha : PE X a (rdP X.K W fa)) : PT X (.Compare a [.Is] [.Constant .none j pos'] pos) (rdT X.K W (tstE (un1 isNM fa))) :=
  imp_t (pt_cmp (pc_isN ha)) fun σ H Q h => rd_isN σ H _ (rd_tst σ H Q h)
theorem st_notN {j pos'} {fa : EM} (ha : PE X a (rdP X.K W fa)) : PT X (.Compare a [.IsNot] [.Constant .none j pos'] pos) (rdT X.K W (tstE (un1 notNM fa))) :=
  imp_t (pt_cmp (pc_notN ha)) fun σ H Q h => rd_notN σ H _ (rd_tst σ H Q h)
theorem rd_andT {fa fb : TM} (σ : L2.St) (H : Hp) (Q : Bool → Hp → Prop) (h : rdT K W (andT fa fb) σ H Q) : tAnd (rdT K W fa) (rdT K W fb) σ H Q :=
  rdT_mono (Mid.start h).stepT fun b H1 c => by
    obtain ⟨g, σm, hm, rl, R, ps, p⟩ := c
    cases b with
    | true => exact ⟨g, σm, hm, rl, R, p⟩
    | false => exact p g H1 (.refl rl)
theorem rd_orT {fa fb : TM} (σ : L2.St) (H : Hp) (Q : Bool → Hp → Prop) (h : rdT K W (orT fa fb) σ H Q) : tOr (rdT K W fa) (rdT K W fb) σ H Q :=
  rdT_mono (Mid.start h).stepT fun b H1 c => by
    obtain ⟨g, σm, hm, rl, R, ps, p⟩ := c
    cases b with
    | false => exact ⟨g, σm, hm, rl, R, p⟩
    | true => exact p g H1 (.refl rl)
theorem rd_notT {fa : TM} (σ : L2.St) (H : Hp) (Q : Bool → Hp → Prop) (h : rdT K W (notT fa) σ H Q) : tNot (rdT K W fa) σ H Q :=
  rdT_mono (Mid.start h).stepT fun b H1 c => by
    obtain ⟨g, σm, hm, rl, R, ps, p⟩ := c
    exact p g H1 (.refl rl)
theorem sw_and1 {fa : TM} (h : PT X a (rdT X.K W fa)) : PW X (.BoolOp .And [a] pos) (rdT X.K W fa) := pw_and1 h
theorem sw_or1 {fa : TM} (h : PT X a (rdT X.K W fa)) : PW X (.BoolOp .Or [a] pos) (rdT X.K W fa) := pw_or1 h
theorem sw_and {fa fb : TM} (ha : PT X a (rdT X.K W fa)) (hb : PW X (.BoolOp .And (b :: rest) pos) (rdT X.K W fb)) : PW X (.BoolOp .And (a :: b :: rest) pos) (rdT X.K W (andT fa fb)) := imp_w (pw_and ha hb) rd_andT
theorem sw_or {fa fb : TM} (ha : PT X a (rdT X.K W fa)) (hb : PW X (.BoolOp .Or (b :: rest) pos) (rdT X.K W fb)) : PW X (.BoolOp .Or (a :: b :: rest) pos) (rdT X.K W (orT fa fb)) := imp_w (pw_or ha hb) rd_orT
theorem st_not {fa : TM} (ha : PT X a (rdT X.K W fa)) : PT X (.UnaryOp .Not a pos) (rdT X.K W (notT fa)) := imp_t (pt_not ha) rd_notT
theorem rd_andE {fa fb : EM} (σ : L2.St) (H : Hp) (Q : VK) (h : rdE K W (andE fa fb) σ H Q) : tAndV (rdE K W fa) (rdE K W fb) σ H Q :=
  rdE_of_P (rdP_mono (Mid.start h).step fun vx H1 ⟨x, c⟩ => by
    obtain ⟨g, σm, hm, rl, R, ps, p⟩ := c
    cases ps with
    | cons px ps =>
      cases x with
      | bl b =>
        refine ⟨b, px.bl_inv, ?_⟩
        cases b with
        | true => exact iteT ⟨g, σm, hm, rl, R, p⟩
        | false => exact iteF (p g H1 (.refl rl) _ (.bl _))
      | _ => exact False.elim p)
theorem rd_orE {fa fb : EM} (σ : L2.St) (H : Hp) (Q : VK) (h : rdE K W (orE fa fb) σ H Q) : tOrV (rdE K W fa) (rdE K W fb) σ H Q :=
  rdE_of_P (rdP_mono (Mid.start h).step fun vx H1 ⟨x, c⟩ => by
    obtain ⟨g, σm, hm, rl, R, ps, p⟩ := c
    cases ps with
    | cons px ps =>
      cases x with
      | bl b =>
        refine ⟨b, px.bl_inv, ?_⟩
        cases b with
        | false => exact iteF ⟨g, σm, hm, rl, R, p⟩
        | true => exact iteT (p g H1 (.refl rl) _ (.bl _))
      | _ => exact False.elim p)
theorem se_one {op} {f : EM} (h : PE X a (rdE X.K W f)) : PE X (.BoolOp op [a] pos) (rdE X.K W f) := pe_one h
theorem se_and {fa fb : EM} (ha : PE X a (rdE X.K W fa)) (hb : PE X (.BoolOp .And (b :: rest) pos) (rdE X.K W fb)) : PE X (.BoolOp .And (a :: b :: rest) pos) (rdE X.K W (andE fa fb)) := imp_e (pe_and ha hb) rd_andE
theorem se_or {fa fb : EM} (ha : PE X a (rdE X.K W fa)) (hb : PE X (.BoolOp .Or (b :: rest) pos) (rdE X.K W fb)) : PE X (.BoolOp .Or (a :: b :: rest) pos) (rdE X.K W (orE fa fb)) := imp_e (pe_or ha hb) rd_orE
theorem rd_notE {fa : EM} (σ : L2.St) (H : Hp) (Q : VK) (h : rdE K W (un1 notM fa) σ H Q) : tNotV (rdE K W fa) σ H Q :=
  rdE_of_P (rdP_mono (Mid.start h).step fun vx H1 ⟨x, c⟩ => by
    obtain ⟨g, σm, hm, rl, R, ps, p⟩ := c
    cases ps with
    | cons px ps =>
      cases x with
      | bl b => exact ⟨b, px.bl_inv, p g H1 (.refl rl) _ (.bl _)⟩
      | _ => exact False.elim p)
theorem se_not {fa : EM} (ha : PE X a (rdE X.K W fa)) : PE X (.UnaryOp .Not a pos) (rdE X.K W (un1 notM fa)) := imp_e (pe_not ha) rd_notE
theorem rd_if {fc : TM} {fa fb : EM} (σ : L2.St) (H : Hp) (Q : VK) (h : rdE K W (ifE fc fa fb) σ H Q) : tIf (rdT K W fc) (rdE K W fa) (rdE K W fb) σ H Q :=
  rdT_mono (Mid.start h).stepT fun b H1 c => by
    obtain ⟨g, σm, hm, rl, R, ps, p⟩ := c
    cases b with
    | true => exact ⟨g, σm, hm, rl, R, p⟩
    | false => exact ⟨g, σm, hm, rl, R, p⟩
theorem se_if {fc : TM} {fa fb : EM} (hc : PT X c (rdT X.K W fc)) (ha : PE X a (rdE X.K W fa)) (hb : PE X b (rdE X.K W fb)) : PE X (.IfExp c a b pos) (rdE X.K W (ifE fc fa fb)) := imp_e (pe_ifExp hc ha hb) rd_if
/-! a op b op c -/
def chainE (f f' : MH → MV → MV → Option MV) (fa fb fc : EM) : EM := bindE fa fun x => bindE fb fun y => fun σ h => bindR (optR (f h x y) h) fun z h1 => match z with
  | .bl true => bindR (fc σ h1) fun w h2 => optR (f' h2 y w) h2
  | .bl false => .ok (.bl false) h1
  | _ => .no
end

/-! ### argument lists, displays -/
def nilA : OM := fun _ h => .ok [] h
def consA (f : EM) (fs : OM) : OM := bindE f fun x => bindE fs fun xs => fun _ h => .ok (x :: xs) h
section
variable {K : Kf} {W : WX} {X : Cx} {e : Expr} {es : List Expr} {pos : Pos}
theorem sa_nil : PA X [] (rdA X.K W nilA) := imp_a pa_nil fun σ H Q h => by
  obtain ⟨g, σm, hm, rl, R, p⟩ := h
  exact p g H (.refl rl) [] .nil
theorem rd_cons {f : EM} {fs : OM} (σ : L2.St) (H : Hp) (Q : List V → Hp → Prop) (h : rdA K W (consA f fs) σ H Q) : tCons (rdE K W f) (rdA K W fs) σ H Q := by
  obtain ⟨g, σm, hm, rl, R, p⟩ := h
  refine ⟨g, σm, hm, rl, R, (Post.bind rl p).mono fun x g1 hm1 H1 e1 q v rv => ?_⟩
  refine ⟨g1, σm, hm1, e1.rel, R.ext rl e1, (Post.bind e1.rel q).mono fun xs g2 hm2 H2 e2 q2 vs rvs => ?_⟩
  exact q2 g2 H2 (.refl e2.rel) _ (.cons (rv.up (e2.up e1.rel)) rvs)
theorem sa_cons {f : EM} {fs : OM} (ha : PE X e (rdE X.K W f)) (hr : PA X es (rdA X.K W fs)) (hs : starEach (e :: es) X.env = (false, eval e X.env) :: starEach es X.env := by rfl) : PA X (e :: es) (rdA X.K W (consA f fs)) :=
  imp_a (pa_cons ha hr hs) rd_cons
def tupE (fs : OM) : EM := bindE fs fun xs => fun _ h => if xs.length ≤ zl then .ok (.tup xs) h else .no
def lstO (fs : OM) : OM := bindE fs fun xs => fun _ h => if xs.length ≤ zl then .ok xs h else .no
theorem rd_tup {fs : OM} (σ : L2.St) (H : Hp) (Q : VK) (h : rdE K W (tupE fs) σ H Q) : tTup (rdA K W fs) σ H Q := by
  obtain ⟨g, σm, hm, rl, R, p⟩ := h
  refine ⟨g, σm, hm, rl, R, (Post.bind rl p).mono fun xs g1 hm1 H1 e1 q vs rvs => ?_⟩
  have q : Post K W g1 hm1 σ H1 (if xs.length ≤ zl then .ok (.tup xs) hm1 else .no) fun m g' _ H' => ∀ v, RV K g' H' m v → Q v H' := q
  by_cases c : xs.length ≤ zl
  · rw [if_pos c] at q
    refine ⟨by rw [← rvs.length, zl_eq]; exact c, fun a ha => ?_⟩
    have ex := Ext.fz (o := .tup vs) e1.rel ha
    exact q _ _ ex _ (.tup (.inr rfl) upd_same (by rw [zl_eq]; exact c) (rvs.up (ex.up e1.rel)))
  · rw [if_neg c] at q
    exact q.elim
theorem rd_lst {fs : OM} (σ : L2.St) (H : Hp) (Q : VK) (h : rdO K W (lstO fs) σ H Q) : tLst (rdA K W fs) σ H Q := by
  obtain ⟨g, σm, hm, rl, R, p⟩ := h
  refine ⟨g, σm, hm, rl, R, ?_⟩
  unfold lstO bindE at p
  cases c0 : fs σm hm with
  | ok xs hm1 =>
    rw [c0] at p
    intro g1 H1 e1 vs rvs
    have p : Post K W g hm σ H (if xs.length ≤ zl then .ok xs hm1 else .no) _ := p
    by_cases c : xs.length ≤ zl
    · rw [if_pos c] at p
      refine ⟨by rw [← rvs.length, zl_eq]; exact c, fun a ha => ?_⟩
      have ex := Ext.lay (o := .lst vs) e1.rel ha
      have h0 : H a = none := by
        cases q : H a with
        | none => rfl
        | some o => exact absurd ha (e1.stay a (by rw [q]; intro z; cases z))
      refine p g1 _ (e1.trans rl ex) a vs h0 upd_same (by rw [zl_eq]; exact c) (rvs.up (ex.up e1.rel)) (fun f => e1.rel.fs a f ha) fun ⟨n, l, ea⟩ => ?_
      cases q : hm1.get n with
      | none => exact l q
      | some o => exact (e1.rel.ob n o q).has (ea ▸ ha)
    · rw [if_neg c] at p
      exact p.elim
  | ex c m h' =>
    rw [c0] at p
    exact p
  | no =>
    rw [c0] at p
    exact p
theorem se_tup {fs : OM} {x1} (h : PA X es (rdA X.K W fs)) : PE X (.Tuple es x1 pos) (rdE X.K W (tupE fs)) := imp_e (pe_tup h) rd_tup
theorem so_lst {fs : OM} (h : PA X es (rdA X.K W fs)) : PE X (.List es pos) (rdO X.K W (lstO fs)) := imp_e (pe_lst h) rd_lst
end

/-! ### a[i], a[i:j] -/
def ixL (xs : List MV) (i : Int) : Option MV := atI xs i
def ixM : MH → MV → MV → Option MV := fun hm x y => match y with
  | .int i => (match x with
    | .lst xs => atI xs i
    | .tup xs => atI xs i
    | .scr xs => atI xs i
    | .ref n => (match hm.get n with
      | some (.lst xs) => atI xs i
      | _ => none)
    | .str s => if s.length ≤ zl then (atI s i).map fun c => .str [c] else none
    | _ => none)
  | _ => none
theorem RVs.at {K : Kf} {g : Gh} {H : Hp} {xs : List MV} {vs : List V} {i : Int} {m : MV} (r : RVs K g H xs vs) (h : atI xs i = some m) : ∃ v, atI vs i = some v ∧ RV K g H m v := by
  unfold atI at h ⊢
  rw [← r.length]
  cases e : ixN xs.length i with
  | none => rw [e] at h; cases h
  | some j =>
    rw [e] at h
    exact r.get (i := j) h
section
variable {K : Kf}
theorem RP.scr_inv {g : Gh} {hm : MH} {H : Hp} {xs : List MV} {v : V} (r : RP K g hm H (.scr xs) v) : ∃ a vs, v = .ref a ∧ SqL K H a vs ∧ xs.length ≤ sizeLine ∧ RVs K g H xs vs := by
  cases r with
  | of r => cases r with
    | scr h z rs =>
      rcases h with ⟨f, o, h⟩ | h
      · exact ⟨_, _, rfl, .inl (.inr ⟨o, h⟩), z, rs⟩
      · exact ⟨_, _, rfl, .inr h, z, rs⟩
theorem RP.ref_inv {g : Gh} {hm : MH} {H : Hp} {n : Nat} {v : V} (r : RP K g hm H (.ref n) v) : v = .ref (g.ρ n) := by
  cases r with
  | of r => cases r; rfl
theorem vp_ix : VP2 K (rIx K) ixM := by
  intro g hm H x y vx vy m Q rl px py e k
  unfold ixM at e
  split at e
  · rename_i i
    have ey := py.int_inv
    split at e
    · obtain ⟨a, vs, rfl, h1, z, rs⟩ := px.lst_inv
      obtain ⟨v, h2, rv⟩ := rs.at e
      exact .inl ⟨a, vs, i, v, rfl, ey, SqL.of h1, h2, k g H v (.refl rl) rv⟩
    · obtain ⟨a, vs, rfl, h1, rs⟩ := px.tup_inv
      obtain ⟨v, h2, rv⟩ := rs.at e
      exact .inr (.inl ⟨a, vs, i, v, rfl, ey, h1, h2, k g H v (.refl rl) rv⟩)
    · obtain ⟨a, vs, rfl, h1, z, rs⟩ := px.scr_inv
      obtain ⟨v, h2, rv⟩ := rs.at e
      exact .inl ⟨a, vs, i, v, rfl, ey, h1, h2, k g H v (.refl rl) rv⟩
    · split at e
      · rename_i n _ xs c
        obtain ⟨z, vs, h1, rs⟩ := rl.ob n _ c
        obtain ⟨v, h2, rv⟩ := rs.at e
        exact .inl ⟨_, vs, i, v, px.ref_inv, ey, SqL.of h1, h2, k g H v (.refl rl) rv⟩
      · cases e
    · split at e
      · rename_i s c
        cases q : atI s i with
        | none => rw [q] at e; cases e
        | some d =>
          rw [q] at e
          cases e
          exact .inr (.inr ⟨_, i, d, px.str_inv, ey, by rw [str_len, zl_eq]; exact c, by simpa using q, k g H _ (.refl rl) (.str _)⟩)
      · cases e
    · cases e
  · cases e
end
end Mi
end P_M4
section P_M5
set_option Elab.async false
set_option linter.all false
set_option maxRecDepth 100000
set_option maxHeartbeats 4000000
/-! M5: statements, targets, loops, comprehensions -/
namespace Mi
open PySem PySem.Spec PyProof.Rows L2

/-! ### the state of a frame: its ground (where it began) and now -/
structure Gd where
  g : Gh
  hm : MH
  H : Hp
  u : Gh → Hp → Prop
  uc : ∀ g H g' H', u g H → Up g H g' H' → u g' H'
structure StS (K : Kf) (B : Gd) (g : Gh) (hm : MH) (H : Hp) (σm : Sl) (σ : L2.St) : Prop where
  gr : Rel K B.g B.hm B.H
  ex : Ext K B.g B.hm B.H g hm H
  en : REnv K g hm H σm σ
  ow : ∀ (i : Nat) (xs : List MV) (a : Addr), σm[i]? = some (.own xs) → σ[i]? = some (some (.ref a)) → B.H a = none
  up : B.u g H
/-- what is left behind a statement -/
def PostS (K : Kf) (W : WX) (B : Gd) (r : Fl) (D : Ends) : Prop := match r with
  | .nx σm hm => ∀ g H σ, StS K B g hm H σm σ → D.nx σ H
  | .bk σm hm => ∀ g H σ, StS K B g hm H σm σ → D.bk σ H
  | .ct σm hm => ∀ g H σ, StS K B g hm H σm σ → D.ct σ H
  | .rt m hm => ∀ g H v, Ext K B.g B.hm B.H g hm H → RV K g H m v → D.rt v H
  | .ex c m σm hm => ∀ g H σ cls d, StS K B g hm H σm σ → RX K g H c m cls d → W cls d σ H
  | .no => False
def rdS (K : Kf) (W : WX) (f : SM) : TS := fun D σ H => ∃ B g hm σm, StS K B g hm H σm σ ∧ PostS K W B (f σm hm) D
section
variable {K : Kf} {W : WX} {B : Gd} {g g' : Gh} {hm hm' : MH} {H H' : Hp} {σm : Sl} {σ : L2.St}
theorem StS.rel (s : StS K B g hm H σm σ) : Rel K g hm H := s.ex.rel
/-- behind an expression -/
theorem StS.ext (s : StS K B g hm H σm σ) (e : Ext K g hm H g' hm' H') : StS K B g' hm' H' σm σ :=
  ⟨s.gr, s.ex.trans s.gr e, s.en.ext s.rel e, s.ow, B.uc _ _ _ _ s.up (e.up s.rel)⟩
theorem StS.set_val (s : StS K B g hm H σm σ) (i : Nat) {m : MV} {v : V} (r : RV K g H m v) : StS K B g hm H (σm.set i (.val m)) (σ.set i (some v)) := by
  refine ⟨s.gr, s.ex, s.en.set_val i r, fun j xs a h1 h2 => ?_, s.up⟩
  rcases get_set h1 with ⟨_, z, _⟩ | ⟨c, h1⟩
  · cases z
  · rw [List.getElem?_set_ne (Ne.symm c)] at h2
    exact s.ow j xs a h1 h2
theorem StS.set_un (s : StS K B g hm H σm σ) (i : Nat) (o : Option V) : StS K B g hm H (σm.set i .un) (σ.set i o) := by
  refine ⟨s.gr, s.ex, s.en.set_un i o, fun j xs a h1 h2 => ?_, s.up⟩
  rcases get_set h1 with ⟨_, z, _⟩ | ⟨c, h1⟩
  · cases z
  · rw [List.getElem?_set_ne (Ne.symm c)] at h2
    exact s.ow j xs a h1 h2
/-- forgetting a slot -/
theorem StS.drop (s : StS K B g hm H σm σ) (i : Nat) : StS K B g hm H (σm.set i .un) σ := by
  refine ⟨s.gr, s.ex, ⟨by simp [s.en.len], fun j t h => ?_, fun j k xs ys h1 h2 ne => ?_⟩, fun j xs a h1 h2 => ?_, s.up⟩
  · rcases get_set h with ⟨rfl, rfl, hl⟩ | ⟨c, h⟩
    · have hl' : j < σ.length := by rw [← s.en.len]; exact hl
      exact ⟨σ[j], List.getElem?_eq_getElem hl', trivial⟩
    · exact s.en.sl j t h
  · rcases get_set h1 with ⟨_, z, _⟩ | ⟨_, h1⟩
    · cases z
    · rcases get_set h2 with ⟨_, z, _⟩ | ⟨_, h2⟩
      · cases z
      · exact s.en.ap j k xs ys h1 h2 ne
  · rcases get_set h1 with ⟨_, z, _⟩ | ⟨_, h1⟩
    · cases z
    · exact s.ow j xs a h1 h2
/-- a slot's own list is frozen -/
theorem StS.freeze (s : StS K B g hm H σm σ) {i : Nat} {xs : List MV} (h : σm[i]? = some (.own xs)) : ∃ g', StS K B g' hm H (σm.set i (.val (.lst xs))) σ := by
  obtain ⟨a, vs, h1, z, h2, h3, nf, nl⟩ := s.en.own h
  have h0 := s.ow i xs a h h1
  have h2' : H a ≠ none := by rw [h2]; intro z; cases z
  obtain ⟨e2, u⟩ := Ext.fzo s.ex h0 h2' nl
  have hi : i < σm.length := (List.getElem?_eq_some_iff.mp h).1
  refine ⟨g.fz a, s.gr, e2, ⟨by simp [s.en.len], fun j t hj => ?_, fun j k ys ws h1 h2 ne => ?_⟩, fun j ys b h1 h2 => ?_, B.uc _ _ _ _ s.up u⟩
  · rcases get_set hj with ⟨rfl, rfl, hl⟩ | ⟨c, hj⟩
    · exact ⟨_, h1, .lst (.inr rfl) h2 z (h3.up u)⟩
    · obtain ⟨o, q1, q2⟩ := s.en.sl j t hj
      refine ⟨o, q1, ?_⟩
      cases t with
      | un => trivial
      | val m =>
        cases o with
        | none => exact q2
        | some v => exact RV.up u q2
      | own ys =>
        cases o with
        | none => exact q2
        | some v =>
          obtain ⟨z2, b, ws, rfl, hb, rb, nf2, nl2⟩ := q2
          refine ⟨z2, b, ws, rfl, hb, rb.up u, fun f => ?_, nl2⟩
          rcases f with f | f
          · exact nf2 f
          · exact s.en.ap j i ys xs hj h c (by rw [q1, h1, f])
  · rcases get_set h1 with ⟨_, z, _⟩ | ⟨_, h1⟩
    · cases z
    · rcases get_set h2 with ⟨_, z, _⟩ | ⟨_, h2⟩
      · cases z
      · exact s.en.ap j k ys ws h1 h2 ne
  · rcases get_set h1 with ⟨_, z, _⟩ | ⟨_, h1⟩
    · cases z
    · exact s.ow j ys b h1 h2
/-- a new list becomes a slot's own -/
theorem StS.set_own (s : StS K B g hm H σm σ) (i : Nat) {a : Addr} {xs : List MV} {vs : List V} (h0 : B.H a = none) (z : xs.length ≤ sizeLine) (h : H a = some (.lst vs)) (r : RVs K g H xs vs) (nf : ¬ g.F a) (nl : ¬ Live g hm a)
    (ne : ∀ (j : Nat) (ys : List MV), j ≠ i → σm[j]? = some (.own ys) → σ[j]? ≠ some (some (.ref a))) : StS K B g hm H (σm.set i (.own xs)) (σ.set i (some (.ref a))) := by
  refine ⟨s.gr, s.ex, s.en.set_own i z h r nf nl ne, fun j ys b h1 h2 => ?_, s.up⟩
  rcases get_set h1 with ⟨rfl, e, hl⟩ | ⟨c, h1⟩
  · rw [List.getElem?_set_self (by rw [← s.en.len]; exact hl)] at h2
    cases h2
    exact h0
  · rw [List.getElem?_set_ne (Ne.symm c)] at h2
    exact s.ow j ys b h1 h2
/-- a slot's own list is changed in place -/
theorem StS.mut_own (s : StS K B g hm H σm σ) {i : Nat} {a : Addr} {xs ys : List MV} {vs ws : List V} (h : σm[i]? = some (.own xs)) (h1 : σ[i]? = some (some (.ref a))) (h2 : H a = some (.lst vs)) (nf : ¬ g.F a) (nl : ¬ Live g hm a)
    (z : ys.length ≤ sizeLine) (r : RVs K g H ys ws) : StS K B g hm (upd H a (.lst ws)) (σm.set i (.own ys)) σ := by
  have h0 := s.ow i xs a h h1
  have h2' : H a ≠ none := by rw [h2]; intro z; cases z
  have u : Up g H g (upd H a (.lst ws)) := ⟨Nat.le_refl _, fun _ _ => rfl, fun _ f => f, fun b o f e => by
    rw [upd_ne (fun q : b = a => nf (by rw [← q]; exact f))]; exact e⟩
  have rel' : Rel K g hm (upd H a (.lst ws)) := by
    refine ⟨s.rel.nx, s.rel.lt, s.rel.inj, s.rel.nf, fun n o q => RO.up u (fun w e => ?_) (s.rel.ob n o q), fun b f => ?_⟩
    · rw [upd_ne (fun q2 => nl ⟨n, (by rw [q]; exact fun z => nomatch z), q2⟩)]; exact e
    · by_cases c : b = a
      · rw [c, upd_same]; intro z; cases z
      · rw [upd_ne c]; exact s.rel.fs b f
  have ex' : Ext K B.g B.hm B.H g hm (upd H a (.lst ws)) := by
    refine ⟨s.ex.n, s.ex.rho, s.ex.f1, s.ex.f2, fun b o e l => ?_, fun b e => ?_, s.ex.fresh, s.ex.live, rel'⟩
    · rw [upd_ne (fun q => by rw [q, h0] at e; cases e)]
      exact s.ex.keep b o e l
    · by_cases c : b = a
      · rw [c, upd_same]; intro z; cases z
      · rw [upd_ne c]; exact s.ex.stay b e
  have hi : i < σm.length := (List.getElem?_eq_some_iff.mp h).1
  refine ⟨s.gr, ex', ⟨by simp [s.en.len], fun j t hj => ?_, fun j k y1 y2 q1 q2 ne => ?_⟩, fun j y1 b q1 q2 => ?_, B.uc _ _ _ _ s.up u⟩
  · rcases get_set hj with ⟨rfl, rfl, hl⟩ | ⟨c, hj⟩
    · exact ⟨_, h1, z, a, ws, rfl, upd_same, r.up u, nf, nl⟩
    · obtain ⟨o, q1, q2⟩ := s.en.sl j t hj
      refine ⟨o, q1, ?_⟩
      cases t with
      | un => trivial
      | val m =>
        cases o with
        | none => exact q2
        | some v => exact RV.up u q2
      | own y1 =>
        cases o with
        | none => exact q2
        | some v =>
          obtain ⟨z2, b, w2, rfl, hb, rb, nf2, nl2⟩ := q2
          refine ⟨z2, b, w2, rfl, ?_, rb.up u, nf2, nl2⟩
          rw [upd_ne (fun e => s.en.ap j i y1 xs hj h c (by rw [q1, h1, e]))]
          exact hb
  · have old : ∀ {j : Nat} {y1 : List MV}, (σm.set i (.own ys))[j]? = some (.own y1) → ∃ y0, σm[j]? = some (.own y0) := fun {j y1} q => by
      rcases get_set q with ⟨rfl, _, _⟩ | ⟨_, q⟩
      · exact ⟨xs, h⟩
      · exact ⟨y1, q⟩
    obtain ⟨a1, e1⟩ := old q1
    obtain ⟨a2, e2⟩ := old q2
    exact s.en.ap j k a1 a2 e1 e2 ne
  · rcases get_set q1 with ⟨rfl, _, _⟩ | ⟨_, q1⟩
    · exact s.ow j xs b h q2
    · exact s.ow j y1 b q1 q2
/-- an expression's part of a statement -/
theorem Post.toE {α : Type} {r : Res α} {k : α → MH → Fl} {D : Ends} {P : α → Gh → MH → Hp → Prop} (s : StS K B g hm H σm σ) (fl : Fl) (hf : fl = (match r with
    | .ok m h => k m h
    | .ex c v h => .ex c v σm h
    | .no => .no)) (p : PostS K W B fl D) (hk : ∀ m g' hm' H', Ext K g hm H g' hm' H' → PostS K W B (k m hm') D → P m g' hm' H') : Post K W g hm σ H r P := by
  subst hf
  cases r with
  | ok m h => exact fun g' H' e => hk m g' h H' e p
  | ex c v h => exact fun g' H' cls d e x => p g' H' σ cls d (s.ext e) x
  | no => exact p
end
def bindS {α : Type} (f : Sl → MH → Res α) (k : α → Sl → MH → Fl) : SM := fun σ h => match f σ h with
  | .ok m h' => k m σ h'
  | .ex c v h' => .ex c v σ h'
  | .no => .no

/-! ### blocks -/
def nextS : SM := fun σ h => .nx σ h
def seqS (a b : SM) : SM := fun σ h => match a σ h with
  | .nx σ' h' => b σ' h'
  | r => r
section
variable {K : Kf} {W : WX} {X : Cx} {st : Stmt} {rest : List Stmt} {pos : Pos} {e : Expr}
theorem ss_nil : PSs X [] (rdS X.K W nextS) := imp_ss pss_nil fun D σ H h => by
  obtain ⟨B, g, hm, σm, s, p⟩ := h
  exact p g H σ s
theorem rd_seq {a b : SM} (D : Ends) (σ : L2.St) (H : Hp) (h : rdS K W (seqS a b) D σ H) : tSeq (rdS K W a) (rdS K W b) D σ H := by
  obtain ⟨B, g, hm, σm, s, p⟩ := h
  refine ⟨B, g, hm, σm, s, ?_⟩
  unfold seqS at p
  cases c : a σm hm with
  | nx σ1 h1 =>
    rw [c] at p
    exact fun g' H' σ' s' => ⟨B, g', h1, σ1, s', p⟩
  | rt m h1 => rw [c] at p; exact p
  | bk σ1 h1 => rw [c] at p; exact p
  | ct σ1 h1 => rw [c] at p; exact p
  | ex c1 m σ1 h1 => rw [c] at p; exact p
  | no => rw [c] at p; exact p
theorem ss_cons {a b : SM} (h1 : PS X st (rdS X.K W a)) (h2 : PSs X rest (rdS X.K W b)) : PSs X (st :: rest) (rdS X.K W (seqS a b)) := imp_ss (pss_cons h1 h2) rd_seq
theorem ss_one {a : SM} (h1 : PS X st (rdS X.K W a)) : PSs X [st] (rdS X.K W a) := pss_one h1
theorem ss_pass : PS X (.Pass pos) (rdS X.K W nextS) := imp_s ps_pass fun D σ H h => by
  obtain ⟨B, g, hm, σm, s, p⟩ := h
  exact p g H σ s
def breakS : SM := fun σ h => .bk σ h
def contS : SM := fun σ h => .ct σ h
theorem ss_break : PS X (.Break pos) (rdS X.K W breakS) := imp_s ps_break fun D σ H h => by
  obtain ⟨B, g, hm, σm, s, p⟩ := h
  exact p g H σ s
theorem ss_continue : PS X (.Continue pos) (rdS X.K W contS) := imp_s ps_continue fun D σ H h => by
  obtain ⟨B, g, hm, σm, s, p⟩ := h
  exact p g H σ s
/-- code that is not come to -/
def noS : SM := fun _ _ => .no
theorem ss_no : PS X st (rdS X.K W noS) := imp_s ps_never fun D σ H h => by
  obtain ⟨B, g, hm, σm, s, p⟩ := h
  exact p
/-- ahead of the block a slot's own list is frozen -/
def fzS (i : Nat) (b : SM) : SM := fun σ h => match σ[i]? with
  | some (.own xs) => b (σ.set i (.val (.lst xs))) h
  | _ => b σ h
theorem ss_fz {b : SM} (i : Nat) (h : PSs X rest (rdS X.K W b)) : PSs X rest (rdS X.K W (fzS i b)) := imp_ss h fun D σ H q => by
  obtain ⟨B, g, hm, σm, s, p⟩ := q
  unfold fzS at p
  split at p
  · rename_i xs c
    obtain ⟨g', s'⟩ := s.freeze c
    exact ⟨B, g', hm, _, s', p⟩
  · exact ⟨B, g, hm, σm, s, p⟩
/-! small statements -/
def exprS (f : EM) : SM := bindS f fun _ σ h => .nx σ h
def retS (f : EM) : SM := bindS f fun m _ h => .rt m h
theorem ss_expr {f : EM} (he : PE X e (rdE X.K W f)) (hs : swapsWith e none pos.line X.env = pure false := by rfl) : PS X (.Expr e pos) (rdS X.K W (exprS f)) := imp_s (ps_expr he hs) fun D σ H h => by
  obtain ⟨B, g, hm, σm, s, p⟩ := h
  exact ⟨g, σm, hm, s.rel, s.en, Post.toE s _ rfl p fun m g' hm' H' e k v rv => k g' H' σ (s.ext e)⟩
theorem ss_ret {f : EM} (he : PE X e (rdE X.K W f)) : PS X (.Return (some e) pos) (rdS X.K W (retS f)) := imp_s (ps_ret he) fun D σ H h => by
  obtain ⟨B, g, hm, σm, s, p⟩ := h
  exact ⟨g, σm, hm, s.rel, s.en, Post.toE s _ rfl p fun m g' hm' H' e k v rv => k g' H' v (s.ext e).ex rv⟩
def retN : SM := fun _ h => .rt .non h
theorem ss_retN : PS X (.Return none pos) (rdS X.K W retN) := imp_s ps_retN fun D σ H h => by
  obtain ⟨B, g, hm, σm, s, p⟩ := h
  exact p g H .non s.ex .non
def ifS (c : TM) (a b : SM) : SM := bindS c fun x => if x = true then a else b
theorem ss_if {c : Expr} {p q : List Stmt} {fc : TM} {a b : SM} (hc : PT X c (rdT X.K W fc)) (ha : PSs X p (rdS X.K W a)) (hb : PSs X q (rdS X.K W b)) : PS X (.If c p q pos) (rdS X.K W (ifS fc a b)) := imp_s (ps_if hc ha hb) fun D σ H h => by
  obtain ⟨B, g, hm, σm, s, p⟩ := h
  refine ⟨g, σm, hm, s.rel, s.en, Post.toE (k := fun x h => (if x = true then a else b) σm h) s _ rfl p fun x g' hm' H' e k => ?_⟩
  cases x with
  | true => exact ⟨B, g', hm', σm, s.ext e, k⟩
  | false => exact ⟨B, g', hm', σm, s.ext e, k⟩
def setS (i : Nat) (f : EM) : SM := bindS f fun m σ h => .nx (σ.set i (.val m)) h
theorem rd_set {i : Nat} {f : EM} (D : Ends) (σ : L2.St) (H : Hp) (h : rdS K W (setS i f) D σ H) : tAsg (rdE K W f) (gName i) D σ H := by
  obtain ⟨B, g, hm, σm, s, p⟩ := h
  exact ⟨g, σm, hm, s.rel, s.en, Post.toE (k := fun m h => .nx (σm.set i (.val m)) h) s _ rfl p fun m g' hm' H' e k v rv => k g' H' _ ((s.ext e).set_val i rv)⟩
theorem ss_set {i : Nat} {x : Str} {f : EM} {pos' : Pos} (hN : X.N.Nodup) (hi : X.N[i]? = some x) (hx : Loc X.env.scope x) (hf : X.fn x = true ∨ X.env.scope.names.lookup x = some .local) (he : PE X e (rdE X.K W f))
    (hs : swapsWith e (some (.Name x pos')) pos.line X.env = pure false := by rfl) : PS X (.Assign [.Name x pos'] e pos) (rdS X.K W (setS i f)) := imp_s (ps_set hN hi hx he hs hf) rd_set
/-- a new list becomes a slot's own -/
def ownS (i : Nat) (f : OM) : SM := bindS f fun xs σ h => .nx (σ.set i (.own xs)) h
theorem rd_own {i : Nat} {f : OM} (D : Ends) (σ : L2.St) (H : Hp) (h : rdS K W (ownS i f) D σ H) : tAsg (rdO K W f) (gName i) D σ H := by
  obtain ⟨B, g, hm, σm, s, p⟩ := h
  refine ⟨g, σm, hm, s.rel, s.en, Post.toE (k := fun m h => .nx (σm.set i (.own m)) h) s _ rfl p fun xs g' hm' H' e k a vs h0 h1 z rv nf nl => ?_⟩
  have hb : B.H a = none := by
    cases q : B.H a with
    | none => rfl
    | some o => exact absurd h0 (s.ex.stay a (by rw [q]; intro z; cases z))
  refine k g' H' _ ((s.ext e).set_own i hb z h1 rv nf nl fun j ys _ hj q => ?_)
  obtain ⟨b, ws, q1, _, q3, _⟩ := s.en.own hj
  rw [q1] at q
  have eb : b = a := by injection q with q; injection q with q; injection q
  rw [eb, h0] at q3
  cases q3
theorem ss_own {i : Nat} {x : Str} {f : OM} {pos' : Pos} (hN : X.N.Nodup) (hi : X.N[i]? = some x) (hx : Loc X.env.scope x) (hf : X.fn x = true ∨ X.env.scope.names.lookup x = some .local) (he : PE X e (rdO X.K W f))
    (hs : swapsWith e (some (.Name x pos')) pos.line X.env = pure false := by rfl) : PS X (.Assign [.Name x pos'] e pos) (rdS X.K W (ownS i f)) := imp_s (ps_set hN hi hx he hs hf) rd_own
end
end Mi
end P_M5
section P_M6
set_option Elab.async false
set_option linter.all false
set_option maxRecDepth 100000
set_option maxHeartbeats 4000000
/-! M6: targets, what is walked, for, while, comprehensions -/
namespace Mi
open PySem PySem.Spec PyProof.Rows L2

/-! ### targets -/
abbrev Tgt := MV → Sl → Option Sl
structure TgOk (is : List Nat) (σm : Sl) (σ : L2.St) (σm' : Sl) (σ' : L2.St) : Prop where
  len : σ'.length = σ.length
  out : ∀ j, j ∉ is → σ'[j]? = σ[j]? ∧ σm'[j]? = σm[j]?
  ins : ∀ j ∈ is, ∀ xs, σm'[j]? ≠ some (.own xs)
def rdG (K : Kf) (t : Tgt) (is : List Nat) : TG := fun v σ H Q => ∃ g hm σm m, Rel K g hm H ∧ REnv K g hm H σm σ ∧ RV K g H m v ∧ ∃ σm', t m σm = some σm' ∧ ∀ σ', REnv K g hm H σm' σ' → TgOk is σm σ σm' σ' → Q σ' H
def rdGs (K : Kf) (t : List MV → Sl → Option Sl) (is : List Nat) : TGs := fun vs σ H Q => ∃ g hm σm ms, Rel K g hm H ∧ REnv K g hm H σm σ ∧ RVs K g H ms vs ∧ ∃ σm', t ms σm = some σm' ∧ ∀ σ', REnv K g hm H σm' σ' → TgOk is σm σ σm' σ' → Q σ' H
def nameT (i : Nat) : Tgt := fun m σ => some (σ.set i (.val m))
def nilT : List MV → Sl → Option Sl := fun ms σ => match ms with
  | [] => some σ
  | _ => none
def consT (t : Tgt) (u : List MV → Sl → Option Sl) : List MV → Sl → Option Sl := fun ms σ => match ms with
  | m :: r => (t m σ).bind (u r)
  | [] => none
def tupT (n : Nat) (u : List MV → Sl → Option Sl) : Tgt := fun m σ => match m with
  | .tup ms => if ms.length = n then u ms σ else none
  | _ => none
theorem imp_gs {X : Cx} {tg : List Expr} {t t' : TGs} (h : PGs X tg t) (k : ∀ v σ H Q, t' v σ H Q → t v σ H Q) : PGs X tg t' := ⟨fun pins s σ H v u Q I r q => h.run pins s σ H v u Q I r (k v σ H Q q)⟩
section
variable {K : Kf} {X : Cx} {pos : Pos}
theorem sg_name {i : Nat} {x : Str} (hN : X.N.Nodup) (hi : X.N[i]? = some x) (hx : Loc X.env.scope x) (hf : X.fn x = true ∨ X.env.scope.names.lookup x = some .local) : PG X (.Name x pos) (rdG X.K (nameT i) [i]) :=
  imp_g (pg_name hN hi hx hf) fun v σ H Q h => by
    obtain ⟨g, hm, σm, m, rl, R, rv, σm', e, q⟩ := h
    cases e
    refine q _ (R.set_val i rv) ⟨by simp, fun j hj => ?_, fun j hj xs z => ?_⟩
    · have hj : i ≠ j := fun e => hj (by simp [e])
      exact ⟨List.getElem?_set_ne hj, List.getElem?_set_ne hj⟩
    · have hj : j = i := by simpa using hj
      subst hj
      rcases get_set z with ⟨_, z, _⟩ | ⟨c, _⟩
      · cases z
      · exact c rfl
theorem sgs_nil : PGs X [] (rdGs X.K nilT []) := imp_gs pgs_nil fun vs σ H Q h => by
  obtain ⟨g, hm, σm, ms, rl, R, rv, σm', e, q⟩ := h
  unfold nilT at e
  split at e
  · cases e
    cases rv
    exact ⟨rfl, q σ R ⟨rfl, fun _ _ => ⟨rfl, rfl⟩, fun j hj => absurd hj (by simp)⟩⟩
  · cases e
theorem sgs_cons {e : Expr} {es : List Expr} {t : Tgt} {u : List MV → Sl → Option Sl} {is js : List Nat} (h1 : PG X e (rdG X.K t is)) (h2 : PGs X es (rdGs X.K u js))
    (hs : (assignEach (e :: es) X.env).map (·.2) = assign e X.env :: (assignEach es X.env).map (·.2) := by rfl) : PGs X (e :: es) (rdGs X.K (consT t u) (is ++ js)) :=
  imp_gs (pgs_cons h1 h2 hs) fun vs σ H Q h => by
    obtain ⟨g, hm, σm, ms, rl, R, rv, σm', e, q⟩ := h
    unfold consT at e
    split at e
    · rename_i m r
      cases rv with
      | cons r1 rr =>
        rename_i v vs
        cases c : t m σm with
        | none => rw [c] at e; cases e
        | some σ1 =>
          rw [c] at e
          have e : u r σ1 = some σm' := e
          refine ⟨v, vs, rfl, g, hm, σm, m, rl, R, r1, σ1, c, fun σ' R' ok => ⟨g, hm, σ1, r, rl, R', rr, σm', e, fun σ2 R2 ok2 => q σ2 R2 ⟨ok2.len.trans ok.len, fun j hj => ?_, fun j hj xs z => ?_⟩⟩⟩
          · have hj1 : j ∉ is := fun z => hj (List.mem_append_left _ z)
            have hj2 : j ∉ js := fun z => hj (List.mem_append_right _ z)
            exact ⟨(ok2.out j hj2).1.trans (ok.out j hj1).1, (ok2.out j hj2).2.trans (ok.out j hj1).2⟩
          · by_cases hj2 : j ∈ js
            · exact ok2.ins j hj2 xs z
            · have hj1 : j ∈ is := (List.mem_append.mp hj).resolve_right hj2
              rw [(ok2.out j hj2).2] at z
              exact ok.ins j hj1 xs z
    · cases e
theorem sg_tup {es : List Expr} {k n : Nat} {u : List MV → Sl → Option Sl} {is : List Nat} (hc : X.calm = true) (h : PGs X es (rdGs X.K u is))
    (hn : (assignEach es X.env).length = n := by rfl) (hst : (assignEach es X.env).findIdx? (·.1) = none := by rfl) : PG X (.Tuple es k pos) (rdG X.K (tupT n u) is) :=
  imp_g (pg_tup hc h hn hst) fun v σ H Q h => by
    obtain ⟨g, hm, σm, m, rl, R, rv, σm', e, q⟩ := h
    unfold tupT at e
    split at e
    · rename_i ms
      split at e
      · rename_i c
        obtain ⟨a, vs, rfl, h1, rs⟩ := (RP.of (hm := hm) rv).tup_inv
        exact ⟨a, vs, rfl, h1, by rw [← rs.length]; exact c, g, hm, σm, ms, rl, R, rs, σm', e, q⟩
      · cases e
    · cases e
end
theorem StS.tgt {K : Kf} {B : Gd} {g : Gh} {hm : MH} {H : Hp} {σm σm' : Sl} {σ σ' : L2.St} {is : List Nat} (s : StS K B g hm H σm σ) (R : REnv K g hm H σm' σ') (ok : TgOk is σm σ σm' σ') : StS K B g hm H σm' σ' := by
  refine ⟨s.gr, s.ex, R, fun i xs a h1 h2 => ?_, s.up⟩
  by_cases c : i ∈ is
  · exact absurd h1 (ok.ins i c xs)
  · exact s.ow i xs a (by rw [← (ok.out i c).2]; exact h1) (by rw [← (ok.out i c).1]; exact h2)
def asgS (t : Tgt) (f : EM) : SM := bindS f fun m σ h => match t m σ with
  | some σ' => .nx σ' h
  | none => .no
section
variable {K : Kf} {W : WX} {X : Cx} {tg e : Expr} {pos : Pos}
theorem rd_asg {t : Tgt} {is : List Nat} {f : EM} (D : Ends) (σ : L2.St) (H : Hp) (h : rdS K W (asgS t f) D σ H) : tAsg (rdE K W f) (rdG K t is) D σ H := by
  obtain ⟨B, g, hm, σm, s, p⟩ := h
  refine ⟨g, σm, hm, s.rel, s.en, Post.toE (k := fun m h => match t m σm with
    | some σ' => .nx σ' h
    | none => .no) s _ rfl p fun m g' hm' H' e k v rv => ?_⟩
  cases c : t m σm with
  | none =>
    rw [c] at k
    exact k.elim
  | some σ1 =>
    rw [c] at k
    exact ⟨g', hm', σm, m, e.rel, (s.ext e).en, rv, σ1, c, fun σ' R ok => k g' H' σ' ((s.ext e).tgt R ok)⟩
theorem ss_asg {t : Tgt} {is : List Nat} {f : EM} (he : PE X e (rdE X.K W f)) (hg : PG X tg (rdG X.K t is)) (hs : swapsWithSole [tg] e pos.line X.env = pure false := by rfl) (hw : swappedStores [tg] e X.env = pure none := by rfl)
    (h1 : (assignEach [tg] X.env).map (·.2) = [assign tg X.env] := by rfl) : PS X (.Assign [tg] e pos) (rdS X.K W (asgS t f)) := imp_s (ps_asg he hg hs hw h1) rd_asg
end

/-! ### what is walked -/
def ItOk (K : Kf) (S : Gh → MH → Hp → Prop) (J : It) (ms : List MV) : Prop := ∀ g hm H, Rel K g hm H → S g hm H → ∀ i, (∀ m, ms[i]? = some m → J.go i H ∧ ∀ x H', J.yld i H x H' → ∃ g', Ext K g hm H g' hm H' ∧ RV K g' H' m x) ∧ (ms.length ≤ i → J.stop i H)
/-- it stands as long as what is frozen stands -/
def rdI (K : Kf) (W : WX) (f : OM) : TI := fun σ H R => Rdg K W σ H f fun ms g' _ H' => ∀ J, ItOk K (fun g _ H => Up g' H' g H) J ms → R J H'
/-- it stands as long as expressions alone run -/
def rdIP (K : Kf) (W : WX) (f : OM) : TI := fun σ H R => Rdg K W σ H f fun ms g' hm' H' => ∀ J, ItOk K (fun g hm H => Ext K g' hm' H' g hm H) J ms → R J H'
theorem imp_i {X : Cx} {tg it : Expr} {t t' : TI} (h : PI X tg it t) (k : ∀ σ H Q, t' σ H Q → t σ H Q) : PI X tg it t' := ⟨fun pins s σ H R I q => h.run pins s σ H R I (k σ H R q)⟩
theorem toIP {X : Cx} {W : WX} {tg it : Expr} {f : OM} (h : PI X tg it (rdI X.K W f)) : PI X tg it (rdIP X.K W f) := imp_i h fun σ H R q =>
  let ⟨g, σm, hm, rl, Rn, p⟩ := q
  ⟨g, σm, hm, rl, Rn, p.mono fun ms g' hm' H' e k J ok => k J fun g2 hm2 H2 rl2 x => ok g2 hm2 H2 rl2 (x.up e.rel)⟩
/-- the items of a list, a tuple that is a value -/
def itemsV : MV → MH → Res (List MV) := fun m h => match m with
  | .lst xs => .ok xs h
  | .scr xs => .ok xs h
  | _ => .no
def itemsT : MV → MH → Res (List MV) := fun m h => match m with
  | .tup xs => .ok xs h
  | _ => .no
def itE (f : EM) : OM := bindE f fun m _ h => itemsV m h
def itTE (f : EM) : OM := bindE f fun m _ h => itemsT m h
section
variable {K : Kf} {W : WX} {X : Cx} {tg e : Expr} {pos : Pos}
theorem sqL_inj {H : Hp} {a : Addr} {xs ys : List V} (h : H a = some (.lst xs)) (q : SqL K H a ys) (hk : K.lookup a = none) : ys = xs := by
  rcases q with (q | ⟨o, q⟩) | ⟨o, its, n, q, _⟩
  · rw [h] at q; cases q; rfl
  · rw [h] at q; cases q
  · rw [hk] at q; cases q
/-- a list that stays: every reading of it is the same by the state's own heap; here the reading that the rule hands on is asked of all readings -/
theorem it_list {S : Gh → MH → Hp → Prop} {a : Addr} {ms : List MV} (h : ∀ g hm H, Rel K g hm H → S g hm H → ∃ vs, SqL K H a vs ∧ RVs K g H ms vs) : ItOk K S (Itl K a) ms := fun g hm H rl s i => by
  obtain ⟨vs, q, rs⟩ := h g hm H rl s
  refine ⟨fun m hm' => ?_, fun hi => ⟨vs, q, by rw [← rs.length]; exact hi⟩⟩
  obtain ⟨v, h1, rv⟩ := rs.get hm'
  refine ⟨⟨vs, v, q, h1⟩, fun x H' y => ?_⟩
  obtain ⟨rfl, y⟩ := y
  have e := y vs q
  rw [h1] at e
  cases e
  exact ⟨g, .refl rl, rv⟩
theorem it_tup {S : Gh → MH → Hp → Prop} {a : Addr} {ms : List MV} (h : ∀ g hm H, Rel K g hm H → S g hm H → ∃ vs, SqT K H a vs ∧ RVs K g H ms vs) : ItOk K S (Itt K a) ms := fun g hm H rl s i => by
  obtain ⟨vs, q, rs⟩ := h g hm H rl s
  refine ⟨fun m hm' => ?_, fun hi => ⟨vs, q, by rw [← rs.length]; exact hi⟩⟩
  obtain ⟨v, h1, rv⟩ := rs.get hm'
  refine ⟨⟨vs, v, q, h1⟩, fun x H' y => ?_⟩
  obtain ⟨rfl, y⟩ := y
  have e := y vs q
  rw [h1] at e
  cases e
  exact ⟨g, .refl rl, rv⟩
theorem rv_seq {g : Gh} {H : Hp} {m : MV} {v : V} {ms : List MV} {h h' : MH} (r : RV K g H m v) (e : itemsV m h = .ok ms h') : h' = h ∧ ∃ a vs, v = .ref a ∧ SqL K H a vs ∧ RVs K g H ms vs ∧ (∀ g' H', Up g H g' H' → SqL K H' a vs) := by
  cases r <;> first | (exfalso; simp [itemsV] at e; done) | skip
  · rename_i a vs xs f hh z rs
    cases e
    exact ⟨rfl, a, vs, rfl, SqL.of hh, rs, fun g' H' u => SqL.of (u.hp _ _ f hh)⟩
  · rename_i a vs xs hh z rs
    cases e
    rcases hh with ⟨f, o, hh⟩ | hh
    · exact ⟨rfl, a, vs, rfl, .inl (.inr ⟨o, hh⟩), rs, fun g' H' u => .inl (.inr ⟨o, u.hp _ _ f hh⟩)⟩
    · exact ⟨rfl, a, vs, rfl, .inr hh, rs, fun g' H' u => .inr hh⟩
theorem rv_tup {g : Gh} {H : Hp} {m : MV} {v : V} {ms : List MV} {h h' : MH} (r : RV K g H m v) (e : itemsT m h = .ok ms h') : h' = h ∧ ∃ a vs, v = .ref a ∧ SqT K H a vs ∧ RVs K g H ms vs ∧ (∀ g' H', Up g H g' H' → SqT K H' a vs) := by
  cases r <;> first | (exfalso; simp [itemsT] at e; done) | skip
  · rename_i a vs xs f hh z rs
    cases e
    exact ⟨rfl, a, vs, rfl, SqT.of hh, rs, fun g' H' u => SqT.of (u.hp _ _ f hh)⟩
  · rename_i a vs xs w rs
    cases e
    exact ⟨rfl, a, vs, rfl, .inr w, rs, fun g' H' u => .inr w⟩
theorem si_list {f : EM} (he : PE X e (rdE X.K W f)) : PI X tg e (rdI X.K W (itE f)) := imp_i (pi_list he) fun σ H R h => by
  obtain ⟨g, σm, hm, rl, Rn, p⟩ := h
  refine ⟨g, σm, hm, rl, Rn, (Post.bind rl p).mono fun m g' hm' H' e q v rv => ?_⟩
  have q : Post X.K W g' hm' σ H' (itemsV m hm') fun ms g' _ H' => ∀ J, ItOk X.K (fun g _ H => Up g' H' g H) J ms → R J H' := q
  cases c : itemsV m hm' with
  | ok ms h2 =>
    rw [c] at q
    obtain ⟨rfl, a, vs, rfl, h1, rs, st⟩ := rv_seq rv c
    exact ⟨a, rfl, ⟨vs, h1⟩, q g' H' (.refl e.rel) _ (it_list fun g2 hm2 H2 rl2 u => ⟨vs, st _ _ u, rs.up u⟩)⟩
  | ex c1 v1 h1 => exfalso; unfold itemsV at c; split at c <;> cases c
  | no => rw [c] at q; exact q.elim
theorem si_tup {f : EM} (he : PE X e (rdE X.K W f)) : PI X tg e (rdI X.K W (itTE f)) := imp_i (pi_tup he) fun σ H R h => by
  obtain ⟨g, σm, hm, rl, Rn, p⟩ := h
  refine ⟨g, σm, hm, rl, Rn, (Post.bind rl p).mono fun m g' hm' H' e q v rv => ?_⟩
  have q : Post X.K W g' hm' σ H' (itemsT m hm') fun ms g' _ H' => ∀ J, ItOk X.K (fun g _ H => Up g' H' g H) J ms → R J H' := q
  cases c : itemsT m hm' with
  | ok ms h2 =>
    rw [c] at q
    obtain ⟨rfl, a, vs, rfl, h1, rs, st⟩ := rv_tup rv c
    exact ⟨a, rfl, ⟨vs, h1⟩, q g' H' (.refl e.rel) _ (it_tup fun g2 hm2 H2 rl2 u => ⟨vs, st _ _ u, rs.up u⟩)⟩
  | ex c1 v1 h1 => exfalso; unfold itemsT at c; split at c <;> cases c
  | no => rw [c] at q; exact q.elim
end
/-! a slot's own list, walked by a comprehension -/
def itOwn (i : Nat) : OM := fun σ h => match σ[i]? with
  | some (.own xs) => .ok xs h
  | some (.val m) => itemsV m h
  | _ => .no
theorem sip_own {W : WX} {X : Cx} {tg e : Expr} {i : Nat} (he : PE X e (tVar i)) : PI X tg e (rdIP X.K W (itOwn i)) := imp_i (pi_list he) fun σ H R h => by
  obtain ⟨g, σm, hm, rl, Rn, p⟩ := h
  unfold itOwn at p
  split at p
  · rename_i xs c
    obtain ⟨a, vs, h1, z, h2, h3, nf, nl⟩ := Rn.own c
    refine ⟨_, h1, a, rfl, ⟨vs, SqL.of h2⟩, p g H (.refl rl) _ (it_list fun g2 hm2 H2 rl2 x => ⟨vs, SqL.of (x.keep _ _ h2 nl), h3.up (x.up rl)⟩)⟩
  · rename_i m c
    obtain ⟨v, h1, rv⟩ := Rn.val c
    cases c2 : itemsV m hm with
    | ok ms h2 =>
      rw [c2] at p
      obtain ⟨rfl, a, vs, rfl, q1, rs, st⟩ := rv_seq rv c2
      exact ⟨_, h1, a, rfl, ⟨vs, q1⟩, p g H (.refl rl) _ (it_list fun g2 hm2 H2 rl2 u => ⟨vs, st _ _ (u.up rl), rs.up (u.up rl)⟩)⟩
    | ex c1 v1 h1 => exfalso; unfold itemsV at c2; split at c2 <;> cases c2
    | no => rw [c2] at p; exact p.elim
  · exact p.elim

/-! ### for -/
def forL (t : Tgt) (body : SM) : List MV → SM
  | [], σ, h => .nx σ h
  | m :: r, σ, h => match t m σ with
    | none => .no
    | some σ1 => match body σ1 h with
      | .nx σ2 h2 => forL t body r σ2 h2
      | .ct σ2 h2 => forL t body r σ2 h2
      | .bk σ2 h2 => .nx σ2 h2
      | r => r
def forS (t : Tgt) (f : OM) (body : SM) : SM := bindS f fun ms => forL t body ms
section
variable {K : Kf} {W : WX} {X : Cx} {tg e : Expr} {pos : Pos}
theorem rd_for {t : Tgt} {is : List Nat} {f : OM} {body : SM} (D : Ends) (σ : L2.St) (H : Hp) (h : rdS K W (forS t f body) D σ H) : tFor (rdI K W f) (rdG K t is) (rdS K W body) D σ H := by
  obtain ⟨B, g, hm, σm, s, p⟩ := h
  refine ⟨g, σm, hm, s.rel, s.en, Post.toE (k := fun ms h => forL t body ms σm h) s _ rfl p fun ms g1 hm1 H1 e k J ok => ?_⟩
  have s1 := s.ext e
  -- the ground, with this loop's start
  generalize hB : ({ B with u := fun g H => B.u g H ∧ Up g1 H1 g H, uc := fun a b c d x y => ⟨B.uc a b c d x.1 y, ⟨Nat.le_trans x.2.n y.n, fun n hn => (y.rho n (Nat.lt_of_lt_of_le hn x.2.n)).trans (x.2.rho n hn), fun b f => y.f1 b (x.2.f1 b f), fun b o f q => y.hp b o (x.2.f1 b f) (x.2.hp b o f q)⟩⟩ } : Gd) = B'
  have weak : ∀ {g hm H σm σ}, StS K B' g hm H σm σ → StS K B g hm H σm σ := fun {g hm H σm σ} x => by
    subst hB
    exact ⟨x.gr, x.ex, x.en, x.ow, x.up.1⟩
  have upB : ∀ {g hm H σm σ}, StS K B' g hm H σm σ → Up g1 H1 g H := fun {g hm H σm σ} x => by
    subst hB
    exact x.up.2
  have s1' : StS K B' g1 hm1 H1 σm σ := by
    subst hB
    exact ⟨s1.gr, s1.ex, s1.en, s1.ow, s1.up, .refl⟩
  refine ⟨fun i m σ H => ∃ g hm σm, StS K B' g hm H σm σ ∧ i ≤ ms.length ∧ m = ms.length - i ∧ PostS K W B (forL t body (ms.drop i) σm hm) D, ⟨ms.length, g1, hm1, σm, s1', Nat.zero_le _, rfl, by rw [List.drop_zero]; exact k⟩, ?_⟩
  rintro i m σ2 H2 ⟨g2, hm2, σm2, s2, hi, rfl, k2⟩
  obtain ⟨o1, o2⟩ := ok g2 hm2 H2 s2.rel (upB s2) i
  by_cases c : i < ms.length
  · have hx : ms[i]? = some ms[i] := List.getElem?_eq_getElem c
    have hd : ms.drop i = ms[i] :: ms.drop (i + 1) := List.drop_eq_getElem_cons c
    rw [hd] at k2
    unfold forL at k2
    obtain ⟨hgo, hy⟩ := o1 _ hx
    refine .inr ⟨hgo, fun σ' H' => ∃ g hm σm, StS K B' g hm H' σm σ' ∧ PostS K W B (forL t body (ms.drop (i + 1)) σm hm) D, fun σ' H' ⟨g3, hm3, σm3, s3, k3⟩ => ⟨ms.length - (i + 1), by omega, g3, hm3, σm3, s3, c, rfl, k3⟩, fun x H' y => ?_⟩
    obtain ⟨g3, e3, rv⟩ := hy x H' y
    cases ct : t ms[i] σm2 with
    | none =>
      simp only [ct] at k2
      exact k2.elim
    | some σm3 =>
      simp only [ct] at k2
      have s3 := s2.ext e3
      refine ⟨g3, hm2, σm2, ms[i], e3.rel, s3.en, rv, σm3, ct, fun σ' R okT => ?_⟩
      have s4 := s3.tgt R okT
      refine ⟨B', g3, hm2, σm3, s4, ?_⟩
      cases cb : body σm3 hm2 with
      | nx σ5 h5 =>
        simp only [cb] at k2
        exact fun g' H' σ' s' => ⟨g', h5, σ5, s', k2⟩
      | ct σ5 h5 =>
        simp only [cb] at k2
        exact fun g' H' σ' s' => ⟨g', h5, σ5, s', k2⟩
      | bk σ5 h5 =>
        simp only [cb] at k2
        exact fun g' H' σ' s' => k2 g' H' σ' (weak s')
      | rt m h5 =>
        simp only [cb] at k2
        exact fun g' H' v ex rv => k2 g' H' v (by subst hB; exact ex) rv
      | ex c1 m σ5 h5 =>
        simp only [cb] at k2
        exact fun g' H' σ' cls d s' x => k2 g' H' σ' cls d (weak s') x
      | no =>
        simp only [cb] at k2
        exact k2.elim
  · have ei : i = ms.length := by omega
    subst ei
    rw [List.drop_length] at k2
    exact .inl ⟨o2 (Nat.le_refl _), k2 g2 H2 σ2 (weak s2)⟩
theorem ss_for {t : Tgt} {is : List Nat} {f : OM} {body : List Stmt} {b : SM} (hp : PassesOwn (model X.prog X.w) X.A X.env X.xe) (hc : X.calm = true) (hi : PI X tg e (rdI X.K W f)) (hg : PG X tg (rdG X.K t is)) (hb : PSs X body (rdS X.K W b))
    (hs : ∀ x, foldedSetIterable e X.env x = pure x := by intro _; rfl) : PS X (.For tg e body [] pos) (rdS X.K W (forS t f b)) := imp_s (ps_for hp hc hi hg hb hs) rd_for

/-! ### while -/
def whileL (c : TM) (body : SM) : Nat → SM
  | 0, _, _ => .no
  | n + 1, σ, h => match c σ h with
    | .ok true h1 => (match body σ h1 with
      | .nx σ2 h2 => whileL c body n σ2 h2
      | .ct σ2 h2 => whileL c body n σ2 h2
      | .bk σ2 h2 => .nx σ2 h2
      | r => r)
    | .ok false h1 => .nx σ h1
    | .ex c v h => .ex c v σ h
    | .no => .no
theorem rd_while {fc : TM} {body : SM} (n : Nat) (D : Ends) (σ : L2.St) (H : Hp) (h : rdS K W (whileL fc body n) D σ H) : tWhile (rdT K W fc) (rdS K W body) D σ H := by
  obtain ⟨B, g, hm, σm, s, p⟩ := h
  refine ⟨fun m σ H => ∃ g hm σm, StS K B g hm H σm σ ∧ PostS K W B (whileL fc body m σm hm) D, ⟨n, g, hm, σm, s, p⟩, ?_⟩
  rintro m σ H ⟨g, hm, σm, s, p⟩
  cases m with
  | zero => exact p.elim
  | succ m =>
    unfold whileL at p
    refine ⟨g, σm, hm, s.rel, s.en, ?_⟩
    cases c : fc σm hm with
    | ok b h1 =>
      rw [c] at p
      intro g1 H1 e1
      cases b with
      | false => exact iteF (p g1 H1 σ (s.ext e1))
      | true =>
        refine iteT ⟨fun σ' H' => ∃ g hm σm, StS K B g hm H' σm σ' ∧ PostS K W B (whileL fc body m σm hm) D, fun σ' H' ⟨g3, hm3, σm3, s3, k3⟩ => ⟨m, Nat.lt_succ_self _, g3, hm3, σm3, s3, k3⟩, ?_⟩
        refine ⟨B, g1, h1, σm, s.ext e1, ?_⟩
        cases cb : body σm h1 with
        | nx σ5 h5 => simp only [cb] at p; exact fun g' H' σ' s' => ⟨g', h5, σ5, s', p⟩
        | ct σ5 h5 => simp only [cb] at p; exact fun g' H' σ' s' => ⟨g', h5, σ5, s', p⟩
        | bk σ5 h5 => simp only [cb] at p; exact p
        | rt m h5 => simp only [cb] at p; exact p
        | ex c1 m σ5 h5 => simp only [cb] at p; exact p
        | no => simp only [cb] at p; exact p
    | ex c1 v h1 =>
      rw [c] at p
      exact fun g' H' cls d e x => p g' H' σ cls d (s.ext e) x
    | no =>
      rw [c] at p
      exact p
theorem ss_while {c : Expr} {body : List Stmt} {fc : TM} {b : SM} (n : Nat) (hp : PassesOwn (model X.prog X.w) X.A X.env X.xe) (hc : PT X c (rdT X.K W fc)) (hb : PSs X body (rdS X.K W b)) : PS X (.While c body [] pos) (rdS X.K W (whileL fc b n)) :=
  imp_s (ps_while hp hc hb) (rd_while n)
end
end Mi
end P_M6
section P_M7
set_option Elab.async false
set_option linter.all false
set_option maxRecDepth 100000
set_option maxHeartbeats 4000000
/-! M7: comprehensions, defs and their calls -/
namespace Mi
open PySem PySem.Spec PyProof.Rows L2

/-! ### a new object is written -/
section
variable {K : Kf} {g g1 : Gh} {hm hm1 : MH} {H H1 : Hp} {a : Addr} {o : HO}
theorem Up.wr (nf : ¬ g.F a) : Up g H g (upd H a o) := ⟨Nat.le_refl _, fun _ _ => rfl, fun _ f => f, fun b w f e => by
  rw [upd_ne (fun q : b = a => nf (by rw [← q]; exact f))]; exact e⟩
theorem Rel.wr (r : Rel K g hm H) (nf : ¬ g.F a) (nl : ¬ Live g hm a) : Rel K g hm (upd H a o) := by
  refine ⟨r.nx, r.lt, r.inj, r.nf, fun n m q => RO.up (Up.wr nf) (fun w e => ?_) (r.ob n m q), fun b f => ?_⟩
  · rw [upd_ne (fun q2 => nl ⟨n, (by rw [q]; exact fun z => nomatch z), q2⟩)]; exact e
  · by_cases c : b = a
    · rw [c, upd_same]; intro z; cases z
    · rw [upd_ne c]; exact r.fs b f
theorem Ext.wr (e : Ext K g1 hm1 H1 g hm H) (h0 : H1 a = none) (nf : ¬ g.F a) (nl : ¬ Live g hm a) : Ext K g1 hm1 H1 g hm (upd H a o) := by
  refine ⟨e.n, e.rho, e.f1, e.f2, fun b w q l => ?_, fun b q => ?_, e.fresh, e.live, e.rel.wr nf nl⟩
  · rw [upd_ne (fun z => by rw [z, h0] at q; cases q)]
    exact e.keep b w q l
  · by_cases c : b = a
    · rw [c, upd_same]; intro z; cases z
    · rw [upd_ne c]; exact e.stay b q
theorem Ext.free (e : Ext K g1 hm1 H1 g hm H) (h : H a = none) : H1 a = none := by
  cases q : H1 a with
  | none => rfl
  | some o => exact absurd h (e.stay a (by rw [q]; intro z; cases z))
theorem Rel.new_nl (r : Rel K g hm H) (h : H a = none) : ¬ Live g hm a := fun ⟨n, l, e⟩ => by
  cases q : hm.get n with
  | none => exact l q
  | some o => exact (r.ob n o q).has (e ▸ h)
theorem Rel.new_nf (r : Rel K g hm H) (h : H a = none) : ¬ g.F a := fun f => r.fs a f h
end

/-! ### comprehensions -/
def wipeM (σ : Sl) : List Nat → Sl
  | [] => σ
  | v :: vs => (wipeM σ vs).set v .un
theorem REnv.wipe {K : Kf} {g : Gh} {hm : MH} {H : Hp} {σm : Sl} {σ : L2.St} (R : REnv K g hm H σm σ) : ∀ vs : List Nat, REnv K g hm H (wipeM σm vs) (L2.wipe σ vs)
  | [] => R
  | v :: vs => (REnv.wipe R vs).set_un v none
theorem wipe_get (σ : L2.St) : ∀ (vs : List Nat) (j : Nat), (L2.wipe σ vs)[j]? = if j ∈ vs then (if j < σ.length then some none else none) else σ[j]?
  | [], j => by simp [L2.wipe]
  | v :: vs, j => by
    unfold L2.wipe
    have ih := wipe_get σ vs j
    by_cases c : j = v
    · subst c
      by_cases l : j < σ.length
      · rw [List.getElem?_set_self (by rw [wipe_length]; exact l)]
        simp [l]
      · rw [List.getElem?_eq_none (by simp [wipe_length]; omega)]
        simp [l]
    · rw [List.getElem?_set_ne (Ne.symm c), ih]
      simp [c]
theorem wipe_eq {σ σ' : L2.St} {vs : List Nat} (hl : σ'.length = (L2.wipe σ vs).length) (h : ∀ j, j ∉ vs → σ'[j]? = (L2.wipe σ vs)[j]?) : L2.wipe σ' vs = L2.wipe σ vs := by
  have hl2 : σ'.length = σ.length := by rw [hl, wipe_length]
  apply List.ext_getElem?
  intro j
  rw [wipe_get σ' vs j, wipe_get σ vs j]
  by_cases c : j ∈ vs
  · simp only [c, if_true, hl2]
  · simp only [c, if_false]
    rw [h j c, wipe_get σ vs j]
    simp [c]
def yesT : TM := fun _ h => .ok true h
def compL (t : Tgt) (c : TM) (f : EM) (σ : Sl) : List MV → MH → Res (List MV)
  | [], h => .ok [] h
  | m :: r, h => match t m σ with
    | none => .no
    | some σ1 => match c σ1 h with
      | .ok true h1 => (match f σ1 h1 with
        | .ok y h2 => (match compL t c f σ r h2 with
          | .ok ys h3 => .ok (y :: ys) h3
          | _ => .no)
        | _ => .no)
      | .ok false h1 => compL t c f σ r h1
      | _ => .no
def compO (vs : List Nat) (fi : OM) (t : Tgt) (c : TM) (f : EM) : OM := fun σ h => bindR (fi σ h) fun ms h1 => if ms.length ≤ zl then compL t c f (wipeM σ vs) ms h1 else .no
theorem imp_ts {X : Cx} {ifs : List Expr} {t t' : TT} (h : PTs X ifs t) (k : ∀ σ H Q, t' σ H Q → t σ H Q) : PTs X ifs t' := ⟨fun pins s σ H Q I q => h.run pins s σ H Q I (k σ H Q q)⟩
section
variable {K : Kf} {W : WX} {X : Cx} {elt tg iter : Expr} {pos : Pos}
theorem sts_nil : PTs X [] (rdT X.K WNo yesT) := imp_ts pts_nil fun σ H Q h => by
  obtain ⟨g, σm, hm, rl, R, p⟩ := h
  exact p g H (.refl rl)
theorem sts_one {c : Expr} {f : TM} (h : PT X c (rdT X.K WNo f)) : PTs X [c] (rdT X.K WNo f) := pts_one h
theorem sts_two {c d : Expr} {f f2 : TM} (h : PT X c (rdT X.K WNo f)) (h2 : PT X d (rdT X.K WNo f2)) : True := trivial
theorem rd_comp {fi : OM} {t : Tgt} {is vs : List Nat} {c : TM} {f : EM} (hsub : ∀ j ∈ is, j ∈ vs) (σ : L2.St) (H : Hp) (Q : VK) (h : rdO K W (compO vs fi t c f) σ H Q) :
    tLc (rdIP K W fi) (rdG K t is) (rdT K WNo c) (rdE K WNo f) vs σ H Q := by
  obtain ⟨g, σm, hm, rl, R, p⟩ := h
  refine ⟨g, σm, hm, rl, R, ?_⟩
  unfold compO at p
  cases ci : fi σm hm with
  | ex c1 m h' => rw [ci] at p; exact p
  | no => rw [ci] at p; exact p
  | ok ms hm1 =>
    rw [ci] at p
    intro g1 H1 e1 J ok D hD
    have p : Post K W g hm σ H (if ms.length ≤ zl then compL t c f (wipeM σm vs) ms hm1 else .no) fun xs g' hm' H' => ∀ a vs, H a = none → H' a = some (.lst vs) → xs.length ≤ sizeLine → RVs K g' H' xs vs → ¬ g'.F a → ¬ Live g' hm' a → Q (.ref a) H' := p
    by_cases hz : ms.length ≤ zl
    case neg => rw [if_neg hz] at p; exact p.elim
    rw [if_pos hz] at p
    have R1 := (R.ext rl e1).wipe vs
    have D0 : H D = none := e1.free hD
    -- the rest that is to come, and what has come
    let fin : List MV → Res (List MV) → Prop := fun ys r => match r with
      | .ok zs hm' => ∀ g' H' vs, Ext K g1 hm1 H1 g' hm' H' → H' D = some (.lst vs) → (ys ++ zs).length ≤ zl → RVs K g' H' (ys ++ zs) vs → ¬ g'.F D → ¬ Live g' hm' D → Q (.ref D) H'
      | _ => False
    have start : fin [] (compL t c f (wipeM σm vs) ms hm1) := by
      show match compL t c f (wipeM σm vs) ms hm1 with
        | .ok zs hm' => _
        | _ => False
      cases cc : compL t c f (wipeM σm vs) ms hm1 with
      | ok zs hm' =>
        rw [cc] at p
        exact fun g' H' vs e2 hd hl rv nf nl => p g' H' (e1.trans rl e2) D vs D0 hd (by rw [zl_eq]; exact hl) rv nf nl
      | ex c1 m h' => exact (show False by
          have noex : ∀ (ms : List MV) (h : MH) c1 m h', compL t c f (wipeM σm vs) ms h ≠ .ex c1 m h' := by
            intro ms
            induction ms with
            | nil => intro h c1 m h' z; cases z
            | cons m0 r ih =>
              intro h c1 m h' z
              unfold compL at z
              split at z
              · cases z
              · split at z
                · split at z
                  · split at z <;> cases z
                  · cases z
                · exact ih _ _ _ _ z
                · cases z
          exact noex _ _ _ _ _ cc)
      | no => rw [cc] at p; exact p
    refine ⟨fun i m H => ∃ g2 hm2 ys ws, Ext K g1 hm1 H1 g2 hm2 H ∧ H D = some (.lst ws) ∧ RVs K g2 H ys ws ∧ ¬ g2.F D ∧ ¬ Live g2 hm2 D ∧ ys.length ≤ i ∧ i ≤ ms.length ∧ m = ms.length - i ∧ fin ys (compL t c f (wipeM σm vs) (ms.drop i) hm2),
      ⟨ms.length, g1, hm1, [], [], Ext.lay e1.rel hD, upd_same, .nil, e1.rel.new_nf hD, e1.rel.new_nl hD, Nat.le_refl _, Nat.zero_le _, rfl, start⟩, ?_⟩
    rintro i m H2 ⟨g2, hm2, ys, ws, e2, hd2, rv2, nf2, nl2, hy2, hi, rfl, k2⟩
    obtain ⟨o1, o2⟩ := ok g2 hm2 H2 e2.rel e2 i
    by_cases c0 : i < ms.length
    case neg =>
      have ei : i = ms.length := by omega
      subst ei
      rw [List.drop_length] at k2
      refine .inl ⟨o2 (Nat.le_refl _), ?_⟩
      have k2 : ∀ g' H' vs, Ext K g1 hm1 H1 g' hm2 H' → H' D = some (.lst vs) → (ys ++ []).length ≤ zl → RVs K g' H' (ys ++ []) vs → ¬ g'.F D → ¬ Live g' hm2 D → Q (.ref D) H' := k2
      rw [List.append_nil] at k2
      exact k2 g2 H2 ws e2 hd2 (by omega) rv2 nf2 nl2
    have hx : ms[i]? = some ms[i] := List.getElem?_eq_getElem c0
    have hdr : ms.drop i = ms[i] :: ms.drop (i + 1) := List.drop_eq_getElem_cons c0
    rw [hdr] at k2
    obtain ⟨hgo, hy⟩ := o1 _ hx
    refine .inr ⟨hgo, fun H' => ∃ g2 hm2 ys ws, Ext K g1 hm1 H1 g2 hm2 H' ∧ H' D = some (.lst ws) ∧ RVs K g2 H' ys ws ∧ ¬ g2.F D ∧ ¬ Live g2 hm2 D ∧ ys.length ≤ i + 1 ∧ fin ys (compL t c f (wipeM σm vs) (ms.drop (i + 1)) hm2),
      fun H' ⟨g3, hm3, y3, w3, a1, a2, a3, a4, a5, a6, a7⟩ => ⟨ms.length - (i + 1), by omega, g3, hm3, y3, w3, a1, a2, a3, a4, a5, a6, c0, rfl, a7⟩, fun x H3 y => ?_⟩
    obtain ⟨g3, e3, rv⟩ := hy x H3 y
    have e13 := e2.trans e1.rel e3
    unfold compL at k2
    cases ct : t ms[i] (wipeM σm vs) with
    | none => simp only [ct] at k2; exact k2.elim
    | some σ1 =>
      simp only [ct] at k2
      refine ⟨g3, hm2, wipeM σm vs, ms[i], e3.rel, R1.ext e1.rel e13, rv, σ1, ct, fun σ' R' okT => ⟨wipe_eq okT.len fun j hj => (okT.out j fun z => hj (hsub j z)).1, ?_⟩⟩
      have D3 : H3 D = some (.lst ws) := e3.keep _ _ hd2 nl2
      have D2n : H2 D ≠ none := by rw [hd2]; intro z; cases z
      have nf3 : ¬ g3.F D := fun z => (e3.f2 D z).elim nf2 fun z => D2n z
      have nl3 : ¬ Live g3 hm2 D := fun z => nl2 (e3.live' e2.rel D2n z)
      refine ⟨g3, σ1, hm2, e3.rel, R', ?_⟩
      cases cc : c σ1 hm2 with
      | ex c1 m h' => simp only [cc] at k2; exact k2.elim
      | no => simp only [cc] at k2; exact k2.elim
      | ok b hm4 =>
        intro g4 H4 e4
        have D3n : H3 D ≠ none := by rw [D3]; intro z; cases z
        have D4 : H4 D = some (.lst ws) := e4.keep _ _ D3 nl3
        have nf4 : ¬ g4.F D := fun z => (e4.f2 D z).elim nf3 fun z => D3n z
        have nl4 : ¬ Live g4 hm4 D := fun z => nl3 (e4.live' e3.rel D3n z)
        have e14 := e13.trans e1.rel e4
        have rv4 : RVs K g4 H4 ys ws := (rv2.up (e3.up e2.rel)).up (e4.up e3.rel)
        cases b with
        | false =>
          simp only [cc] at k2
          exact iteF ⟨g4, hm4, ys, ws, e14, D4, rv4, nf4, nl4, by omega, k2⟩
        | true =>
          simp only [cc] at k2
          refine iteT ⟨g4, σ1, hm4, e4.rel, R'.ext e3.rel e4, ?_⟩
          cases cf : f σ1 hm4 with
          | ex c1 m h' => simp only [cf] at k2; exact k2.elim
          | no => simp only [cf] at k2; exact k2.elim
          | ok yv hm5 =>
            simp only [cf] at k2
            intro g5 H5 e5 v rvy
            have D4n : H4 D ≠ none := by rw [D4]; intro z; cases z
            have D5 : H5 D = some (.lst ws) := e5.keep _ _ D4 nl4
            have nf5 : ¬ g5.F D := fun z => (e5.f2 D z).elim nf4 fun z => D4n z
            have nl5 : ¬ Live g5 hm5 D := fun z => nl4 (e5.live' e4.rel D4n z)
            have rv5 : RVs K g5 H5 ys ws := rv4.up (e5.up e4.rel)
            have e15 := e14.trans e1.rel e5
            have lw : ws.length = ys.length := rv5.length.symm
            refine ⟨ws, D5, by rw [zl_eq]; omega, g5, hm5, ys ++ [yv], ws ++ [v], e15.wr hD nf5 nl5, upd_same, (rv5.append (.cons rvy .nil)).up (Up.wr nf5), nf5, nl5, by simp; omega, ?_⟩
            show match compL t c f (wipeM σm vs) (ms.drop (i + 1)) hm5 with
              | .ok zs hm' => _
              | _ => False
            cases cr : compL t c f (wipeM σm vs) (ms.drop (i + 1)) hm5 with
            | ok zs hm' =>
              simp only [cr] at k2
              have k2 : ∀ g' H' vs, Ext K g1 hm1 H1 g' hm' H' → H' D = some (.lst vs) → (ys ++ (yv :: zs)).length ≤ zl → RVs K g' H' (ys ++ (yv :: zs)) vs → ¬ g'.F D → ¬ Live g' hm' D → Q (.ref D) H' := k2
              have es : ys ++ (yv :: zs) = (ys ++ [yv]) ++ zs := by simp
              rw [es] at k2
              exact k2
            | ex c1 m h' => simp only [cr] at k2; exact k2.elim
            | no => simp only [cr] at k2; exact k2.elim
theorem so_comp {fi : OM} {t : Tgt} {is : List Nat} {c : TM} {f : EM} {ifs : List Expr} {scope : Scope} {own : List (Str × Nat)} (hc : X.calm = true) (hN : X.N.Nodup) (hi : PI X tg iter (rdIP X.K W fi)) (ok : BlkOk X.N X.env.scope scope own)
    (hg : ∀ (s : Shared) (H : Hp) (C : Addr) (cl : List (Str × Addr)) (fp : List Addr), PG (X.blk s H scope (compEnvC scope cl C X.env) fp) tg (rdG X.K t is))
    (ht : ∀ (s : Shared) (H : Hp) (C : Addr) (cl : List (Str × Addr)) (fp : List Addr), PTs (X.blk s H scope (compEnvC scope cl C X.env) fp) ifs (rdT X.K WNo c))
    (he : ∀ (s : Shared) (H : Hp) (C : Addr) (cl : List (Str × Addr)) (fp : List Addr), PE (X.blk s H scope (compEnvC scope cl C X.env) fp) elt (rdE X.K WNo f)) (hsub : ∀ j ∈ is, j ∈ own.map (·.2))
    (hs : ∀ x, foldedSetIterable iter X.env x = pure x := by intro _; rfl) :
    PE X (.ListComp elt [⟨tg, iter, ifs, 0⟩] scope pos) (rdO X.K W (compO (own.map (·.2)) fi t c f)) := imp_e (pe_lc hc hN hi ok hg ht he hs) (rd_comp hsub)
end

/-! ### defs -/
def PostF (K : Kf) (g : Gh) (hm : MH) (H : Hp) (r : Res MV) (Q : VK) (E : XK) : Prop := Post K (fun cls d _ H => E cls d H) g hm [] H r fun m g' _ H' => ∀ v, RV K g' H' m v → Q v H'
/-- what a def promises: F tells it -/
def spM (K : Kf) (n : Nat) (F : List MV → MH → Res MV) : Sp := fun vs H Q E => vs.length = n ∧ ∃ g hm ms, Rel K g hm H ∧ RVs K g H ms vs ∧ PostF K g hm H (F ms hm) Q E
def BindD (K : Kf) (fd : FuncData) (ps : List Str) (dms : List MV) : Prop := ∃ ds dvs, Binds K fd ps ds ∧ Vals dvs ds ∧ ∀ g H, RVs K g H dms dvs
/-- the def that the module's name x stands for is F; the values dms fill up what a call leaves out -/
structure FnS (P : Program) (w : World) (K : Kf) (mg : Str → Option Value) (base : Heap) (k : Nat) (x : Str) (n : Nat) (dms : List MV) (F : List MV → MH → Res MV) : Prop where
  ex : ∃ f fd ps, mg x = some (.ref f) ∧ PySem.W.keepIn K (.ref f) = true ∧ FnOk P w K mg base (L2.CX P w) k f fd ps (spM K n F) ∧ BindD K fd ps dms
theorem FnS.mono {P : Program} {w : World} {K : Kf} {mg : Str → Option Value} {base : Heap} {j k : Nat} {x : Str} {n : Nat} {dms : List MV} {F : List MV → MH → Res MV} (h : FnS P w K mg base j x n dms F) (l : j ≤ k) : FnS P w K mg base k x n dms F := by
  obtain ⟨f, fd, ps, a, b, c, d⟩ := h.ex
  exact ⟨f, fd, ps, a, b, c.mono l, d⟩
/-- where F is told by F' -/
theorem FnS.as {P : Program} {w : World} {K : Kf} {mg : Str → Option Value} {base : Heap} {k : Nat} {x : Str} {n : Nat} {dms : List MV} {F F' : List MV → MH → Res MV} (h : FnS P w K mg base k x n dms F)
    (e : ∀ ms h, ms.length = n → (F' ms h = F ms h ∨ F' ms h = .no)) : FnS P w K mg base k x n dms F' := by
  obtain ⟨f, fd, ps, a, b, c, d⟩ := h.ex
  refine ⟨f, fd, ps, a, b, c.imp fun vs H Q E q => ?_, d⟩
  obtain ⟨hl, g, hm, ms, rl, rv, p⟩ := q
  rcases e ms hm (by rw [rv.length]; exact hl) with z | z
  · exact ⟨hl, g, hm, ms, rl, rv, by rw [← z]; exact p⟩
  · rw [z] at p
    exact p.elim
def callE (F : List MV → MH → Res MV) (dms : List MV) (fs : OM) : EM := bindE fs fun ms _ h => F (ms ++ dms) h
section
variable {X : Cx} {W : WX} {x : Str} {p pos : Pos} {e : Expr} {es : List Expr} {k n : Nat} {dms : List MV} {F : List MV → MH → Res MV}
theorem rd_call {K : Kf} {fs : OM} {dvs : List V} (hd : ∀ g H, RVs K g H dms dvs) (hn : ∀ ms vs g H, RVs K g H ms vs → (ms.length = n ↔ vs.length = n)) (σ : L2.St) (H : Hp) (Q : VK) (h : rdE K W (callE (fun ms h => if ms.length = n then F ms h else .no) dms fs) σ H Q) :
    tCallSD (spM K n F) dvs (WE W) (rdA K W fs) σ H Q := by
  obtain ⟨g, σm, hm, rl, R, p⟩ := h
  refine ⟨g, σm, hm, rl, R, (Post.bind rl p).mono fun ms g' hm' H' e q vs rv => ?_⟩
  have q : Post K W g' hm' σ H' (if (ms ++ dms).length = n then F (ms ++ dms) hm' else .no) fun m g' _ H' => ∀ v, RV K g' H' m v → Q v H' := q
  by_cases c : (ms ++ dms).length = n
  · rw [if_pos c] at q
    have rv2 := rv.append (hd g' H')
    refine ⟨by rw [← rv2.length]; exact c, g', hm', ms ++ dms, e.rel, rv2, ?_⟩
    show Post K _ _ _ [] _ _ _
    cases r : F (ms ++ dms) hm' with
    | ok m h2 => rw [r] at q; exact q
    | ex c1 m h2 => rw [r] at q; exact q
    | no => rw [r] at q; exact q
  · rw [if_neg c] at q
    exact q.elim
def callN (n : Nat) (F : List MV → MH → Res MV) : List MV → MH → Res MV := fun ms h => if ms.length = n then F ms h else .no
theorem se_call {fs : OM} (G : FnS X.prog X.w X.K X.mg X.base k x n dms F) (hr : Room k X.A) (tk : Takes X W) (hg : Gl X x) (hdb : (x == ("__debug__" : Str)) = false) (ha : PA X (e :: es) (rdA X.K W fs))
    (he : starEach (e :: es) X.env = (false, eval e X.env) :: starEach es X.env := by rfl) (hpl : (backTo pos (starEach es X.env)).any (·.1) = false := by rfl) :
    PE X (.Call (.Name x p) (e :: es) [] pos) (rdE X.K W (callE (callN n F) dms fs)) := by
  obtain ⟨f, fd, ps, a, b, c, ds, dvs, hb, hd, hdm⟩ := G.ex
  exact imp_e (pe_callSD c hr hg a b hb hd (fun σ => passAt tk σ) ha hdb he hpl) (rd_call hdm fun ms vs g H r => by rw [r.length])
theorem pe_call0SD {CX : CXT} {f : Addr} {fd : FuncData} {ps : List Str} {sp : Sp} {dvs : List V} {ds : List Value} {E : L2.St → XK} (F : FnOk X.prog X.w X.K X.mg X.base CX k f fd ps sp) (hr : Room k X.A) (hg : Gl X x) (hm : X.mg x = some (.ref f)) (hk : PySem.W.keepIn X.K (.ref f) = true)
    (hb : Binds X.K fd ps ds) (hd : Vals dvs ds) (hx : ∀ σ, PassesAt CX X σ (E σ)) (hdb : (x == ("__debug__" : Str)) = false := by decide) : PE X (.Call (.Name x p) [] [] pos) (tCallSD sp dvs E tNil) :=
  ⟨fun pins s σ H Q I h => wpAny_Call_Name_kw (ld_glob I hg hm (PySem.W.callWith_K0 I.kIn hk (run_fnSD (us := []) F hr hb hd (hx σ) I .nil h)) hdb)⟩
theorem se_call0 (G : FnS X.prog X.w X.K X.mg X.base k x n dms F) (hr : Room k X.A) (tk : Takes X W) (hg : Gl X x) (hdb : (x == ("__debug__" : Str)) = false) :
    PE X (.Call (.Name x p) [] [] pos) (rdE X.K W (callE (callN n F) dms nilA)) := by
  obtain ⟨f, fd, ps, a, b, c, ds, dvs, hb, hd, hdm⟩ := G.ex
  refine imp_e (pe_call0SD c hr hg a b hb hd (fun σ => passAt tk σ) hdb) fun σ H Q h => ?_
  have z := rd_call hdm (fun ms vs g H r => by rw [r.length]) σ H Q h
  obtain ⟨g, σm, hm, rl, R, p⟩ := z
  exact p g H (.refl rl) [] .nil
end
/-- a def, by its body -/
def bodyF (N n : Nat) (b : SM) : List MV → MH → Res MV := fun ms h => match b (ms.map .val ++ List.replicate (N - n) .un) h with
  | .rt m h' => .ok m h'
  | .nx _ h' => .ok .non h'
  | .ex c m _ h' => .ex c m h'
  | _ => .no
theorem start_env {K : Kf} {g : Gh} {hm : MH} {H : Hp} {ms : List MV} {vs : List V} {N : List Str} (rv : RVs K g H ms vs) (k : Nat) (hk : N.length - vs.length = k) : REnv K g hm H (ms.map .val ++ List.replicate k .un) (L2.start N vs) := by
  have hl := rv.length
  have st : ∀ (i : Nat) (s : SV), (ms.map SV.val ++ List.replicate k SV.un)[i]? = some s → (∃ m, ms[i]? = some m ∧ s = .val m) ∨ (ms.length ≤ i ∧ i < ms.length + k ∧ s = .un) := fun i s h => by
    by_cases c : i < ms.length
    · rw [List.getElem?_append_left (by simpa using c), List.getElem?_map, List.getElem?_eq_getElem c] at h
      cases h
      exact .inl ⟨_, List.getElem?_eq_getElem c, rfl⟩
    · have c' : ms.length ≤ i := by omega
      rw [List.getElem?_append_right (by simpa using c'), List.getElem?_replicate] at h
      split at h
      · cases h
        rename_i q
        simp at q
        exact .inr ⟨c', by omega, rfl⟩
      · cases h
  refine ⟨?_, fun i s h => ?_, fun i j xs ys h1 h2 ne => ?_⟩
  · unfold L2.start
    simp only [List.length_append, List.length_map, List.length_replicate]
    omega
  · rcases st i s h with ⟨m, hm', rfl⟩ | ⟨h1, h2, rfl⟩
    · obtain ⟨v, hv, r⟩ := rv.get hm'
      refine ⟨some v, ?_, r⟩
      unfold L2.start
      have hi : i < vs.length := (List.getElem?_eq_some_iff.mp hv).1
      rw [List.getElem?_append_left (by simpa using hi), List.getElem?_map, hv]
      rfl
    · refine ⟨none, ?_, trivial⟩
      unfold L2.start
      rw [List.getElem?_append_right (by simp; omega), List.getElem?_replicate, if_pos (by simp; omega)]
  · rcases st i _ h1 with ⟨m, _, z⟩ | ⟨_, _, z⟩ <;> cases z
theorem fn_ok {P : Program} {w : World} {K : Kf} {mg : Str → Option Value} {base : Heap} {x qual : Str} {params : Arguments} {body : List Stmt} {scope : Scope} {dvs : List V} {kws : List (Str × V)} {f : Addr} {fd : FuncData} {N ps : List Str} {k n : Nat} {b : SM}
    (Fd : FunD K x qual params body scope dvs kws f fd) (S : FnScope N ps scope) (hn : ps.length = n) (NN : Nat) (hN : N.length = NN)
    (hbody : ∀ (X : Cx), X.prog = P → X.w = w → X.K = K → X.mg = mg → X.base = base → X.N = N → X.env.scope = scope → X.calm = true → (∀ x, X.fn x = true) → Room k X.A → (∃ W, Takes X W) → PassesOwn (model X.prog X.w) X.A X.env X.xe → ∀ W, Takes X W → PSs X body (rdS X.K W b)) :
    FnOk P w K mg base (L2.CX P w) (k + 1) f fd ps (spM K n (bodyF NN n b)) := by
  refine FunD.ok Fd S (fun vs H Q E h => by rw [hn]; exact h.1) fun cdv A outer s H vs Q E hr h => ?_
  have tk : Takes (cxOf (L2.CX P w) P w K mg base N qual scope f cdv A outer s H E) (fun cls d _ H => E cls d H) := takes_of rfl rfl rfl rfl
  refine ⟨_, hbody (cxOf (L2.CX P w) P w K mg base N qual scope f cdv A outer s H E) rfl rfl rfl rfl rfl rfl rfl rfl (fun _ => rfl) hr ⟨_, tk⟩ (passes_of rfl) _ tk, ?_⟩
  obtain ⟨hl, g, hm, ms, rl, rv, p⟩ := h
  have hN2 : NN - n = N.length - vs.length := by rw [hN, hl]
  have R : REnv K g hm H (ms.map .val ++ List.replicate (NN - n) .un) (L2.start N vs) := start_env rv _ (by omega)
  refine ⟨⟨g, hm, H, fun _ _ => True, fun _ _ _ _ _ _ => trivial⟩, g, hm, _, ⟨rl, .refl rl, R, fun i xs a h1 h2 => ?_, trivial⟩, ?_⟩
  · exfalso
    by_cases c : i < ms.length
    · rw [List.getElem?_append_left (by simpa using c), List.getElem?_map] at h1
      cases q : ms[i]? with
      | none => rw [q] at h1; cases h1
      | some m => rw [q] at h1; cases h1
    · rw [List.getElem?_append_right (by simp; omega), List.getElem?_replicate] at h1
      split at h1 <;> cases h1
  · have p : Post K _ g hm [] H (match b (ms.map .val ++ List.replicate (NN - n) .un) hm with
      | .rt m h' => .ok m h'
      | .nx _ h' => .ok .non h'
      | .ex c m _ h' => .ex c m h'
      | _ => .no) fun m g' _ H' => ∀ v, RV K g' H' m v → Q v H' := p
    cases c : b (ms.map .val ++ List.replicate (NN - n) .un) hm with
    | rt m h' => rw [c] at p; exact fun g' H' v e r => p g' H' e v r
    | nx σ' h' => rw [c] at p; exact fun g' H' σ'' s => p g' H' s.ex .non .non
    | ex c1 m σ' h' => rw [c] at p; exact fun g' H' σ'' cls d s x => p g' H' cls d s.ex x
    | bk σ' h' => rw [c] at p; exact p.elim
    | ct σ' h' => rw [c] at p; exact p.elim
    | no => rw [c] at p; exact p
theorem fn_def {P : Program} {w : World} {K : Kf} {mg : Str → Option Value} {base : Heap} {x y qual : Str} {params : Arguments} {body : List Stmt} {scope : Scope} {dvs : List V} {kws : List (Str × V)} {f : Addr} {fd : FuncData} {N ps : List Str} {k n : Nat} {dms : List MV} {b : SM}
    (Fd : FunD K x qual params body scope dvs kws f fd) (S : FnScope N ps scope) (hn : ps.length = n) (hm : mg y = some (.ref f)) (hb : BindD K fd ps dms) (NN : Nat) (hN : N.length = NN)
    (hbody : ∀ (X : Cx), X.prog = P → X.w = w → X.K = K → X.mg = mg → X.base = base → X.N = N → X.env.scope = scope → X.calm = true → (∀ x, X.fn x = true) → Room k X.A → (∃ W, Takes X W) → PassesOwn (model X.prog X.w) X.A X.env X.xe → ∀ W, Takes X W → PSs X body (rdS X.K W b)) :
    FnS P w K mg base (k + 1) y n dms (bodyF NN n b) :=
  ⟨f, fd, ps, hm, Fd.kp, fn_ok Fd S hn NN hN hbody, hb⟩
end Mi
end P_M7
section P_M8
set_option Elab.async false
set_option linter.all false
set_option maxRecDepth 100000
set_option maxHeartbeats 4000000
set_option exponentiation.threshold 10000
/-! M8: built-ins on plain values -/
namespace Mi
open PySem PySem.Spec PyProof.Rows L2

/-! ### arguments that are looked at -/
def rdPA (K : Kf) (W : WX) (f : OM) : TA := fun σ H Q => Rdg K W σ H f fun ms g' hm' H' => ∀ vs, RPs K g' hm' H' ms vs → Q vs H'
section
variable {K : Kf} {W : WX} {X : Cx} {e : Expr} {es : List Expr} {pos : Pos}
theorem spa_nil : PA X [] (rdPA X.K W nilA) := imp_a pa_nil fun σ H Q h => by
  obtain ⟨g, σm, hm, rl, R, p⟩ := h
  exact p g H (.refl rl) [] .nil
theorem spa_cons {f : EM} {fs : OM} (ha : PE X e (rdP X.K W f)) (hr : PA X es (rdPA X.K W fs)) (hs : starEach (e :: es) X.env = (false, eval e X.env) :: starEach es X.env := by rfl) : PA X (e :: es) (rdPA X.K W (consA f fs)) :=
  imp_a (pa_cons ha hr hs) fun σ H Q h => by
    obtain ⟨g, σm, hm, rl, R, p⟩ := h
    refine ⟨g, σm, hm, rl, R, (Post.bind rl p).mono fun x g1 hm1 H1 e1 q v rv => ?_⟩
    refine ⟨g1, σm, hm1, e1.rel, R.ext rl e1, (Post.bind e1.rel q).mono fun xs g2 hm2 H2 e2 q2 vs rvs => ?_⟩
    exact q2 g2 H2 (.refl e2.rel) _ (.cons (rv.ext e1.rel e2) rvs)
end
abbrev RN := List V → Hp → VK → Prop
def VPn (K : Kf) (r : RN) (op : MH → List MV → Option MV) : Prop := ∀ (g : Gh) (hm : MH) (H : Hp) (xs : List MV) (vs : List V) (m : MV) (Q : VK), Rel K g hm H → RPs K g hm H xs vs → op hm xs = some m →
  (∀ g' H' v, Ext K g hm H g' hm H' → RV K g' H' m v → Q v H') → r vs H Q
def VOn (K : Kf) (r : RN) (op : MH → List MV → Option (List MV)) : Prop := ∀ (g : Gh) (hm : MH) (H : Hp) (xs : List MV) (vs : List V) (ms : List MV) (Q : VK), Rel K g hm H → RPs K g hm H xs vs → op hm xs = some ms →
  (∀ g' H' a ws, Ext K g hm H g' hm H' → H a = none → H' a = some (.lst ws) → ms.length ≤ sizeLine → RVs K g' H' ms ws → ¬ g'.F a → ¬ Live g' hm a → Q (.ref a) H') → r vs H Q
def callB (op : MH → List MV → Option MV) (fs : OM) : EM := bindE fs fun xs => fun _ h => optR (op h xs) h
def callBO (op : MH → List MV → Option (List MV)) (fs : OM) : OM := bindE fs fun xs => fun _ h => optR (op h xs) h
section
variable {K : Kf} {W : WX} {X : Cx} {e : Expr} {es : List Expr} {pos p : Pos} {r : RN} {x : Str}
theorem rd_callB {op : MH → List MV → Option MV} {fs : OM} (hv : VPn K r op) (σ : L2.St) (H : Hp) (Q : VK) (h : rdE K W (callB op fs) σ H Q) : tCB r (rdPA K W fs) σ H Q := by
  obtain ⟨g, σm, hm, rl, R, p⟩ := h
  refine ⟨g, σm, hm, rl, R, (Post.bind rl p).mono fun xs g1 hm1 H1 e1 q vs rvs => ?_⟩
  have q : Post K W g1 hm1 σ H1 (optR (op hm1 xs) hm1) fun m g' _ H' => ∀ v, RV K g' H' m v → Q v H' := q
  cases c : op hm1 xs with
  | none => rw [c] at q; exact q.elim
  | some m =>
    rw [c] at q
    exact hv g1 hm1 H1 xs vs m Q e1.rel rvs c fun g' H' v ex rv => q g' H' ex v rv
theorem rd_callBO {op : MH → List MV → Option (List MV)} {fs : OM} (hv : VOn K r op) (σ : L2.St) (H : Hp) (Q : VK) (h : rdO K W (callBO op fs) σ H Q) : tCB r (rdPA K W fs) σ H Q := by
  obtain ⟨g, σm, hm, rl, R, p⟩ := h
  refine ⟨g, σm, hm, rl, R, ?_⟩
  unfold callBO bindE at p
  cases c0 : fs σm hm with
  | ok xs hm1 =>
    rw [c0] at p
    intro g1 H1 e1 vs rvs
    have p : Post K W g hm σ H (optR (op hm1 xs) hm1) _ := p
    cases c : op hm1 xs with
    | none => rw [c] at p; exact p.elim
    | some ms =>
      rw [c] at p
      exact hv g1 hm1 H1 xs vs ms Q e1.rel rvs c fun g' H' a ws ex h0 h1 z rv nf nl => p g' H' (e1.trans rl ex) a ws (e1.free h0) h1 z rv nf nl
  | ex c m h' => rw [c0] at p; exact p
  | no => rw [c0] at p; exact p
structure NmB (X : Cx) (x : Str) (u : Value) : Prop where
  gl : Gl X x
  mg : X.mg x = none
  bt : bootBuiltins x = some u
  nn : x ≠ "__name__"
  db : (x == ("__debug__" : Str)) = false
theorem se_callB {id : String} {op : MH → List MV → Option MV} {fs : OM} (hc : CallR X (.builtin id) r) (hv : VPn X.K r op) (n : NmB X x (.builtin id)) (ha : PA X (e :: es) (rdPA X.K W fs))
    (he : starEach (e :: es) X.env = (false, eval e X.env) :: starEach es X.env := by rfl) (hpl : (backTo pos (starEach es X.env)).any (·.1) = false := by rfl) :
    PE X (.Call (.Name x p) (e :: es) [] pos) (rdE X.K W (callB op fs)) := imp_e (pe_callB hc n.gl n.mg n.bt ha n.nn n.db he hpl) (rd_callB hv)
theorem se_callT {id : String} {op : MH → List MV → Option MV} {fs : OM} (hc : CallR X (.type id) r) (hv : VPn X.K r op) (n : NmB X x (.type id)) (ha : PA X (e :: es) (rdPA X.K W fs))
    (he : starEach (e :: es) X.env = (false, eval e X.env) :: starEach es X.env := by rfl) (hpl : (backTo pos (starEach es X.env)).any (·.1) = false := by rfl) :
    PE X (.Call (.Name x p) (e :: es) [] pos) (rdE X.K W (callB op fs)) := imp_e (pe_callTy hc n.gl n.mg n.bt ha n.nn n.db he hpl) (rd_callB hv)
theorem so_callB {id : String} {op : MH → List MV → Option (List MV)} {fs : OM} (hc : CallR X (.builtin id) r) (hv : VOn X.K r op) (n : NmB X x (.builtin id)) (ha : PA X (e :: es) (rdPA X.K W fs))
    (he : starEach (e :: es) X.env = (false, eval e X.env) :: starEach es X.env := by rfl) (hpl : (backTo pos (starEach es X.env)).any (·.1) = false := by rfl) :
    PE X (.Call (.Name x p) (e :: es) [] pos) (rdO X.K W (callBO op fs)) := imp_e (pe_callB hc n.gl n.mg n.bt ha n.nn n.db he hpl) (rd_callBO hv)
theorem so_callT {id : String} {op : MH → List MV → Option (List MV)} {fs : OM} (hc : CallR X (.type id) r) (hv : VOn X.K r op) (n : NmB X x (.type id)) (ha : PA X (e :: es) (rdPA X.K W fs))
    (he : starEach (e :: es) X.env = (false, eval e X.env) :: starEach es X.env := by rfl) (hpl : (backTo pos (starEach es X.env)).any (·.1) = false := by rfl) :
    PE X (.Call (.Name x p) (e :: es) [] pos) (rdO X.K W (callBO op fs)) := imp_e (pe_callTy hc n.gl n.mg n.bt ha n.nn n.db he hpl) (rd_callBO hv)
end

/-! ### what a value holds -/
/-- a list's items, looked at -/
def seqM (hm : MH) : MV → Option (List MV)
  | .lst xs => some xs
  | .scr xs => some xs
  | .ref n => (match hm.get n with
    | some (.lst xs) => some xs
    | _ => none)
  | _ => none
section
variable {K : Kf} {g : Gh} {hm : MH} {H : Hp}
theorem RP.seq {m : MV} {v : V} {xs : List MV} (rl : Rel K g hm H) (r : RP K g hm H m v) (e : seqM hm m = some xs) : ∃ a vs, v = .ref a ∧ SqL K H a vs ∧ RVs K g H xs vs ∧ xs.length ≤ sizeLine := by
  unfold seqM at e
  split at e
  · cases e
    obtain ⟨a, vs, rfl, h, z, rs⟩ := r.lst_inv
    exact ⟨a, vs, rfl, SqL.of h, rs, z⟩
  · cases e
    obtain ⟨a, vs, rfl, h, z, rs⟩ := r.scr_inv
    exact ⟨a, vs, rfl, h, rs, z⟩
  · split at e
    · rename_i n _ ys c
      cases e
      obtain ⟨z, vs, h1, rs⟩ := rl.ob n _ c
      exact ⟨_, vs, r.ref_inv, SqL.of h1, rs, z⟩
    · cases e
  · cases e
def unInt : MV → Option Int
  | .int i => some i
  | _ => none
def unBl : MV → Option Bool
  | .bl i => some i
  | _ => none
def unStr : MV → Option (List Nat)
  | .str i => some i
  | _ => none
def allM {α : Type} (f : MV → Option α) : List MV → Option (List α)
  | [] => some []
  | x :: xs => match f x, allM f xs with
    | some y, some ys => some (y :: ys)
    | _, _ => none
theorem allM_cons {α : Type} {f : MV → Option α} {x : MV} {xs : List MV} {ys : List α} (h : allM f (x :: xs) = some ys) : ∃ y zs, f x = some y ∧ allM f xs = some zs ∧ ys = y :: zs := by
  unfold allM at h
  split at h
  · cases h
    exact ⟨_, _, by assumption, by assumption, rfl⟩
  · cases h
theorem allM_int {xs : List MV} {ns : List Int} (h : allM unInt xs = some ns) : xs = ns.map .int := by
  induction xs generalizing ns with
  | nil => cases h; rfl
  | cons x xs ih =>
    obtain ⟨y, zs, h1, h2, rfl⟩ := allM_cons h
    cases x <;> first | cases h1 | skip
    rw [List.map_cons, ih h2]
theorem allM_bl {xs : List MV} {ns : List Bool} (h : allM unBl xs = some ns) : xs = ns.map .bl := by
  induction xs generalizing ns with
  | nil => cases h; rfl
  | cons x xs ih =>
    obtain ⟨y, zs, h1, h2, rfl⟩ := allM_cons h
    cases x <;> first | cases h1 | skip
    rw [List.map_cons, ih h2]
theorem allM_str {xs : List MV} {ns : List (List Nat)} (h : allM unStr xs = some ns) : xs = ns.map .str := by
  induction xs generalizing ns with
  | nil => cases h; rfl
  | cons x xs ih =>
    obtain ⟨y, zs, h1, h2, rfl⟩ := allM_cons h
    cases x <;> first | cases h1 | skip
    rw [List.map_cons, ih h2]
theorem RVs.ints_inv {ns : List Int} : ∀ {vs : List V}, RVs K g H (ns.map .int) vs → vs = ns.map V.int := by
  induction ns with
  | nil => intro vs r; cases r; rfl
  | cons n ns ih =>
    intro vs r
    cases r with
    | cons r rs =>
      cases r
      rw [ih rs, List.map_cons]
theorem RVs.bls_inv {ns : List Bool} : ∀ {vs : List V}, RVs K g H (ns.map .bl) vs → vs = ns.map V.bl := by
  induction ns with
  | nil => intro vs r; cases r; rfl
  | cons n ns ih =>
    intro vs r
    cases r with
    | cons r rs =>
      cases r
      rw [ih rs, List.map_cons]
abbrev toS (l : List Nat) : Str := ⟨l.toArray⟩
theorem RVs.strs_inv {ns : List (List Nat)} : ∀ {vs : List V}, RVs K g H (ns.map .str) vs → vs = (ns.map toS).map V.str := by
  induction ns with
  | nil => intro vs r; cases r; rfl
  | cons n ns ih =>
    intro vs r
    cases r with
    | cons r rs =>
      cases r
      rw [ih rs]; rfl
theorem RVs.strs' {ns : List Str} : RVs K g H (ns.map fun s => .str s.cps.toList) (ns.map V.str) := by
  induction ns with
  | nil => exact .nil
  | cons n ns ih => exact .cons (.str n.cps.toList) ih
end
theorem RPs.one {K : Kf} {g : Gh} {hm : MH} {H : Hp} {x : MV} {vs : List V} (r : RPs K g hm H [x] vs) : ∃ v, vs = [v] ∧ RP K g hm H x v := by
  cases r with
  | cons r rs => cases rs; exact ⟨_, rfl, r⟩
theorem RPs.two {K : Kf} {g : Gh} {hm : MH} {H : Hp} {x y : MV} {vs : List V} (r : RPs K g hm H [x, y] vs) : ∃ v w, vs = [v, w] ∧ RP K g hm H x v ∧ RP K g hm H y w := by
  cases r with
  | cons r rs => cases rs with
    | cons r2 rs => cases rs; exact ⟨_, _, rfl, r, r2⟩

/-! ### len -/
def mvLen (hm : MH) : MV → Option Nat
  | .tup xs => some xs.length
  | .str s => if s.length ≤ zl then some s.length else none
  | m => (seqM hm m).map List.length
def lenM : MH → List MV → Option MV := fun hm xs => match xs with
  | [x] => (mvLen hm x).map fun n => .int n
  | _ => none
abbrev rLen' (K : Kf) : RN := fun xs H Q => ∃ x n, xs = [x] ∧ LenV K x H n ∧ Q (.int n) H
section
variable {K : Kf}
theorem vp_len : VPn K (rLen' K) lenM := by
  intro g hm H xs vs m Q rl ps e k
  unfold lenM at e
  split at e
  · rename_i x
    obtain ⟨v, rfl, px⟩ := ps.one
    cases c : mvLen hm x with
    | none => rw [c] at e; cases e
    | some n =>
      rw [c] at e
      cases e
      refine ⟨v, n, rfl, ?_, k g H _ (.refl rl) (.int _)⟩
      unfold mvLen at c
      split at c
      · cases c
        obtain ⟨a, ws, rfl, h1, rs⟩ := px.tup_inv
        exact .inr ⟨ws, h1, rs.length⟩
      · split at c
        · rename_i s c2
          cases c
          have := px.str_inv
          subst this
          exact ⟨by rw [str_len, zl_eq]; exact c2, (str_len s).symm⟩
        · cases c
      · cases q : seqM hm x with
        | none => rw [q] at c; cases c
        | some ys =>
          rw [q] at c
          cases c
          obtain ⟨a, ws, rfl, h1, rs, z⟩ := px.seq rl q
          exact .inl ⟨ws, h1, rs.length⟩
  · cases e

/-! ### all, any, sum, max, min, abs, int, gcd, bit_length -/
def onBls (f : List Bool → Bool) : MH → List MV → Option MV := fun hm xs => match xs with
  | [x] => (match seqM hm x with
    | some ys => (allM unBl ys).map fun bs => .bl (f bs)
    | none => none)
  | _ => none
theorem onBls_some {f : List Bool → Bool} {g : Gh} {hm : MH} {H : Hp} {xs : List MV} {vs : List V} {m : MV} (rl : Rel K g hm H) (ps : RPs K g hm H xs vs) (e : onBls f hm xs = some m) : ∃ a bs, vs = [V.ref a] ∧ SqL K H a (bs.map V.bl) ∧ m = .bl (f bs) := by
  unfold onBls at e
  split at e
  · rename_i x
    obtain ⟨v, rfl, px⟩ := ps.one
    split at e
    · rename_i ys c
      obtain ⟨a, ws, rfl, h1, rs, z⟩ := px.seq rl c
      cases q : allM unBl ys with
      | none => rw [q] at e; cases e
      | some bs =>
        rw [q] at e
        cases e
        rw [allM_bl q] at rs
        rw [rs.bls_inv] at h1
        exact ⟨a, bs, rfl, h1, rfl⟩
    · cases e
  · cases e
def allBM : MH → List MV → Option MV := onBls fun bs => bs.all id
def anyBM : MH → List MV → Option MV := onBls fun bs => bs.any id
theorem vp_all : VPn K (rAll K) allBM := by
  intro g hm H xs vs m Q rl ps e k
  obtain ⟨a, bs, rfl, h1, rfl⟩ := onBls_some rl ps e
  exact ⟨a, bs, rfl, h1, k g H _ (.refl rl) (.bl _)⟩
theorem vp_any : VPn K (rAny K) anyBM := by
  intro g hm H xs vs m Q rl ps e k
  obtain ⟨a, bs, rfl, h1, rfl⟩ := onBls_some rl ps e
  exact ⟨a, bs, rfl, h1, k g H _ (.refl rl) (.bl _)⟩
def onInts (f : List Int → Option Int) : MH → List MV → Option MV := fun hm xs => match xs with
  | [x] => (match seqM hm x with
    | some ys => (match allM unInt ys with
      | some ns => (f ns).map .int
      | none => none)
    | none => none)
  | _ => none
theorem onInts_some {f : List Int → Option Int} {g : Gh} {hm : MH} {H : Hp} {xs : List MV} {vs : List V} {m : MV} (rl : Rel K g hm H) (ps : RPs K g hm H xs vs) (e : onInts f hm xs = some m) : ∃ a ns i, vs = [V.ref a] ∧ SqL K H a (ns.map V.int) ∧ f ns = some i ∧ m = .int i := by
  unfold onInts at e
  split at e
  · rename_i x
    obtain ⟨v, rfl, px⟩ := ps.one
    split at e
    · rename_i ys c
      obtain ⟨a, ws, rfl, h1, rs, z⟩ := px.seq rl c
      split at e
      · rename_i ns q
        rw [allM_int q] at rs
        rw [rs.ints_inv] at h1
        cases q2 : f ns with
        | none => rw [q2] at e; cases e
        | some i =>
          rw [q2] at e
          cases e
          exact ⟨a, ns, i, rfl, h1, q2, rfl⟩
      · cases e
    · cases e
  · cases e
def sumM : MH → List MV → Option MV := onInts fun ns => some ns.sum
theorem vp_sum : VPn K (rSum K) sumM := by
  intro g hm H xs vs m Q rl ps e k
  obtain ⟨a, ns, i, rfl, h1, q, rfl⟩ := onInts_some rl ps e
  cases q
  exact ⟨a, ns, rfl, h1, k g H _ (.refl rl) (.int _)⟩
def maxL : List Int → Option Int
  | [] => none
  | x :: xs => some (xs.foldl max x)
def minL : List Int → Option Int
  | [] => none
  | x :: xs => some (xs.foldl min x)
theorem foldl_max_ge (xs : List Int) : ∀ x, x ≤ xs.foldl max x ∧ ∀ y ∈ xs, y ≤ xs.foldl max x := by
  induction xs with
  | nil => intro x; exact ⟨Int.le_refl _, fun y h => by cases h⟩
  | cons z zs ih =>
    intro x
    obtain ⟨h1, h2⟩ := ih (max x z)
    refine ⟨Int.le_trans (Int.le_max_left x z) h1, fun y hy => ?_⟩
    rcases List.mem_cons.mp hy with e | hy
    · rw [e]; exact Int.le_trans (Int.le_max_right x z) h1
    · exact h2 y hy
theorem foldl_max_mem (xs : List Int) : ∀ x, xs.foldl max x = x ∨ xs.foldl max x ∈ xs := by
  induction xs with
  | nil => intro x; exact .inl rfl
  | cons z zs ih =>
    intro x
    rcases ih (max x z) with h | h
    · rcases Int.le_total x z with c | c
      · rw [Int.max_eq_right c] at h
        exact .inr (by rw [List.foldl_cons, Int.max_eq_right c, h]; exact List.mem_cons_self)
      · rw [Int.max_eq_left c] at h
        exact .inl (by rw [List.foldl_cons, Int.max_eq_left c, h])
    · exact .inr (List.mem_cons_of_mem _ h)
theorem foldl_min_le (xs : List Int) : ∀ x, xs.foldl min x ≤ x ∧ ∀ y ∈ xs, xs.foldl min x ≤ y := by
  induction xs with
  | nil => intro x; exact ⟨Int.le_refl _, fun y h => by cases h⟩
  | cons z zs ih =>
    intro x
    obtain ⟨h1, h2⟩ := ih (min x z)
    refine ⟨Int.le_trans h1 (Int.min_le_left x z), fun y hy => ?_⟩
    rcases List.mem_cons.mp hy with e | hy
    · rw [e]; exact Int.le_trans h1 (Int.min_le_right x z)
    · exact h2 y hy
theorem foldl_min_mem (xs : List Int) : ∀ x, xs.foldl min x = x ∨ xs.foldl min x ∈ xs := by
  induction xs with
  | nil => intro x; exact .inl rfl
  | cons z zs ih =>
    intro x
    rcases ih (min x z) with h | h
    · rcases Int.le_total x z with c | c
      · rw [Int.min_eq_left c] at h
        exact .inl (by rw [List.foldl_cons, Int.min_eq_left c, h])
      · rw [Int.min_eq_right c] at h
        exact .inr (by rw [List.foldl_cons, Int.min_eq_right c, h]; exact List.mem_cons_self)
    · exact .inr (List.mem_cons_of_mem _ h)
def maxM : MH → List MV → Option MV := fun hm xs => match xs with
  | [.int i, .int j] => some (.int (if j > i then j else i))
  | xs => onInts maxL hm xs
def minM : MH → List MV → Option MV := fun hm xs => match xs with
  | [.int i, .int j] => some (.int (if j < i then j else i))
  | xs => onInts minL hm xs
abbrev rMax2 : RN := fun xs H Q => ∃ i j, xs = [.int i, .int j] ∧ Q (.int (if j > i then j else i)) H
abbrev rMin2 : RN := fun xs H Q => ∃ i j, xs = [.int i, .int j] ∧ Q (.int (if j < i then j else i)) H
abbrev rMaxM (K : Kf) : RN := fun xs H Q => rMax2 xs H Q ∨ rMax K xs H Q
abbrev rMinM (K : Kf) : RN := fun xs H Q => rMin2 xs H Q ∨ rMin K xs H Q
theorem cr_maxM {X : Cx} (hc : X.calm = true) : CallR X (.builtin "max") (rMaxM X.K) := (call_max2 hc).or (cr_max hc)
theorem cr_minM {X : Cx} (hc : X.calm = true) : CallR X (.builtin "min") (rMinM X.K) := (call_min2 hc).or (cr_min hc)
theorem vp_max : VPn K (rMaxM K) maxM := by
  intro g hm H xs vs m Q rl ps e k
  unfold maxM at e
  split at e
  · cases e
    obtain ⟨v, w, rfl, p1, p2⟩ := ps.two
    exact .inl ⟨_, _, by rw [p1.int_inv, p2.int_inv], k g H _ (.refl rl) (.int _)⟩
  · obtain ⟨a, ns, i, rfl, h1, q, rfl⟩ := onInts_some rl ps e
    refine .inr ⟨a, ns, rfl, h1, ?_⟩
    cases ns with
    | nil => cases q
    | cons x r =>
      cases q
      refine ⟨by simp, fun mx hx hmax => ?_⟩
      have hge := foldl_max_ge r x
      have hmem := foldl_max_mem r x
      have e1 : mx = r.foldl max x := by
        refine Int.le_antisymm ?_ ?_
        · rcases List.mem_cons.mp hx with e | hx
          · rw [e]; exact hge.1
          · exact hge.2 _ hx
        · refine hmax _ ?_
          rcases hmem with e | e
          · rw [e]; exact List.mem_cons_self
          · exact List.mem_cons_of_mem _ e
      rw [e1]
      exact k g H _ (.refl rl) (.int _)
theorem vp_min : VPn K (rMinM K) minM := by
  intro g hm H xs vs m Q rl ps e k
  unfold minM at e
  split at e
  · cases e
    obtain ⟨v, w, rfl, p1, p2⟩ := ps.two
    exact .inl ⟨_, _, by rw [p1.int_inv, p2.int_inv], k g H _ (.refl rl) (.int _)⟩
  · obtain ⟨a, ns, i, rfl, h1, q, rfl⟩ := onInts_some rl ps e
    refine .inr ⟨a, ns, rfl, h1, ?_⟩
    cases ns with
    | nil => cases q
    | cons x r =>
      cases q
      refine ⟨by simp, fun mx hx hmax => ?_⟩
      have hge := foldl_min_le r x
      have hmem := foldl_min_mem r x
      have e1 : mx = r.foldl min x := by
        refine Int.le_antisymm ?_ ?_
        · refine hmax _ ?_
          rcases hmem with e | e
          · rw [e]; exact List.mem_cons_self
          · exact List.mem_cons_of_mem _ e
        · rcases List.mem_cons.mp hx with e | hx
          · rw [e]; exact hge.1
          · exact hge.2 _ hx
      rw [e1]
      exact k g H _ (.refl rl) (.int _)
def absM : MH → List MV → Option MV := fun _ xs => match xs with
  | [.int i] => some (.int (if i < 0 then -i else i))
  | _ => none
theorem vp_abs : VPn K (fun xs H Q => ∃ i, xs = [.int i] ∧ Q (.int (if i < 0 then -i else i)) H) absM := by
  intro g hm H xs vs m Q rl ps e k
  unfold absM at e
  split at e
  · cases e
    obtain ⟨v, rfl, p1⟩ := ps.one
    exact ⟨_, by rw [p1.int_inv], k g H _ (.refl rl) (.int _)⟩
  · cases e
def intM : MH → List MV → Option MV := fun _ xs => match xs with
  | [.int i] => some (.int i)
  | [.bl b] => some (.int (if b then 1 else 0))
  | _ => none
theorem vp_toInt : VPn K (fun xs H Q => (∃ i, xs = [.int i] ∧ Q (.int i) H) ∨ ∃ k, xs = [.bl k] ∧ Q (.int (if k then 1 else 0)) H) intM := by
  intro g hm H xs vs m Q rl ps e k
  unfold intM at e
  split at e
  · cases e
    obtain ⟨v, rfl, p1⟩ := ps.one
    exact .inl ⟨_, by rw [p1.int_inv], k g H _ (.refl rl) (.int _)⟩
  · cases e
    obtain ⟨v, rfl, p1⟩ := ps.one
    exact .inr ⟨_, by rw [p1.bl_inv], k g H _ (.refl rl) (.int _)⟩
  · cases e
def gcdM : MH → List MV → Option MV := fun _ xs => match xs with
  | [.int i, .int j] => some (.int (Nat.gcd i.natAbs j.natAbs))
  | _ => none
theorem vp_gcd : VPn K rGcd gcdM := by
  intro g hm H xs vs m Q rl ps e k
  unfold gcdM at e
  split at e
  · cases e
    obtain ⟨v, w, rfl, p1, p2⟩ := ps.two
    exact ⟨_, _, by rw [p1.int_inv, p2.int_inv], k g H _ (.refl rl) (.int _)⟩
  · cases e
def bitsM : MH → MV → Option MV := fun _ x => match x with
  | .int i => some (.int (Builtin.Int.intBits i : Nat))
  | _ => none
def decS (i : Int) : List Nat := (toString i : Str).cps.toList
def strM : MH → List MV → Option MV := fun _ xs => match xs with
  | [.int i] => if i.natAbs < 2 ^ 1900 then some (.str (decS i)) else none
  | _ => none
theorem toS_of (s : Str) : (⟨s.cps.toList.toArray⟩ : Str) = s := by cases s; simp
theorem vp_str : VPn K (fun xs H Q => ∃ i, xs = [.int i] ∧ i.natAbs.log2 < 1920 ∧ Q (.str (toString i)) H) strM := by
  intro g hm H xs vs m Q rl ps e k
  unfold strM at e
  split at e
  · rename_i i
    split at e
    · rename_i c
      cases e
      obtain ⟨v, rfl, p1⟩ := ps.one
      refine ⟨i, by rw [p1.int_inv], PySem.Flt.log2_lt_of (by decide) (Nat.lt_of_lt_of_le c (Nat.pow_le_pow_right (by decide) (by decide))), ?_⟩
      have z := k g H _ (.refl rl) (.str (decS i))
      unfold decS at z
      rw [toS_of] at z
      exact z
    · cases e
  · cases e
end
section
variable {K : Kf} {W : WX} {X : Cx} {a : Expr} {pos apos p : Pos} {x : Str} {e : Expr} {es : List Expr}
theorem se_bits {fa : EM} (ha : PE X a (rdP X.K W fa)) (hbase : attributeBase a "bit_length" X.env (eval a X.env) = eval a X.env := by rfl) (hline : (apos.endLine == pos.line) = true := by rfl) :
    PE X (.Call (.Attribute a "bit_length" apos) [] [] pos) (rdE X.K W (un1 bitsM fa)) := imp_e (pe_bits ha hbase hline) fun σ H Q h =>
  rdP_mono (Mid.start h).step fun vx H1 ⟨x, c⟩ => by
    obtain ⟨g, σm, hm, rl, R, ps, p⟩ := c
    cases ps with
    | cons px ps =>
      have p : Post X.K W g hm σ H1 (optR (bitsM hm x) hm) fun m g' _ H' => ∀ v, RV X.K g' H' m v → Q v H' := p
      cases e : bitsM hm x with
      | none => rw [e] at p; exact p.elim
      | some m =>
        rw [e] at p
        unfold bitsM at e
        split at e
        · cases e
          exact ⟨_, px.int_inv, p g H1 (.refl rl) _ (.int _)⟩
        · cases e
structure NmF (X : Cx) (x : Str) (id : String) : Prop where
  gl : Gl X x
  mg : X.mg x = some (.builtin id)
  db : (x == ("__debug__" : Str)) = false
theorem se_gcd {fs : OM} (n : NmF X x "math.gcd") (ha : PA X (e :: es) (rdPA X.K W fs))
    (he : starEach (e :: es) X.env = (false, eval e X.env) :: starEach es X.env := by rfl) (hpl : (backTo pos (starEach es X.env)).any (·.1) = false := by rfl) :
    PE X (.Call (.Name x p) (e :: es) [] pos) (rdE X.K W (callB gcdM fs)) := imp_e (pe_callBfun cr_gcd n.gl n.mg ha n.db he hpl) (rd_callB vp_gcd)
end

/-! ### isinstance -/
/-- a value's type, a locked dict of tuple keys too -/
inductive TyZ (K : Kf) (H : Hp) : V → Value → Prop where
  | base {x : V} {t : Value} (h : TyX K H x t) : TyZ K H x t
  | fT {a : Addr} {o : Obj} {kvs : List (List Key × V)} (e : H a = some (.frz o (.dT kvs))) : TyZ K H (.ref a) (.type "dict")
theorem kit_ofZ {X : Cx} {pins : List (Addr × Obj)} {σ : L2.St} {H : Hp} {s : Shared} {x : V} {u t : Value} (I : Inv X pins σ H s) (rx : RelV x u) (ty : TyZ X.K H x t) : ∃ P : Heap → Prop, PySem.W.KitX X.K u t P ∧ P s.heap ∧ u ≠ .builtin "__main__.__loader__#opaque" := by
  cases ty with
  | base b => exact kit_of I rx b
  | @fT a ob kvs ea =>
    cases (show u = Value.ref a from rx)
    obtain ⟨_, _, _, xs, _, o, es, ep, h1, h2, _⟩ := (show ObjOk X.prog X.w H s.heap a (.frz ob (.dT kvs)) from I.hok a _ ea)
    exact ⟨_, PySem.W.kitx_dict, ⟨o, h1, h2.1⟩, fun z => nomatch z⟩
def rIsZ (K : PySem.W.Frag) : List V → Hp → VK → Prop := fun xs H Q => ∃ (x c : V) (t u : Value) (b : Bool), xs = [x, c] ∧ ClsV c u ∧ TyZ K H x t ∧ PySem.W.kitOne K t u = some b ∧ Q (.bl b) H
def rIsTZ (K : PySem.W.Frag) : List V → Hp → VK → Prop := fun xs H Q => ∃ (x : V) (tp : Addr) (cs : List V) (t : Value) (us : List Value) (b : Bool), xs = [x, .ref tp] ∧ H tp = some (.tup cs) ∧ Paired ClsV cs us ∧ TyZ K H x t ∧ PySem.W.kitAny K t us = some b ∧ Q (.bl b) H
theorem call_isZ {X : Cx} : CallR X (.builtin "isinstance") (rIsZ X.K) := by
  intro pins s σ H xs us Q I r h
  obtain ⟨x, c, t, u, b, rfl, k, ty, e, q⟩ := h
  obtain ⟨u1, u2, rfl, r1, r2⟩ := vals2 r
  have e2 := k.eq r2
  subst e2
  obtain ⟨P, Z, p, hx⟩ := kit_ofZ I r1 ty
  exact PySem.W.kia_one Z I.kIn p e hx fun tk => ⟨.bl b, H, I.tok tk, rfl, q⟩
theorem call_isTZ {X : Cx} : CallR X (.builtin "isinstance") (rIsTZ X.K) := by
  intro pins s σ H xs us Q I r h
  obtain ⟨x, tp, cs, t, ws, b, rfl, hT, k, ty, e, q⟩ := h
  obtain ⟨u1, u2, rfl, r1, r2⟩ := vals2 r
  cases (show u2 = Value.ref tp from r2)
  obtain ⟨P, Z, p, hx⟩ := kit_ofZ I r1 ty
  obtain ⟨_, its, rv, o, h1, h2, n, h3⟩ := (show ObjOk X.prog X.w H s.heap tp (.tup cs) from I.hok tp _ hT)
  have e3 := ClsV.all k rv
  subst e3
  obtain ⟨oc, od, dt, sl⟩ := o
  simp only at h2 h3
  subst h2 h3
  exact PySem.W.kia_tup Z I.kIn p h1 e hx fun tk => ⟨.bl b, H, I.tok tk, rfl, q⟩
inductive Ty where
  | non | bool | int | str | tuple | list | dict
  deriving DecidableEq
def Ty.s : Ty → String
  | .non => "NoneType" | .bool => "bool" | .int => "int" | .str => "str" | .tuple => "tuple" | .list => "list" | .dict => "dict"
def isB : Ty → Ty → Bool
  | .bool, .int => true
  | a, b => decide (a = b)
theorem kit_isB (a b : Ty) (h : b ≠ .non) : kitB a.s b.s = some (isB a b) := by
  cases b <;> first | exact absurd rfl h | (cases a <;> decide +kernel)
def tyM (hm : MH) : MV → Option Ty
  | .non => some .non
  | .bl _ => some .bool
  | .int _ => some .int
  | .str _ => some .str
  | .tup _ => some .tuple
  | .lst _ => some .list
  | .scr _ => some .list
  | .dic _ => some .dict
  | .ref n => (match hm.get n with
    | some (.lst _) => some .list
    | some (.dic _) => some .dict
    | some (.dit _) => some .dict
    | _ => none)
  | .dit _ => some .dict
  | .exc _ _ => none
theorem tyX_of {K : Kf} {g : Gh} {hm : MH} {H : Hp} {m : MV} {v : V} {t : Ty} (rl : Rel K g hm H) (r : RP K g hm H m v) (e : tyM hm m = some t) : TyZ K H v (.type t.s) := by
  cases r with
  | of r =>
    cases r with
    | non => cases e; exact .base (.base .non)
    | bl b => cases e; exact .base (.base (.bl b))
    | int i => cases e; exact .base (.base (.int i))
    | str s => cases e; exact .base (.base (.str _))
    | tup f h z rs => cases e; exact .base (.base (.tup h))
    | tupK w rs =>
      cases e
      obtain ⟨o, its, n, h1, h2, _⟩ := w
      exact .base (.kTuple h1 h2)
    | lst f h z rs => cases e; exact .base (.base (.lst h))
    | scr h z rs =>
      cases e
      rcases h with ⟨f, o, h⟩ | ⟨o, its, n, h1, h2, _⟩
      · exact .base (.base (.frz h))
      · exact .base (.kList h1 h2)
    | dic f h rs => cases e; exact .base (.fDict h)
    | dit f h q rs => cases e; exact .fT h
    | exc f h f2 h2 rs => cases e
    | exc0 f h => cases e
    | ref n hn =>
      unfold tyM at e
      cases c : hm.get n with
      | none => simp only [c] at e; cases e
      | some o =>
        cases o with
        | lst xs =>
          simp only [c] at e
          cases e
          obtain ⟨z, vs, h1, rs⟩ := rl.ob n _ c
          exact .base (.base (.lst h1))
        | dic ks =>
          simp only [c] at e
          cases e
          obtain ⟨vs, h1, rs⟩ := rl.ob n _ c
          exact .base (.base (.dK h1))
        | dit ks =>
          simp only [c] at e
          cases e
          obtain ⟨vs, h1, rs⟩ := rl.ob n _ c
          exact .base (.base (.dT h1))
        | cel ks => simp only [c] at e; cases e
        | ins c1 fs => simp only [c] at e; cases e
  | own z ha rv nl => cases e; exact .base (.base (.lst ha))
def isiM (b : Ty) : MH → MV → Option MV := fun hm x => (tyM hm x).map fun a => .bl (isB a b)
def isiTM (bs : List Ty) : MH → MV → Option MV := fun hm x => (tyM hm x).map fun a => .bl (bs.any (isB a))
def tTys (bs : List Ty) : TA := fun _ H Q => Q (bs.map fun b => V.ty b.s) H
section
variable {K : Kf} {W : WX} {X : Cx} {a : Expr} {pos p pp p2 : Pos} {x c : Str} {e : Expr} {es : List Expr}
theorem sty_nil : PA X [] (tTys []) := imp_a pa_nil fun σ H Q h => h
theorem sty_cons {b : Ty} {bs : List Ty} (n : NmB X c (.type b.s)) (hr : PA X es (tTys bs)) (hs : starEach (.Name c pp :: es) X.env = (false, eval (.Name c pp) X.env) :: starEach es X.env := by rfl) : PA X (.Name c pp :: es) (tTys (b :: bs)) :=
  imp_a (pa_cons (pe_bltn (v := .ty b.s) n.gl n.mg n.bt rfl n.nn n.db) hr hs) fun σ H Q h => h
theorem se_isi {b : Ty} {fa : EM} (n : NmB X x (.builtin "isinstance")) (n2 : NmB X c (.type b.s)) (hb : b ≠ .non) (ha : PE X a (rdP X.K W fa))
    (hs : starEach [a, .Name c pp] X.env = (false, eval a X.env) :: starEach [.Name c pp] X.env := by rfl) :
    PE X (.Call (.Name x p) [a, .Name c pp] [] pos) (rdE X.K W (un1 (isiM b) fa)) :=
  imp_e (pe_callB call_isZ n.gl n.mg n.bt (pa_cons ha (sty_cons n2 sty_nil) hs) n.nn n.db hs) fun σ H Q h =>
    rdP_mono (Mid.start h).step fun vx H1 ⟨x, c⟩ => by
      obtain ⟨g, σm, hm, rl, R, ps, p⟩ := c
      cases ps with
      | cons px ps =>
        have p : Post X.K W g hm σ H1 (optR (isiM b hm x) hm) fun m g' _ H' => ∀ v, RV X.K g' H' m v → Q v H' := p
        unfold isiM at p
        cases e : tyM hm x with
        | none => rw [e] at p; exact p.elim
        | some t =>
          rw [e] at p
          exact ⟨vx, .ty b.s, .type t.s, .type b.s, isB t b, rfl, .ty _, tyX_of rl px e, kit_ty (kit_isB t b hb), p g H1 (.refl rl) _ (.bl _)⟩
theorem kitAny_tys (t : Ty) : ∀ bs : List Ty, (∀ b ∈ bs, b ≠ .non) → PySem.W.kitAny K (.type t.s) (bs.map fun b => Value.type b.s) = some (bs.any (isB t))
  | [], _ => kitAny_nil
  | b :: bs, h => by
    rw [List.map_cons, List.any_cons]
    refine kitAny_cons (b := isB t b) (kit_ty (kit_isB t b (h b List.mem_cons_self))) (fun e => ?_) (fun e => ?_)
    · rw [e, Bool.false_or]
      exact kitAny_tys t bs fun b hb => h b (List.mem_cons_of_mem _ hb)
    · rw [e]; rfl
theorem clsV_tys : ∀ bs : List Ty, Paired ClsV (bs.map fun b => V.ty b.s) (bs.map fun b => Value.type b.s)
  | [] => .nil
  | b :: bs => .cons (.ty _) (clsV_tys bs)
theorem se_isiT {bs : List Ty} {fa : EM} {k} (n : NmB X x (.builtin "isinstance")) (n2 : PA X es (tTys bs)) (hb : ∀ b ∈ bs, b ≠ .non) (hl : bs.length ≤ zl) (ha : PE X a (rdP X.K W fa))
    (hs : starEach [a, .Tuple es k pp] X.env = (false, eval a X.env) :: starEach [.Tuple es k pp] X.env := by rfl) :
    PE X (.Call (.Name x p) [a, .Tuple es k pp] [] pos) (rdE X.K W (un1 (isiTM bs) fa)) :=
  imp_e (pe_callB call_isTZ n.gl n.mg n.bt (pa_cons ha (pa_cons (pe_tup n2) pa_nil) hs) n.nn n.db hs) fun σ H Q h =>
    rdP_mono (Mid.start h).step fun vx H1 ⟨x, c⟩ => by
      obtain ⟨g, σm, hm, rl, R, ps, p⟩ := c
      cases ps with
      | cons px ps =>
        have p : Post X.K W g hm σ H1 (optR (isiTM bs hm x) hm) fun m g' _ H' => ∀ v, RV X.K g' H' m v → Q v H' := p
        unfold isiTM at p
        cases e : tyM hm x with
        | none => rw [e] at p; exact p.elim
        | some t =>
          rw [e] at p
          refine ⟨by rw [List.length_map, zl_eq]; exact hl, fun q hq => ?_⟩
          have ex := Ext.fz (o := .tup (bs.map fun b => V.ty b.s)) rl hq
          exact ⟨vx, q, _, .type t.s, _, bs.any (isB t), rfl, upd_same, clsV_tys bs, tyX_of ex.rel (px.ext rl ex) e, kitAny_tys t bs hb, p _ _ ex _ (.bl _)⟩
end
end Mi
end P_M8
section P_M9
set_option Elab.async false
set_option linter.all false
set_option maxRecDepth 100000
set_option maxHeartbeats 4000000
set_option exponentiation.threshold 10000
/-! M9: lists, tuples, texts, slices, what is walked, changes in place, dicts -/
namespace Mi
open PySem PySem.Spec PyProof.Rows L2 TL

/-! ### tuple(x), list(x), sorted(x) -/
def tupleM : MH → List MV → Option MV := fun hm xs => match xs with
  | [.tup ys] => some (.tup ys)
  | [x] => (seqM hm x).map .tup
  | _ => none
def listM : MH → List MV → Option (List MV) := fun hm xs => match xs with
  | [.tup ys] => if ys.length ≤ zl then some ys else none
  | [x] => seqM hm x
  | _ => none
def sortI (ns : List Int) : List Int := ns.mergeSort fun a b => decide (a ≤ b)
def sortedM : MH → List MV → Option (List MV) := fun hm xs => match xs with
  | [x] => (match seqM hm x with
    | some ys => (allM unInt ys).map fun ns => (sortI ns).map .int
    | none => none)
  | _ => none
theorem sortI_pw (ns : List Int) : (sortI ns).Pairwise (· ≤ ·) := by
  have h := List.pairwise_mergeSort (le := fun a b : Int => decide (a ≤ b)) (by
    intro a b c h1 h2
    simp only [decide_eq_true_eq] at h1 h2 ⊢
    exact Int.le_trans h1 h2) (by
    intro a b
    simp only [Bool.or_eq_true, decide_eq_true_eq]
    exact Int.le_total a b) ns
  exact h.imp fun h => by simpa using h
theorem sortI_perm (ns : List Int) : (sortI ns).Perm ns := List.mergeSort_perm ns _
theorem sortI_uniq {ns ns' : List Int} (h : ns'.Perm ns) (hp : ns'.Pairwise (· ≤ ·)) : ns' = sortI ns :=
  List.Perm.eq_of_pairwise (fun a b _ _ h1 h2 => Int.le_antisymm h1 h2) hp (sortI_pw ns) (h.trans (sortI_perm ns).symm)
section
variable {K : Kf}
theorem vp_tuple : VPn K (fun xs H Q => ∃ p ys, xs = [.ref p] ∧ ((SqL K H p ys ∧ ∀ l, H l = none → Q (.ref l) (upd H l (.tup ys))) ∨ (SqT K H p ys ∧ Q (.ref p) H))) tupleM := by
  intro g hm H xs vs m Q rl ps e k
  unfold tupleM at e
  split at e
  · cases e
    obtain ⟨v, rfl, px⟩ := ps.one
    obtain ⟨a, ws, rfl, h1, rs⟩ := px.tup_inv
    cases px with
    | of px => exact ⟨a, ws, rfl, .inr ⟨h1, k g H _ (.refl rl) px⟩⟩
  · rename_i x _
    obtain ⟨v, rfl, px⟩ := ps.one
    cases c : seqM hm x with
    | none => rw [c] at e; cases e
    | some ys =>
      rw [c] at e
      cases e
      obtain ⟨a, ws, rfl, h1, rs, z⟩ := px.seq rl c
      refine ⟨a, ws, rfl, .inl ⟨h1, fun l hl => ?_⟩⟩
      have ex := Ext.fz (o := .tup ws) rl hl
      exact k _ _ _ ex (.tup (.inr rfl) upd_same z (rs.up (ex.up rl)))
  · cases e
theorem new_lst {g : Gh} {hm : MH} {H : Hp} {ms : List MV} {ws : List V} {l : Addr} {Q : VK} (rl : Rel K g hm H) (rs : RVs K g H ms ws) (z : ms.length ≤ sizeLine)
    (k : ∀ g' H' a ws, Ext K g hm H g' hm H' → H a = none → H' a = some (.lst ws) → ms.length ≤ sizeLine → RVs K g' H' ms ws → ¬ g'.F a → ¬ Live g' hm a → Q (.ref a) H') (hl : H l = none) : Q (.ref l) (upd H l (.lst ws)) := by
  have ex := Ext.lay (o := .lst ws) rl hl
  exact k _ _ l ws ex hl upd_same z (rs.up (ex.up rl)) (rl.new_nf hl) (rl.new_nl hl)
theorem vo_list : VOn K (fun xs H Q => ∃ p ys, xs = [.ref p] ∧ (SqL K H p ys ∨ SqT K H p ys) ∧ ∀ l, H l = none → Q (.ref l) (upd H l (.lst ys))) listM := by
  intro g hm H xs vs m Q rl ps e k
  unfold listM at e
  split at e
  · split at e
    · rename_i c
      cases e
      obtain ⟨v, rfl, px⟩ := ps.one
      obtain ⟨a, ws, rfl, h1, rs⟩ := px.tup_inv
      exact ⟨a, ws, rfl, .inr h1, fun l hl => new_lst rl rs (by rw [zl_eq]; exact c) k hl⟩
    · cases e
  · obtain ⟨v, rfl, px⟩ := ps.one
    obtain ⟨a, ws, rfl, h1, rs, z⟩ := px.seq rl e
    exact ⟨a, ws, rfl, .inl h1, fun l hl => new_lst rl rs z k hl⟩
  · cases e
theorem vo_sorted : VOn K (rSortedI K) sortedM := by
  intro g hm H xs vs m Q rl ps e k
  unfold sortedM at e
  split at e
  · rename_i x
    obtain ⟨v, rfl, px⟩ := ps.one
    split at e
    · rename_i ys c
      obtain ⟨a, ws, rfl, h1, rs, z⟩ := px.seq rl c
      cases q : allM unInt ys with
      | none => rw [q] at e; cases e
      | some ns =>
        rw [q] at e
        cases e
        have ey := allM_int q
        subst ey
        rw [rs.ints_inv] at h1
        refine ⟨a, ns, rfl, h1, fun ns' p hp1 hp2 hp => ?_⟩
        rw [sortI_uniq hp1 hp2]
        refine new_lst rl RVs.ints ?_ k hp
        rw [List.length_map, (sortI_perm ns).length_eq]
        rw [List.length_map] at z
        exact z
    · cases e
  · cases e
end

/-! ### texts -/
def joinM (s : List Nat) : MH → List MV → Option MV := fun hm xs => match xs with
  | [x] => (match (match x with
      | .tup ys => some ys
      | x => seqM hm x) with
    | some ys => (match allM unStr ys with
      | some ps => if (ps.map List.length).sum + ps.length * s.length ≤ zl then some (.str (joinL s ps)) else none
      | none => none)
    | none => none)
  | _ => none
def splitM (s : List Nat) : MH → List MV → Option (List MV) := fun _ xs => match xs with
  | [.str b] => if 0 < b.length ∧ s.length + 2 ≤ zl ∧ (Txt.split (toS s) (toS b)).length ≤ zl then some ((Txt.split (toS s) (toS b)).map fun p => .str p.cps.toList) else none
  | _ => none
def strE (f : EM) (k : List Nat → Sl → MH → Res MV) : EM := bindE f fun x => match x with
  | .str s => k s
  | _ => fun _ _ => .no
def strO (f : EM) (k : List Nat → Sl → MH → Res (List MV)) : OM := bindE f fun x => match x with
  | .str s => k s
  | _ => fun _ _ => .no
section
variable {K : Kf} {W : WX} {X : Cx} {o e : Expr} {pos apos : Pos}
theorem str_lens (ps : List (List Nat)) : ((ps.map toS).map (·.length)).sum = (ps.map List.length).sum := by
  rw [List.map_map]
  congr 1
theorem joinL_eq (s : List Nat) (ps : List (List Nat)) : Txt.join (toS s) (ps.map toS) = toS (joinL s ps) := by
  rw [join_eq]
  refine ext_tl ?_
  rw [tl_join, List.map_map]
  have e : (tl ∘ toS) = id := funext fun l => rfl
  rw [e, List.map_id]
theorem join_at {g : Gh} {hm : MH} {H : Hp} {s : List Nat} {x : MV} {v : V} {m : MV} {Q : VK} (rl : Rel K g hm H) (px : RP K g hm H x v) (e : joinM s hm [x] = some m) (k : ∀ g' H' v, Ext K g hm H g' hm H' → RV K g' H' m v → Q v H') :
    ∃ a p, ∃ ys : List Str, V.str (toS s) = .str a ∧ [v] = [.ref p] ∧ (SqL K H p (ys.map V.str) ∨ SqT K H p (ys.map V.str)) ∧ (ys.map (·.length)).sum + ys.length * a.length ≤ 16777216 ∧ Q (.str (Txt.join a ys)) H := by
  have fin : ∀ {a : Addr} {ws : List V} {ys : List MV}, (SqL K H a ws ∨ SqT K H a ws) → RVs K g H ys ws → (match allM unStr ys with
      | some ps => if (ps.map List.length).sum + ps.length * s.length ≤ zl then some (.str (joinL s ps)) else none
      | none => (none : Option MV)) = some m → ∃ b p, ∃ ys : List Str, V.str (toS s) = .str b ∧ [V.ref a] = [.ref p] ∧ (SqL K H p (ys.map V.str) ∨ SqT K H p (ys.map V.str)) ∧ (ys.map (·.length)).sum + ys.length * b.length ≤ 16777216 ∧ Q (.str (Txt.join b ys)) H := by
    intro a ws ys hs rs e
    split at e
    · rename_i ps q
      split at e
      · rename_i c
        cases e
        have ey := allM_str q
        subst ey
        rw [rs.strs_inv] at hs
        refine ⟨toS s, a, ps.map toS, rfl, rfl, hs, ?_, ?_⟩
        · rw [str_lens, List.length_map, str_len]; exact c
        · rw [joinL_eq]; exact k g H _ (.refl rl) (.str _)
      · cases e
    · cases e
  cases x with
  | tup ys =>
    unfold joinM at e
    obtain ⟨a, ws, rfl, h1, rs⟩ := px.tup_inv
    exact fin (.inr h1) rs e
  | _ =>
    unfold joinM at e
    dsimp only at e
    split at e
    · rename_i ys c
      obtain ⟨a, ws, rfl, h1, rs, z⟩ := px.seq rl c
      exact fin (.inl h1) rs e
    · cases e
theorem se_join {fo fa : EM} (ho : PE X o (rdP X.K W fo)) (he : PE X e (rdP X.K W fa)) (hs : starEach [e] X.env = [(false, eval e X.env)] := by rfl) (hbase : attributeBase o "join" X.env (eval o X.env) = eval o X.env := by rfl) (hline : (apos.endLine == pos.line) = true := by rfl) :
    PE X (.Call (.Attribute o "join" apos) [e] [] pos) (rdE X.K W (strE fo fun s => un1 (fun h x => joinM s h [x]) fa)) := imp_e (pe_join ho he hs hbase hline) fun σ H Q h =>
  rdP_mono (Mid.start h).step fun vx H1 ⟨x, c⟩ => by
    obtain ⟨g, σm, hm, rl, R, ps, p⟩ := c
    obtain ⟨v1, e1, px⟩ := ps.one
    cases e1
    cases x with
    | str s =>
      have ex := px.str_inv
      subst ex
      refine ⟨⟨_, rfl⟩, rdP_mono (Mid.start ⟨g, σm, hm, rl, R, p⟩).step fun vy H2 ⟨y, c2⟩ => ?_⟩
      obtain ⟨g2, σm2, hm2, rl2, R2, ps2, p2⟩ := c2
      obtain ⟨v1, e1, py⟩ := ps2.one
      cases e1
      have p2 : Post X.K W g2 hm2 σ H2 (optR (joinM s hm2 [y]) hm2) fun m g' _ H' => ∀ v, RV X.K g' H' m v → Q v H' := p2
      cases e : joinM s hm2 [y] with
      | none => rw [e] at p2; exact p2.elim
      | some m =>
        rw [e] at p2
        exact join_at rl2 py e fun g' H' v ex rv => p2 g' H' ex v rv
    | _ => exact False.elim p
theorem so_split {fo fa : EM} (ho : PE X o (rdP X.K W fo)) (he : PE X e (rdP X.K W fa)) (hs : starEach [e] X.env = [(false, eval e X.env)] := by rfl) (hbase : attributeBase o "split" X.env (eval o X.env) = eval o X.env := by rfl) (hline : (apos.endLine == pos.line) = true := by rfl) :
    PE X (.Call (.Attribute o "split" apos) [e] [] pos) (rdO X.K W (strO fo fun s => bindE fa fun x => fun _ h => optR (splitM s h [x]) h)) := imp_e (pe_split ho he hs hbase hline) fun σ H Q h => by
  obtain ⟨g, σm, hm, rl, R, p⟩ := h
  refine ⟨g, σm, hm, rl, R, (Post.bind rl p).mono fun x g1 hm1 H1 e1 q v px => ?_⟩
  cases x with
  | str s =>
    have ex := px.str_inv
    subst ex
    refine ⟨⟨_, rfl⟩, g1, σm, hm1, e1.rel, R.ext rl e1, (Post.bind e1.rel q).mono fun y g2 hm2 H2 e2 p2 vy py => ?_⟩
    have p2 : Post X.K W g2 hm2 σ H2 (optR (splitM s hm2 [y]) hm2) _ := p2
    cases e : splitM s hm2 [y] with
    | none => rw [e] at p2; exact p2.elim
    | some ms =>
      rw [e] at p2
      unfold splitM at e
      split at e
      · rename_i b he
        cases he
        split at e
        · rename_i c
          cases e
          refine ⟨_, _, rfl, by rw [py.str_inv], ?_, by rw [str_len, zl_eq]; exact c.2.1, fun p hp => ?_⟩
          · rw [str_len]
            have := c.1
            cases b with
            | nil => simp at this
            | cons _ _ => rfl
          · exact new_lst e2.rel (ms := (Txt.split (toS s) (toS b)).map fun p => .str p.cps.toList) RVs.strs' (by rw [List.length_map, zl_eq]; exact c.2.2) (fun g' H' a ws ex h0 h1 z rv nf nl => 
              p2 g' H' ex a ws (e1.free (e2.free h0)) h1 z rv nf nl) hp
        · cases e
      · cases e
  | _ => exact False.elim q
end
end Mi
end P_M9
section P_M10
set_option Elab.async false
set_option linter.all false
set_option maxRecDepth 100000
set_option maxHeartbeats 4000000
set_option exponentiation.threshold 10000
/-! M10: slices, what is walked, changes in place, dicts, new objects of the small heap -/
namespace Mi
open PySem PySem.Spec PyProof.Rows L2 TL

/-! ### a[i:j], a[::-1] -/
abbrev PM := Sl → MH → Res (Option Int)
def noP : PM := fun _ h => .ok none h
def prtP (f : EM) : PM := bindE f fun x _ h => match x with
  | .int i => .ok (some i) h
  | _ => .no
def rdTO (K : Kf) (W : WX) (f : PM) : TO := fun σ H Q => Rdg K W σ H f fun o _ _ H' => Q o H'
theorem imp_po {X : Cx} {e : Option Expr} {t t' : TO} (h : PO X e t) (k : ∀ σ H Q, t' σ H Q → t σ H Q) : PO X e t' := ⟨fun pins s σ H Q I q => h.run pins s σ H Q I (k σ H Q q)⟩
def cutL {α : Type} (xs : List α) (lo hi : Option Int) : List α := (xs.drop (HT.sIx xs.length 0 lo)).take (HT.sIx xs.length xs.length hi - HT.sIx xs.length 0 lo)
theorem cutL_length {α : Type} (xs : List α) (lo hi : Option Int) : (cutL xs lo hi).length ≤ xs.length := by
  unfold cutL
  rw [List.length_take, List.length_drop]
  omega
theorem RVs.cut {K : Kf} {g : Gh} {H : Hp} {xs : List MV} {vs : List V} (r : RVs K g H xs vs) (lo hi : Option Int) : RVs K g H (cutL xs lo hi) (cutV vs lo hi) := by
  unfold cutL cutV
  rw [r.length]
  exact (r.drop _).take _
def slO (fe : EM) (fl fh : PM) : OM := bindE fe fun x => bindE fl fun lo => bindE fh fun hi => fun _ h => optR ((seqM h x).map fun xs => cutL xs lo hi) h
def slE (fe : EM) (fl fh : PM) : EM := bindE fe fun x => bindE fl fun lo => bindE fh fun hi => fun _ h => optR (match x with
  | .str s => if s.length ≤ zl then some (.str (cutL s lo hi)) else none
  | .tup xs => if ¬ (HT.sIx xs.length 0 lo = 0 ∧ HT.sIx xs.length xs.length hi = xs.length) ∧ xs.length ≤ zl then some (.tup (cutL xs lo hi)) else none
  | _ => none) h
section
variable {K : Kf} {W : WX} {X : Cx} {e : Expr} {pos p2 : Pos} {lo hi : Option Expr}
theorem spo_none : PO X none (rdTO X.K W noP) := imp_po po_none fun σ H Q h => by
  obtain ⟨g, σm, hm, rl, R, p⟩ := h
  exact p g H (.refl rl)
theorem spo_some {f : EM} (h : PE X e (rdP X.K W f)) : PO X (some e) (rdTO X.K W (prtP f)) := imp_po (po_some h) fun σ H Q h => by
  obtain ⟨g, σm, hm, rl, R, p⟩ := h
  refine ⟨g, σm, hm, rl, R, (Post.bind rl p).mono fun x g1 hm1 H1 e1 q v px => ?_⟩
  cases x with
  | int i => exact ⟨i, px.int_inv, q g1 H1 (.refl e1.rel)⟩
  | _ => exact False.elim q
theorem so_sl {fe : EM} {fl fh : PM} (he : PE X e (rdP X.K W fe)) (hl : PO X lo (rdTO X.K W fl)) (hu : PO X hi (rdTO X.K W fh)) : PE X (.Subscript e (.Slice lo hi none p2) pos) (rdO X.K W (slO fe fl fh)) :=
  imp_e (pe_slice sl_list he hl hu) fun σ H Q h => by
    obtain ⟨g, σm, hm, rl, R, p⟩ := h
    refine ⟨g, σm, hm, rl, R, (Post.bind rl p).mono fun x g1 hm1 H1 e1 p1 v px => ?_⟩
    refine ⟨g1, σm, hm1, e1.rel, R.ext rl e1, (Post.bind e1.rel p1).mono fun lo g2 hm2 H2 e2 p2 => ?_⟩
    refine ⟨g2, σm, hm2, e2.rel, (R.ext rl e1).ext e1.rel e2, (Post.bind e2.rel p2).mono fun hi g3 hm3 H3 e3 p3 => ?_⟩
    have px := (px.ext e1.rel e2).ext e2.rel e3
    have p3 : Post X.K W g3 hm3 σ H3 (optR ((seqM hm3 x).map fun xs => cutL xs lo hi) hm3) _ := p3
    cases c : seqM hm3 x with
    | none => rw [c] at p3; exact p3.elim
    | some xs =>
      rw [c] at p3
      obtain ⟨a, ws, rfl, h1, rs, z⟩ := px.seq e3.rel c
      refine ⟨a, ws, rfl, h1, fun l hl => ?_⟩
      exact new_lst e3.rel (ms := cutL xs lo hi) (rs.cut lo hi) (Nat.le_trans (cutL_length xs lo hi) z) (fun g' H' a ws ex h0 h1 z rv nf nl => p3 g' H' ex a ws (e1.free (e2.free (e3.free h0))) h1 z rv nf nl) hl
theorem se_sl {fe : EM} {fl fh : PM} (he : PE X e (rdP X.K W fe)) (hl : PO X lo (rdTO X.K W fl)) (hu : PO X hi (rdTO X.K W fh)) : PE X (.Subscript e (.Slice lo hi none p2) pos) (rdE X.K W (slE fe fl fh)) :=
  imp_e (pe_slice (sl_str.or sl_tup) he hl hu) fun σ H Q h => by
    obtain ⟨g, σm, hm, rl, R, p⟩ := h
    refine ⟨g, σm, hm, rl, R, (Post.bind rl p).mono fun x g1 hm1 H1 e1 p1 v px => ?_⟩
    refine ⟨g1, σm, hm1, e1.rel, R.ext rl e1, (Post.bind e1.rel p1).mono fun lo g2 hm2 H2 e2 p2 => ?_⟩
    refine ⟨g2, σm, hm2, e2.rel, (R.ext rl e1).ext e1.rel e2, (Post.bind e2.rel p2).mono fun hi g3 hm3 H3 e3 p3 => ?_⟩
    have px := (px.ext e1.rel e2).ext e2.rel e3
    cases x with
    | str s =>
      have p3 : Post X.K W g3 hm3 σ H3 (optR (if s.length ≤ zl then some (.str (cutL s lo hi)) else none) hm3) fun m g' _ H' => ∀ v, RV X.K g' H' m v → Q v H' := p3
      by_cases c : s.length ≤ zl
      · rw [if_pos c] at p3
        refine .inl ⟨_, px.str_inv, by rw [str_len, zl_eq]; exact c, ?_⟩
        have e : cutS (toS s) lo hi = toS (cutL s lo hi) := by
          unfold cutS cutL
          rw [str_len]
        rw [e]
        exact p3 g3 H3 (.refl e3.rel) _ (.str _)
      · rw [if_neg c] at p3
        exact p3.elim
    | tup xs =>
      have p3 : Post X.K W g3 hm3 σ H3 (optR (if ¬ (HT.sIx xs.length 0 lo = 0 ∧ HT.sIx xs.length xs.length hi = xs.length) ∧ xs.length ≤ zl then some (.tup (cutL xs lo hi)) else none) hm3) fun m g' _ H' => ∀ v, RV X.K g' H' m v → Q v H' := p3
      by_cases c : ¬ (HT.sIx xs.length 0 lo = 0 ∧ HT.sIx xs.length xs.length hi = xs.length) ∧ xs.length ≤ zl
      · rw [if_pos c] at p3
        obtain ⟨a, ws, rfl, h1, rs⟩ := px.tup_inv
        refine .inr ⟨a, ws, rfl, h1, by rw [← rs.length]; exact c.1, fun l hl => ?_⟩
        have ex := Ext.fz (o := .tup (cutV ws lo hi)) e3.rel hl
        exact p3 _ _ ex _ (.tup (.inr rfl) upd_same (by rw [zl_eq]; exact Nat.le_trans (cutL_length xs lo hi) c.2) ((rs.cut lo hi).up (ex.up e3.rel)))
      · rw [if_neg c] at p3
        exact p3.elim
    | _ => exact False.elim p3
def revO (fe : EM) : OM := bindE fe fun x => fun _ h => optR ((seqM h x).map List.reverse) h
theorem so_rev {fe : EM} {k} {p1 p2 p3 : Pos} (he : PE X e (rdP X.K W fe)) : PE X (.Subscript e (.Slice none none (some (.UnaryOp .USub (.Constant (.int 1) k p1) p2)) p3) pos) (rdO X.K W (revO fe)) :=
  imp_e (pe_revL he) fun σ H Q h => by
    obtain ⟨g, σm, hm, rl, R, p⟩ := h
    refine ⟨g, σm, hm, rl, R, (Post.bind rl p).mono fun x g1 hm1 H1 e1 p1 v px => ?_⟩
    have p1 : Post X.K W g1 hm1 σ H1 (optR ((seqM hm1 x).map List.reverse) hm1) _ := p1
    cases c : seqM hm1 x with
    | none => rw [c] at p1; exact p1.elim
    | some xs =>
      rw [c] at p1
      obtain ⟨a, ws, rfl, h1, rs, z⟩ := px.seq e1.rel c
      refine ⟨a, ws, rfl, h1, fun l hl => ?_⟩
      exact new_lst e1.rel (ms := xs.reverse) rs.reverse (by rw [List.length_reverse]; exact z) (fun g' H' a ws ex h0 h1 z rv nf nl => p1 g' H' ex a ws (e1.free h0) h1 z rv nf nl) hl
end

/-! ### range, zip, the signs of a text -/
def rng (a b : Int) : List MV := (List.range (b - a).toNat).map fun i => .int (a + (i : Nat))
def rngD (a b : Int) : List MV := (List.range (a - b).toNat).map fun i => .int (a - (i : Nat))
def sml (i : Int) : Bool := decide (-(2 ^ 62) ≤ i) && decide (i < 2 ^ 62)
theorem sml_iff {i : Int} : sml i = true ↔ -(2 ^ 62) ≤ i ∧ i < 2 ^ 62 := by simp [sml]
def rng1M (xs : List MV) : Option (List MV) := match xs with
  | [.int b] => if sml b = true then some (rng 0 b) else none
  | _ => none
def rng2M (xs : List MV) : Option (List MV) := match xs with
  | [.int a, .int b] => if sml a = true ∧ sml b = true then some (rng a b) else none
  | _ => none
def rng3M (xs : List MV) : Option (List MV) := match xs with
  | [.int a, .int b, .int c] => if sml a = true ∧ sml b = true ∧ c = -1 then some (rngD a b) else none
  | _ => none
def itB (op : List MV → Option (List MV)) (fs : OM) : OM := bindE fs fun xs => fun _ h => optR (op xs) h
theorem rng_get {a b : Int} {i : Nat} {m : MV} (h : (rng a b)[i]? = some m) : i < (b - a).toNat ∧ m = .int (a + (i : Nat)) := by
  unfold rng at h
  rw [List.getElem?_map] at h
  by_cases c : i < (b - a).toNat
  · rw [List.getElem?_range c] at h
    cases h
    exact ⟨c, rfl⟩
  · rw [List.getElem?_eq_none (by simpa using c)] at h
    cases h
theorem rngD_get {a b : Int} {i : Nat} {m : MV} (h : (rngD a b)[i]? = some m) : i < (a - b).toNat ∧ m = .int (a - (i : Nat)) := by
  unfold rngD at h
  rw [List.getElem?_map] at h
  by_cases c : i < (a - b).toNat
  · rw [List.getElem?_range c] at h
    cases h
    exact ⟨c, rfl⟩
  · rw [List.getElem?_eq_none (by simpa using c)] at h
    cases h
theorem it_rng {K : Kf} {S : Gh → MH → Hp → Prop} {a b : Int} : ItOk K S (Itr a (b - a).toNat) (rng a b) := fun g hm H rl s i => by
  refine ⟨fun m hm' => ?_, fun hi => ?_⟩
  · obtain ⟨h1, rfl⟩ := rng_get hm'
    refine ⟨h1, fun x H' y => ?_⟩
    obtain ⟨rfl, rfl⟩ := y
    exact ⟨g, .refl rl, .int _⟩
  · have e : (rng a b).length = (b - a).toNat := by unfold rng; simp
    rw [e] at hi
    exact hi
theorem it_rngD {K : Kf} {S : Gh → MH → Hp → Prop} {a b : Int} : ItOk K S (Itc a (-1) (a - b).toNat) (rngD a b) := fun g hm H rl s i => by
  refine ⟨fun m hm' => ?_, fun hi => ?_⟩
  · obtain ⟨h1, rfl⟩ := rngD_get hm'
    refine ⟨h1, fun x H' y => ?_⟩
    obtain ⟨rfl, rfl⟩ := y
    refine ⟨g, .refl rl, ?_⟩
    have e : a + (i : Nat) * (-1 : Int) = a - (i : Nat) := by omega
    rw [e]
    exact .int _
  · have e : (rngD a b).length = (a - b).toNat := by unfold rngD; simp
    rw [e] at hi
    exact hi
section
variable {K : Kf} {W : WX} {X : Cx} {tg a b c e e2 : Expr} {pos p : Pos}
theorem rd_itB {op : List MV → Option (List MV)} {fs : OM} {r : List V → Hp → (It → Hp → Prop) → Prop} (hr : ∀ g hm H xs vs ms (R : It → Hp → Prop), Rel K g hm H → RVs K g H xs vs → op xs = some ms → (∀ J, ItOk K (fun g' _ H' => Up g H g' H') J ms → R J H) → r vs H R)
    (σ : L2.St) (H : Hp) (R : It → Hp → Prop) (h : rdI K W (itB op fs) σ H R) : rdA K W fs σ H fun vs H1 => r vs H1 R := by
  obtain ⟨g, σm, hm, rl, Rn, p⟩ := h
  refine ⟨g, σm, hm, rl, Rn, (Post.bind rl p).mono fun xs g1 hm1 H1 e1 q vs rs => ?_⟩
  have q : Post K W g1 hm1 σ H1 (optR (op xs) hm1) fun ms g' _ H' => ∀ J, ItOk K (fun g _ H => Up g' H' g H) J ms → R J H' := q
  cases c : op xs with
  | none => rw [c] at q; exact q.elim
  | some ms =>
    rw [c] at q
    exact hr g1 hm1 H1 xs vs ms R e1.rel rs c (q g1 H1 (.refl e1.rel))
theorem RVs.i1 {g : Gh} {H : Hp} {i : Int} {vs : List V} (r : RVs K g H [.int i] vs) : vs = [.int i] := by
  cases r with
  | cons r rs => cases r; cases rs; rfl
theorem RVs.i2 {g : Gh} {H : Hp} {i j : Int} {vs : List V} (r : RVs K g H [.int i, .int j] vs) : vs = [.int i, .int j] := by
  cases r with
  | cons r rs => cases r; rw [rs.i1]
theorem RVs.i3 {g : Gh} {H : Hp} {i j k : Int} {vs : List V} (r : RVs K g H [.int i, .int j, .int k] vs) : vs = [.int i, .int j, .int k] := by
  cases r with
  | cons r rs => cases r; rw [rs.i2]
theorem si_rng1 {fs : OM} (n : NmB X "range" (.type "range")) (ha : PA X [a] (rdA X.K W fs)) (hs : starEach [a] X.env = [(false, eval a X.env)] := by rfl) : PI X tg (.Call (.Name "range" p) [a] [] pos) (rdI X.K W (itB rng1M fs)) :=
  imp_i (pi_range1 n.gl n.mg ha hs) (rd_itB fun g hm H xs vs ms R rl rs e k => by
    unfold rng1M at e
    split at e
    · split at e
      · rename_i b c
        cases e
        have c := sml_iff.mp c
        refine ⟨b, rs.i1, c.1, c.2, ?_⟩
        have z := k (Itr 0 (b - 0).toNat) it_rng
        rw [Int.sub_zero] at z
        exact z
      · cases e
    · cases e)
theorem si_rng2 {fs : OM} (n : NmB X "range" (.type "range")) (ha : PA X [a, b] (rdA X.K W fs)) (hs : starEach [a, b] X.env = [(false, eval a X.env), (false, eval b X.env)] := by rfl) (hs2 : starEach [b] X.env = [(false, eval b X.env)] := by rfl) :
    PI X tg (.Call (.Name "range" p) [a, b] [] pos) (rdI X.K W (itB rng2M fs)) :=
  imp_i (pi_range2 n.gl n.mg ha hs hs2) (rd_itB fun g hm H xs vs ms R rl rs e k => by
    unfold rng2M at e
    split at e
    · split at e
      · rename_i a b c
        cases e
        have c1 := sml_iff.mp c.1
        have c2 := sml_iff.mp c.2
        exact ⟨a, b, rs.i2, ⟨c1.1, c1.2, c2.1, c2.2⟩, k _ it_rng⟩
      · cases e
    · cases e)
theorem si_rng3 {fs : OM} (n : NmB X "range" (.type "range")) (ha : PA X [a, b, c] (rdA X.K W fs)) (hs : starEach [a, b, c] X.env = (false, eval a X.env) :: starEach [b, c] X.env := by rfl) (hpl : (backTo pos (starEach [b, c] X.env)).any (·.1) = false := by rfl) :
    PI X tg (.Call (.Name "range" p) [a, b, c] [] pos) (rdI X.K W (itB rng3M fs)) :=
  imp_i (pi_range3 n.gl n.mg ha hs hpl) (rd_itB fun g hm H xs vs ms R rl rs e k => by
    unfold rng3M at e
    split at e
    · split at e
      · rename_i a b d c
        cases e
        obtain ⟨c1, c2, rfl⟩ := c
        have c1 := sml_iff.mp c1
        have c2 := sml_iff.mp c2
        exact ⟨a, b, -1, _, rs.i3, RgC.neg c1.1 c1.2 c2.1 c2.2, k _ it_rngD⟩
      · cases e
    · cases e)
/-! zip of two lists, of two tuples -/
def zipL : List MV → List MV → List MV
  | x :: xs, y :: ys => .tup [x, y] :: zipL xs ys
  | _, _ => []
def zipM (xs : List MV) : Option (List MV) := match xs with
  | [.lst x, .lst y] => some (zipL x y)
  | [.tup x, .tup y] => some (zipL x y)
  | _ => none
theorem zipL_get : ∀ {xs ys : List MV} {i : Nat} {m : MV}, (zipL xs ys)[i]? = some m → ∃ x y, xs[i]? = some x ∧ ys[i]? = some y ∧ m = .tup [x, y]
  | x :: xs, y :: ys, 0, m, h => by
    cases h
    exact ⟨x, y, rfl, rfl, rfl⟩
  | x :: xs, y :: ys, i + 1, m, h => by
    obtain ⟨a, b, h1, h2, h3⟩ := zipL_get (xs := xs) (ys := ys) (i := i) h
    exact ⟨a, b, h1, h2, h3⟩
  | [], _, i, m, h => by simp [zipL] at h
  | _ :: _, [], i, m, h => by simp [zipL] at h
theorem zipL_length : ∀ (xs ys : List MV), (zipL xs ys).length = min xs.length ys.length
  | x :: xs, y :: ys => by unfold zipL; rw [List.length_cons, zipL_length xs ys, List.length_cons, List.length_cons]; omega
  | [], _ => by simp [zipL]
  | _ :: _, [] => by simp [zipL]
theorem si_zip {elts : List Expr} {kk : Nat} {tpos : Pos} {fs : OM} (n : NmB X "zip" (.type "zip")) (ha : PA X [e, e2] (rdA X.K W fs)) (hs : starEach [e, e2] X.env = (false, eval e X.env) :: starEach [e2] X.env := by rfl) (hpl : (backTo pos (starEach [e2] X.env)).any (·.1) = false := by rfl) :
    PI X (.Tuple elts kk tpos) (.Call (.Name "zip" p) [e, e2] [] pos) (rdI X.K W (itB zipM fs)) :=
  imp_i (RZ.pi_zipA n.gl n.mg ha hs hpl) (rd_itB fun g hm H xs vs ms R rl rs e k => by
    unfold zipM at e
    split at e
    · rename_i x y
      cases e
      cases rs with
      | cons r1 rs => cases rs with
        | cons r2 rs =>
          cases rs
          cases r1 with
          | @lst a v1 _ f1 h1 z1 q1 =>
            cases r2 with
            | @lst b v2 _ f2 h2 z2 q2 =>
              refine ⟨a, b, v1, v2, rfl, .inl ⟨SqL.of h1, SqL.of h2, k _ fun g2 hm2 H2 rl2 u i => ⟨fun m hm' => ?_, fun hi => ?_⟩⟩⟩
              · obtain ⟨m1, m2, e1, e2, rfl⟩ := zipL_get hm'
                have l1 := SqL.of (K := X.K) (u.hp _ _ f1 h1)
                have l2 := SqL.of (K := X.K) (u.hp _ _ f2 h2)
                obtain ⟨w1, t1, s1⟩ := q1.get e1
                obtain ⟨w2, t2, s2⟩ := q2.get e2
                refine ⟨⟨v1, v2, w1, w2, l1, l2, t1, t2⟩, fun x H' y => ?_⟩
                obtain ⟨T, p1, p2, rfl, hT, rfl, y1, y2⟩ := y
                have d1 := y1 _ l1
                have d2 := y2 _ l2
                rw [t1] at d1
                rw [t2] at d2
                cases d1
                cases d2
                have ex := Ext.fz (o := .tup [w1, w2]) rl2 hT
                exact ⟨_, ex, .tup (.inr rfl) upd_same (by rw [zl_eq]; show 2 ≤ zl; decide) (.cons ((s1.up u).up (ex.up rl2)) (.cons ((s2.up u).up (ex.up rl2)) .nil))⟩
              · rw [zipL_length] at hi
                refine ⟨v1, v2, SqL.of (u.hp _ _ f1 h1), SqL.of (u.hp _ _ f2 h2), ?_⟩
                rw [← q1.length, ← q2.length]
                omega
    · rename_i x y
      cases e
      cases rs with
      | cons r1 rs => cases rs with
        | cons r2 rs =>
          cases rs
          obtain ⟨h', a, v1, rfl, h1, q1, st1⟩ := rv_tup r1 (ms := x) (h := hm) rfl
          obtain ⟨h'', b, v2, rfl, h2, q2, st2⟩ := rv_tup r2 (ms := y) (h := hm) rfl
          refine ⟨a, b, v1, v2, rfl, .inr ⟨h1, h2, k _ fun g2 hm2 H2 rl2 u i => ⟨fun m hm' => ?_, fun hi => ?_⟩⟩⟩
          · obtain ⟨m1, m2, e1, e2, rfl⟩ := zipL_get hm'
            have l1 := st1 _ _ u
            have l2 := st2 _ _ u
            obtain ⟨w1, t1, s1⟩ := q1.get e1
            obtain ⟨w2, t2, s2⟩ := q2.get e2
            refine ⟨⟨v1, v2, w1, w2, l1, l2, t1, t2⟩, fun x H' y => ?_⟩
            obtain ⟨T, p1, p2, rfl, hT, rfl, y1, y2⟩ := y
            have d1 := y1 _ l1
            have d2 := y2 _ l2
            rw [t1] at d1
            rw [t2] at d2
            cases d1
            cases d2
            have ex := Ext.fz (o := .tup [w1, w2]) rl2 hT
            exact ⟨_, ex, .tup (.inr rfl) upd_same (by rw [zl_eq]; show 2 ≤ zl; decide) (.cons ((s1.up u).up (ex.up rl2)) (.cons ((s2.up u).up (ex.up rl2)) .nil))⟩
          · rw [zipL_length] at hi
            refine ⟨v1, v2, st1 _ _ u, st2 _ _ u, ?_⟩
            rw [← q1.length, ← q2.length]
            omega
    · cases e)
/-- list(range(a, b)) -/
def lrgO (op : List MV → Option (List MV)) (fs : OM) : OM := bindE fs fun xs => fun _ h => match op xs with
  | some ms => if ms.length ≤ zl then .ok ms h else .no
  | none => .no
theorem so_lrg1 {p2 pos2 : Pos} {fa : EM} (hc : X.calm = true) (n : NmB X "range" (.type "range")) (n2 : NmB X "list" (.type "list")) (ha : PE X a (rdE X.K W fa)) (na : starEach [a] X.env = (false, eval a X.env) :: starEach [] X.env := by rfl) :
    PE X (.Call (.Name "list" p2) [.Call (.Name "range" p) [a] [] pos] [] pos2) (rdO X.K W (lrgO rng1M (consA fa nilA))) :=
  imp_e (pe_listRg hc n2.gl n2.mg (prg_1 n.gl n.mg ha na)) fun σ H Q h => by
    obtain ⟨g, σm, hm, rl, Rn, p⟩ := h
    refine ⟨g, σm, hm, rl, Rn, (Post.bind rl (Post.bind rl p)).mono fun x g1 hm1 H1 e1 q v rv => ?_⟩
    have q : Post X.K W g1 hm1 σ H1 (match rng1M [x] with
      | some ms => if ms.length ≤ zl then .ok ms hm1 else .no
      | none => .no) _ := q g1 H1 (.refl e1.rel)
    cases x with
    | int b =>
      cases rv
      refine ⟨b, rfl, ?_⟩
      unfold rng1M at q
      dsimp only at q
      by_cases c : sml b = true
      · rw [if_pos c] at q
        dsimp only at q
        by_cases c2 : (rng 0 b).length ≤ zl
        · rw [if_pos c2] at q
          have c := sml_iff.mp c
          have hl : (rng 0 b).length = (b - 0).toNat := by unfold rng; simp
          refine ⟨⟨by decide, by decide, c.1, c.2, by rw [← hl]; exact c2⟩, fun p hp => ?_⟩
          have rvs : RVs X.K g1 H1 (rng 0 b) (rgV 0 b) := by
            unfold rng rgV
            have e : ∀ l : List Nat, RVs X.K g1 H1 (l.map fun i => MV.int (0 + (i : Nat))) (l.map fun i => V.int (0 + (i : Nat))) := by
              intro l
              induction l with
              | nil => exact .nil
              | cons z zs ih => exact .cons (.int _) ih
            exact e _
          exact new_lst e1.rel (ms := rng 0 b) rvs (by rw [zl_eq]; exact c2) (fun g' H' a ws ex h0 h1 z rv nf nl => q g' H' ex a ws (e1.free h0) h1 z rv nf nl) hp
        · rw [if_neg c2] at q; exact q.elim
      · rw [if_neg c] at q; exact q.elim
    | _ => exact False.elim q
end
end Mi
end P_M10
section P_M11
set_option Elab.async false
set_option linter.all false
set_option maxRecDepth 100000
set_option maxHeartbeats 4000000
set_option exponentiation.threshold 10000
/-! M11: changes in place, new objects of the small heap, dicts -/
namespace Mi
open PySem PySem.Spec PyProof.Rows L2 TL

/-! ### a slot's own list changes -/
def mutS (i : Nat) (op : List MV → List MV → Option (List MV)) (fs : OM) : SM := fun σ h => match σ[i]? with
  | some (.own _) => bindS fs (fun xs σ h => match σ[i]? with
    | some (.own ys) => (match op ys xs with
      | some zs => .nx (σ.set i (.own zs)) h
      | none => .no)
    | _ => .no) σ h
  | _ => .no
def VMu (K : Kf) (r : V → List V → Hp → VK → Prop) (op : List MV → List MV → Option (List MV)) : Prop := ∀ (g : Gh) (H : Hp) (a : Addr) (ys xs zs : List MV) (ws vs : List V), H a = some (.lst ws) → RVs K g H ys ws → RVs K g H xs vs → ys.length ≤ sizeLine →
  op ys xs = some zs → ∃ ws', RVs K g H zs ws' ∧ zs.length ≤ sizeLine ∧ ∀ Q : VK, Q .non (upd H a (.lst ws')) → r (.ref a) vs H Q
def appendM (ys xs : List MV) : Option (List MV) := match xs with
  | [x] => if ys.length < zl then some (ys ++ [x]) else none
  | _ => none
def insertM (ys xs : List MV) : Option (List MV) := match xs with
  | [.int i, x] => if ys.length < zl ∧ 0 ≤ i ∧ i < 2 ^ 63 then some (ys.take i.toNat ++ [x] ++ ys.drop i.toNat) else none
  | _ => none
def extendM (ys xs : List MV) : Option (List MV) := match xs with
  | [.lst x] => if ys.length + x.length ≤ zl then some (ys ++ x) else none
  | _ => none
section
variable {K : Kf}
theorem vm_append : VMu K rAppend appendM := by
  intro g H a ys xs zs ws vs h rs rx z e
  unfold appendM at e
  split at e
  · split at e
    · rename_i x c
      cases e
      cases rx with
      | cons r rx =>
        cases rx
        exact ⟨_, rs.append (.cons r .nil), by rw [List.length_append, List.length_singleton, zl_eq]; omega, fun Q q => ⟨a, ws, _, rfl, rfl, h, by rw [← rs.length, zl_eq]; exact c, q⟩⟩
    · cases e
  · cases e
abbrev rInsert : V → List V → Hp → VK → Prop := fun x vs H Q => ∃ (l : Addr) (xs : List V) (i : Int) (y : V), x = .ref l ∧ vs = [.int i, y] ∧ H l = some (.lst xs) ∧ xs.length < sizeLine ∧ 0 ≤ i ∧ i < 2 ^ 63 ∧
    Q .non (upd H l (.lst (xs.take i.toNat ++ [y] ++ xs.drop i.toNat)))
theorem vm_insert : VMu K rInsert insertM := by
  intro g H a ys xs zs ws vs h rs rx z e
  unfold insertM at e
  split at e
  · split at e
    · rename_i i x c
      cases e
      cases rx with
      | cons r1 rx => cases rx with
        | cons r rx =>
          cases rx
          cases r1
          refine ⟨_, ((rs.take i.toNat).append (.cons r .nil)).append (rs.drop i.toNat), ?_, fun Q q => ⟨a, ws, i, _, rfl, rfl, h, by rw [← rs.length, zl_eq]; exact c.1, c.2.1, c.2.2, q⟩⟩
          have := c.1
          rw [List.length_append, List.length_append, List.length_singleton, List.length_take, List.length_drop, zl_eq]
          omega
    · cases e
  · cases e
theorem vm_extend : VMu K rExtend extendM := by
  intro g H a ys xs zs ws vs h rs rx z e
  unfold extendM at e
  split at e
  · split at e
    · rename_i x c
      cases e
      cases rx with
      | cons r rx =>
        cases rx
        cases r with
        | @lst b v1 _ f1 h1 z1 q1 =>
          exact ⟨_, rs.append q1, by rw [List.length_append, zl_eq]; exact c, fun Q q => ⟨a, b, ws, v1, rfl, rfl, h, h1, by rw [← rs.length, ← q1.length, zl_eq]; exact c, q⟩⟩
    · cases e
  · cases e
theorem rd_mut {W : WX} {i : Nat} {op : List MV → List MV → Option (List MV)} {fs : OM} {r : V → List V → Hp → VK → Prop} (hv : VMu K r op) (D : Ends) (σ : L2.St) (H : Hp) (h : rdS K W (mutS i op fs) D σ H) :
    tBM K "list" r (tVar i) (rdA K W fs) σ H fun _ H' => D.nx σ H' := by
  obtain ⟨B, g, hm, σm, s, p⟩ := h
  unfold mutS at p
  cases c : σm[i]? with
  | none => rw [c] at p; exact p.elim
  | some t =>
    cases t with
    | un => rw [c] at p; exact p.elim
    | val m => rw [c] at p; exact p.elim
    | own y0 =>
      rw [c] at p
      obtain ⟨a, vs, h1, z, h2, h3, nf, nl⟩ := s.en.own c
      refine ⟨_, h1, .inl ⟨rfl, vs, SqL.of h2⟩, g, σm, hm, s.rel, s.en, Post.toE (k := fun xs h => match σm[i]? with
        | some (.own ys) => (match op ys xs with
          | some zs => .nx (σm.set i (.own zs)) h
          | none => .no)
        | _ => .no) s _ rfl p fun xs g1 hm1 H1 e1 k vs1 rv => ?_⟩
      simp only [c] at k
      have s1 := s.ext e1
      obtain ⟨a', vs', h1', z', h2', h3', nf', nl'⟩ := s1.en.own c
      rw [h1] at h1'
      cases h1'
      cases e : op y0 xs with
      | none => rw [e] at k; exact k.elim
      | some zs =>
        rw [e] at k
        obtain ⟨ws', q1, q2, q3⟩ := hv g1 H1 a y0 xs zs vs' vs1 h2' h3' rv z' e
        exact q3 _ (k g1 _ σ (s1.mut_own c h1 h2' nf' nl' q2 q1))
end
section
variable {K : Kf} {W : WX} {X : Cx} {e : Expr} {es : List Expr} {pos apos cpos p : Pos} {x : Str} {i : Nat}
theorem ss_mut {name : Str} {id : String} {op : List MV → List MV → Option (List MV)} {fs : OM} {r : V → List V → Hp → VK → Prop} (slot : Slot "list" name id) (hty : typeOf (.builtin id) = pure (.type "method_descriptor")) (hmt : MtR X id r) (hv : VMu X.K r op)
    (hN : PE X (.Name x p) (tVar i)) (ha : PA X (e :: es) (rdA X.K W fs))
    (hs2 : swapsWith (.Call (.Attribute (.Name x p) name apos) (e :: es) [] cpos) none pos.line X.env = pure false := by rfl)
    (hbase : attributeBase (.Name x p) name X.env (eval (.Name x p) X.env) = eval (.Name x p) X.env := by rfl)
    (hfew : ((backTo cpos (starEach (e :: es) X.env)).all (fun x => !x.1) && (backToKw cpos (keywordEach [] X.env)).all (fun x => x.1.isSome)
      && decide ((e :: es).length + ([] : List Keyword).length + (if ([] : List Keyword).isEmpty then 0 else 1) < 30)) = true := by rfl)
    (hline : (apos.endLine == cpos.line) = true := by rfl) (hs : starEach (e :: es) X.env = (false, eval e X.env) :: starEach es X.env := by rfl) (hplain : (backTo cpos (starEach es X.env)).any (·.1) = false := by rfl) :
    PS X (.Expr (.Call (.Attribute (.Name x p) name apos) (e :: es) [] cpos) pos) (rdS X.K W (mutS i op fs)) :=
  imp_s (ps_expr (pe_bm PySem.F.plainAttrs_list slot hty hmt hN ha hbase hfew hline hs hplain) hs2) (rd_mut hv)
end

/-! ### objects of the small heap -/
def MH.put (h : MH) (n : Nat) (o : MO) : MH := { h with get := fun k => if k = n then some o else h.get k }
def MH.push (h : MH) (o : MO) : MH := { nx := h.nx + 1, get := fun k => if k = h.nx then some o else h.get k }
def Gh.push (g : Gh) (a : Addr) : Gh := { g with N := g.N + 1, ρ := fun k => if k = g.N then a else g.ρ k }
section
variable {K : Kf} {g g' : Gh} {hm hm' : MH} {H H' : Hp} {a : Addr}
theorem Ext.put (rl : Rel K g hm H) {n : Nat} {o : MO} {vs ws : List V} {ys : List MV} (c : hm.get n = some o) (h : H (g.ρ n) = some (.lst vs)) (rs : RVs K g H ys ws) (z : ys.length ≤ sizeLine) : Ext K g hm H g (hm.put n (.lst ys)) (upd H (g.ρ n) (.lst ws)) := by
  have hn : hm.get n ≠ none := by rw [c]; exact fun z => nomatch z
  have old : ∀ k, (hm.put n (.lst ys)).get k ≠ none → hm.get k ≠ none := fun k q => by
    by_cases e : k = n
    · rw [e]; exact hn
    · have q : (if k = n then some (MO.lst ys) else hm.get k) ≠ none := q
      rw [if_neg e] at q
      exact q
  have nf := rl.nf n hn
  have u : Up g H g (upd H (g.ρ n) (.lst ws)) := Up.wr nf
  have rel : Rel K g (hm.put n (.lst ys)) (upd H (g.ρ n) (.lst ws)) := by
    refine ⟨rl.nx, fun k q => rl.lt k (old k q), fun k m q1 q2 => rl.inj k m (old k q1) (old m q2), fun k q => rl.nf k (old k q), fun k o' q => ?_, fun b f => ?_⟩
    · have q : (if k = n then some (MO.lst ys) else hm.get k) = some o' := q
      by_cases e : k = n
      · rw [if_pos e] at q
        cases q
        subst e
        exact ⟨z, ws, upd_same, rs.up u⟩
      · rw [if_neg e] at q
        refine RO.up u (fun w q2 => ?_) (rl.ob k o' q)
        rw [upd_ne (fun z => e (rl.inj k n (by rw [q]; exact fun z => nomatch z) hn z))]
        exact q2
    · rw [upd_ne (fun z => nf (by rw [← z]; exact f))]
      exact rl.fs b f
  refine ⟨Nat.le_refl _, fun _ _ => rfl, fun _ f => f, fun _ f => .inl f, fun b w q l => ?_, fun b q => ?_, fun k h1 h2 => absurd (Nat.lt_of_lt_of_le h2 h1) (Nat.lt_irrefl _), fun k _ q => old k q, rel⟩
  · rw [upd_ne (fun z => l ⟨n, hn, z.symm⟩)]; exact q
  · by_cases c2 : b = g.ρ n
    · rw [c2, upd_same]; intro z; cases z
    · rw [upd_ne c2]; exact q
/-- a new list becomes an object of the small heap -/
theorem Ext.push (rl : Rel K g hm H) (e : Ext K g hm H g' hm' H') {vs : List V} {xs : List MV} (h0 : H a = none) (h1 : H' a = some (.lst vs)) (z : xs.length ≤ sizeLine) (rs : RVs K g' H' xs vs) (nf : ¬ g'.F a) (nl : ¬ Live g' hm' a) :
    Ext K g hm H (g'.push a) (hm'.push (.lst xs)) H' ∧ RV K (g'.push a) H' (.ref hm'.nx) (.ref a) := by
  have nx := e.rel.nx
  have ne : hm'.get hm'.nx = none := by
    cases c : hm'.get hm'.nx with
    | none => rfl
    | some o => exact absurd (e.rel.lt _ (by rw [c]; exact fun z => nomatch z)) (Nat.lt_irrefl _)
  have rho : ∀ k, k < g'.N → (g'.push a).ρ k = g'.ρ k := fun k hk => by
    show (if k = g'.N then a else g'.ρ k) = _
    rw [if_neg (by omega)]
  have rhoN : (g'.push a).ρ hm'.nx = a := by
    show (if hm'.nx = g'.N then a else g'.ρ hm'.nx) = _
    rw [if_pos nx.symm]
  have u : Up g' H' (g'.push a) H' := ⟨Nat.le_succ _, rho, fun _ f => f, fun _ _ _ q => q⟩
  have gt : ∀ k o, (hm'.push (.lst xs)).get k = some o → (k = hm'.nx ∧ o = .lst xs) ∨ (k ≠ hm'.nx ∧ hm'.get k = some o) := fun k o q => by
    have q : (if k = hm'.nx then some (MO.lst xs) else hm'.get k) = some o := q
    by_cases c : k = hm'.nx
    · rw [if_pos c] at q
      cases q
      exact .inl ⟨c, rfl⟩
    · rw [if_neg c] at q
      exact .inr ⟨c, q⟩
  have gn : ∀ k, (hm'.push (.lst xs)).get k ≠ none → (k = hm'.nx ∧ (g'.push a).ρ k = a) ∨ (k < g'.N ∧ hm'.get k ≠ none ∧ (g'.push a).ρ k = g'.ρ k) := fun k q => by
    cases c : (hm'.push (.lst xs)).get k with
    | none => exact absurd c q
    | some o =>
      rcases gt k o c with ⟨h1, _⟩ | ⟨h1, h2⟩
      · exact .inl ⟨h1, by rw [h1]; exact rhoN⟩
      · have hk : hm'.get k ≠ none := by rw [h2]; exact fun z => nomatch z
        have lt := e.rel.lt k hk
        rw [← nx] at lt
        exact .inr ⟨lt, hk, rho k lt⟩
  have rel : Rel K (g'.push a) (hm'.push (.lst xs)) H' := by
    refine ⟨by show g'.N + 1 = hm'.nx + 1; rw [nx], fun k q => ?_, fun k m q1 q2 eq => ?_, fun k q f => ?_, fun k o q => ?_, fun b f => e.rel.fs b f⟩
    · show k < hm'.nx + 1
      rcases gn k q with ⟨h, _⟩ | ⟨h, _⟩
      · omega
      · omega
    · rcases gn k q1 with ⟨e1, r1⟩ | ⟨l1, e1, r1⟩
      · rcases gn m q2 with ⟨e2, r2⟩ | ⟨l2, e2, r2⟩
        · rw [e1, e2]
        · rw [r1, r2] at eq
          exact absurd ⟨m, e2, eq.symm⟩ nl
      · rcases gn m q2 with ⟨e2, r2⟩ | ⟨l2, e2, r2⟩
        · rw [r1, r2] at eq
          exact absurd ⟨k, e1, eq⟩ nl
        · rw [r1, r2] at eq
          exact e.rel.inj k m e1 e2 eq
    · rcases gn k q with ⟨e1, r1⟩ | ⟨l1, e1, r1⟩
      · rw [r1] at f
        exact nf f
      · rw [r1] at f
        exact e.rel.nf k e1 f
    · rcases gt k o q with ⟨e1, rfl⟩ | ⟨e1, e2⟩
      · rw [e1, rhoN]
        exact ⟨z, vs, h1, rs.up u⟩
      · have hk : hm'.get k ≠ none := by rw [e2]; exact fun z => nomatch z
        have lt := e.rel.lt k hk
        rw [← nx] at lt
        rw [rho k lt]
        exact RO.up u (fun _ q => q) (e.rel.ob k o e2)
  refine ⟨⟨Nat.le_trans e.n (Nat.le_succ _), fun k hk => (rho k (Nat.lt_of_lt_of_le hk e.n)).trans (e.rho k hk), e.f1, e.f2, e.keep, e.stay, fun k h1 h2 => ?_, fun k hk q => ?_, rel⟩, ?_⟩
  · by_cases c : k < g'.N
    · rw [rho k c]; exact e.fresh k h1 c
    · have ek : k = hm'.nx := by
        have h2 : k < g'.N + 1 := h2
        omega
      rw [ek, rhoN]; exact h0
  · rcases gn k q with ⟨e1, _⟩ | ⟨_, e1, _⟩
    · have := e.n
      omega
    · exact e.live k hk e1
  · have z : RV K (g'.push a) H' (.ref hm'.nx) (.ref ((g'.push a).ρ hm'.nx)) := .ref _ (by show hm'.nx < g'.N + 1; omega)
    rw [rhoN] at z
    exact z
end
/-- a new list, as an object that may change -/
def newE (f : OM) : EM := bindE f fun xs _ h => .ok (.ref h.nx) (h.push (.lst xs))
section
variable {K : Kf} {W : WX} {X : Cx} {e o ie : Expr} {pos p tpos : Pos}
theorem se_new {f : OM} (h : PE X e (rdO X.K W f)) : PE X e (rdE X.K W (newE f)) := imp_e h fun σ H Q q => by
  obtain ⟨g, σm, hm, r, R, p⟩ := q
  refine ⟨g, σm, hm, r, R, ?_⟩
  unfold newE bindE at p
  cases c : f σm hm with
  | ok xs h' =>
    rw [c] at p
    intro g' H' e a vs h0 h1 z rv nf nl
    obtain ⟨e2, rv2⟩ := Ext.push r e h0 h1 z rv nf nl
    exact p _ H' e2 _ rv2
  | ex c m h' =>
    rw [c] at p
    exact p
  | no =>
    rw [c] at p
    exact p
/-- o[i] = e, o an object of the small heap -/
def setIxS (fe fo fi : EM) : SM := bindS (bindE fe fun v => bindE fo fun x => bindE fi fun y => fun _ h => match x, y with
  | .ref n, .int k => (match h.get n with
    | some (.lst xs) => (match ixN xs.length k with
      | some j => .ok () (h.put n (.lst (xs.set j v)))
      | none => .no)
    | _ => .no)
  | _, _ => .no) fun _ σ h => .nx σ h
theorem rd_setIx {fe fo fi : EM} (D : Ends) (σ : L2.St) (H : Hp) (h : rdS K W (setIxS fe fo fi) D σ H) : tAsg (rdE K W fe) (gSub (rdE K W fo) (rdE K W fi) rSetL) D σ H := by
  obtain ⟨B, g, hm, σm, s, p⟩ := h
  have p := Post.toE (W := W) (P := fun (_ : Unit) g' hm' H' => D.nx σ H') (k := fun _ h => .nx σm h) s _ rfl p fun _ g' hm' H' e k => k g' H' σ (s.ext e)
  refine ⟨g, σm, hm, s.rel, s.en, (Post.bind s.rel p).mono fun v g1 hm1 H1 e1 p1 vv rv => ?_⟩
  refine ⟨g1, σm, hm1, e1.rel, s.en.ext s.rel e1, (Post.bind e1.rel p1).mono fun x g2 hm2 H2 e2 p2 vx rx => ?_⟩
  refine ⟨g2, σm, hm2, e2.rel, (s.en.ext s.rel e1).ext e1.rel e2, (Post.bind e2.rel p2).mono fun y g3 hm3 H3 e3 p3 vy ry => ?_⟩
  have rv := (rv.up (e2.up e1.rel)).up (e3.up e2.rel)
  have rx := rx.up (e3.up e2.rel)
  cases x with
  | ref n =>
    cases y with
    | int k =>
      have p3 : Post K W g3 hm3 σ H3 (match hm3.get n with
        | some (.lst xs) => (match ixN xs.length k with
          | some j => .ok () (hm3.put n (.lst (xs.set j v)))
          | none => .no)
        | _ => .no) fun _ g' hm' H' => D.nx σ H' := p3
      cases c : hm3.get n with
      | none => simp only [c] at p3; exact p3.elim
      | some o =>
        cases o with
        | lst xs =>
          simp only [c] at p3
          cases c2 : ixN xs.length k with
          | none => simp only [c2] at p3; exact p3.elim
          | some j =>
            simp only [c2] at p3
            obtain ⟨z, vs, h1, rs⟩ := e3.rel.ob n _ c
            cases rx
            cases ry
            refine ⟨_, vs, k, j, rfl, rfl, h1, by rw [← rs.length]; exact c2, ?_⟩
            exact p3 g3 _ (Ext.put e3.rel c h1 (rs.set rv j) (by rw [List.length_set]; exact z))
        | dic _ => simp only [c] at p3; exact p3.elim
        | dit _ => simp only [c] at p3; exact p3.elim
        | cel _ => simp only [c] at p3; exact p3.elim
        | ins _ _ => simp only [c] at p3; exact p3.elim
    | _ => exact False.elim p3
  | _ => exact False.elim p3
theorem ss_setIx {fe fo fi : EM} (he : PE X e (rdE X.K W fe)) (ho : PE X o (rdE X.K W fo)) (hi : PE X ie (rdE X.K W fi))
    (ha : ∀ v, assign (.Subscript o ie tpos) X.env v = (do
      let ov ← holding [v] (eval o X.env)
      let iv ← holding [v, ov] (eval ie X.env)
      standAt tpos
      holding [v, ov, iv] (setItem ov iv v)
      release [v, ov, iv] []) := by intro _; rfl)
    (hs : swapsWithSole [.Subscript o ie tpos] e pos.line X.env = pure false := by rfl) (hw : swappedStores [.Subscript o ie tpos] e X.env = pure none := by rfl)
    (h1 : (assignEach [.Subscript o ie tpos] X.env).map (·.2) = [assign (.Subscript o ie tpos) X.env] := by rfl) : PS X (.Assign [.Subscript o ie tpos] e pos) (rdS X.K W (setIxS fe fo fi)) :=
  imp_s (ps_asg he (pg_sub ho hi set_list ha) hs hw h1) rd_setIx
end
end Mi
end P_M11
section P_M12
set_option Elab.async false
set_option linter.all false
set_option maxRecDepth 100000
set_option maxHeartbeats 4000000
/-! M12: the context of a def's text: names by checks; the module's facts; a def by its body -/
namespace Mi
open PySem PySem.Spec PyProof.Rows L2

/-! ### the context -/
structure Cn (X : Cx) (P : Program) (w : World) (K : Kf) (mg : Str → Option Value) (base : Heap) (N : List Str) (sc : Scope) (own : Str → Bool) (k : Nat) : Prop where
  ep : X.prog = P
  ew : X.w = w
  eK : X.K = K
  em : X.mg = mg
  eb : X.base = base
  eN : X.N = N
  es : X.env.scope = sc
  calm : X.calm = true
  fn : ∀ x, own x = true → X.fn x = true
  room : Room k X.A
  nd : N.Nodup
structure NmV (X : Cx) (x : Str) (i : Nat) : Prop where
  ix : X.N[i]? = some x
  vis : Vis X.env.scope x
  d1 : (x == ("__debug__" : Str)) = false
  d2 : (x == ("__classdict__" : Str)) = false
structure NmG (X : Cx) (x : Str) : Prop where
  gl : Gl X x
  db : (x == ("__debug__" : Str)) = false
structure NmA (X : Cx) (x : Str) (i : Nat) : Prop where
  nd : X.N.Nodup
  ix : X.N[i]? = some x
  loc : Loc X.env.scope x
  fn : X.fn x = true ∨ X.env.scope.names.lookup x = some .local
def chkV (N : List Str) (sc : Scope) (x : Str) (i : Nat) : Bool := decide (N[i]? = some x) && (decide (sc.names.lookup x = some .local) || (decide (sc.names.lookup x = some .cell) || decide (sc.names.lookup x = some .free))) && !(x == ("__debug__" : Str)) && !(x == ("__classdict__" : Str))
def chkG (sc : Scope) (x : Str) : Bool := decide (sc.names.lookup x = some .globalImplicit) && !(x == ("__debug__" : Str))
def chkA (N : List Str) (sc : Scope) (own : Str → Bool) (x : Str) (i : Nat) : Bool := decide (N[i]? = some x) && (decide (sc.names.lookup x = some .local) || (decide (sc.names.lookup x = some .cell) && own x))
def chkB (sc : Scope) (x : Str) : Bool := chkG sc x && !decide (x = ("__name__" : Str))
section
variable {X : Cx} {P : Program} {w : World} {K : Kf} {mg : Str → Option Value} {base : Heap} {N : List Str} {sc : Scope} {own : Str → Bool} {k i : Nat} {x : Str}
theorem Cn.v (J : Cn X P w K mg base N sc own k) (h : chkV N sc x i = true) : NmV X x i := by
  unfold chkV at h
  simp only [Bool.and_eq_true, Bool.or_eq_true, decide_eq_true_eq, Bool.not_eq_true'] at h
  obtain ⟨⟨⟨h1, h2⟩, h3⟩, h4⟩ := h
  refine ⟨by rw [J.eN]; exact h1, ?_, h3, h4⟩
  unfold Vis
  rw [J.es]
  exact h2
theorem Cn.g (J : Cn X P w K mg base N sc own k) (h : chkG sc x = true) : NmG X x := by
  unfold chkG at h
  simp only [Bool.and_eq_true, decide_eq_true_eq, Bool.not_eq_true'] at h
  refine ⟨?_, h.2⟩
  show X.env.scope.names.lookup x = _
  rw [J.es]
  exact h.1
theorem Cn.a (J : Cn X P w K mg base N sc own k) (h : chkA N sc own x i = true) : NmA X x i := by
  unfold chkA at h
  simp only [Bool.and_eq_true, Bool.or_eq_true, decide_eq_true_eq] at h
  obtain ⟨h1, h2⟩ := h
  refine ⟨by rw [J.eN]; exact J.nd, by rw [J.eN]; exact h1, ?_, ?_⟩
  · unfold L2.Loc
    rw [J.es]
    rcases h2 with h | h
    · exact .inl h
    · exact .inr h.1
  · rw [J.es]
    rcases h2 with h | h
    · exact .inr h
    · exact .inl (J.fn x h.2)
theorem Cn.b {u : Value} (J : Cn X P w K mg base N sc own k) (hm : mg x = none) (hb : bootBuiltins x = some u) (h : chkB sc x = true) : NmB X x u := by
  unfold chkB at h
  simp only [Bool.and_eq_true, Bool.not_eq_true', decide_eq_false_iff_not] at h
  have g := J.g h.1
  exact ⟨g.gl, by rw [J.em]; exact hm, hb, h.2, g.db⟩
theorem Cn.f {id : String} (J : Cn X P w K mg base N sc own k) (hm : mg x = some (.builtin id)) (h : chkG sc x = true) : NmF X x id := ⟨(J.g h).gl, by rw [J.em]; exact hm, (J.g h).db⟩
theorem Cn.blk (J : Cn X P w K mg base N sc own k) (s : Shared) (H : Hp) (scope : Scope) (C : Addr) (cl : List (Str × Addr)) (fp : List Addr) :
    Cn (X.blk s H scope (compEnvC scope cl C X.env) fp) P w K mg base N (relS scope sc) (fun x => scope.names.lookup x == some .cell) k where
  ep := J.ep
  ew := J.ew
  eK := J.eK
  em := J.em
  eb := J.eb
  eN := J.eN
  es := by rw [← J.es] <;> rfl
  calm := J.calm
  fn := fun x hx => hx
  room := J.room
  nd := J.nd
theorem Cn.nodup (J : Cn X P w K mg base N sc own k) : X.N.Nodup := by rw [J.eN]; exact J.nd
theorem Cn.units (J : Cn X P w K mg base N sc own k) : X.A.units + 65 < cLine := by have := J.room.un; omega
theorem Cn.blkOk {scope : Scope} {vs : List (Str × Nat)} (J : Cn X P w K mg base N sc own k) (h : blkC N sc scope vs = true) : BlkOk X.N X.env.scope scope vs := by
  rw [J.eN, J.es]
  exact blkOk_by h
theorem Cn.fns {j n : Nat} {dms : List MV} {F : List MV → MH → Res MV} (J : Cn X P w K mg base N sc own k) (G : FnS P w K mg base j x n dms F) : FnS X.prog X.w X.K X.mg X.base j x n dms F := by
  rw [J.ep, J.ew, J.eK, J.em, J.eb]
  exact G
theorem takes_no : Takes X WNo := fun u s' ⟨_, _, _, _, _, _, _, _, _, _, _, _, _, _, _, _, z⟩ => z.elim
end
section
variable {X : Cx} {P : Program} {w : World} {K : Kf} {mg : Str → Option Value} {base : Heap} {N : List Str} {sc : Scope} {own : Str → Bool} {k i : Nat} {x : Str} {W : WX} {pos p : Pos} {e : Expr} {es : List Expr}
/-! ### the rules that ask for names -/
theorem NmV.var (n : NmV X x i) : PE X (.Name x pos) (rdE X.K W (varE i)) := imp_e (pe_var n.ix n.vis n.d1 n.d2) rd_var
theorem NmV.peek (n : NmV X x i) : PE X (.Name x pos) (rdP X.K W (peekE i)) := imp_e (pe_var n.ix n.vis n.d1 n.d2) rd_peek
theorem NmV.raw (n : NmV X x i) : PE X (.Name x pos) (tVar i) := pe_var n.ix n.vis n.d1 n.d2
theorem NmA.tg (n : NmA X x i) : PG X (.Name x pos) (rdG X.K (nameT i) [i]) := sg_name n.nd n.ix n.loc n.fn
theorem NmA.set {f : EM} {pos' : Pos} (n : NmA X x i) (he : PE X e (rdE X.K W f)) (hs : swapsWith e (some (.Name x pos')) pos.line X.env = pure false := by rfl) : PS X (.Assign [.Name x pos'] e pos) (rdS X.K W (setS i f)) :=
  ss_set n.nd n.ix n.loc n.fn he hs
theorem NmA.setO {f : OM} {pos' : Pos} (n : NmA X x i) (he : PE X e (rdO X.K W f)) (hs : swapsWith e (some (.Name x pos')) pos.line X.env = pure false := by rfl) : PS X (.Assign [.Name x pos'] e pos) (rdS X.K W (ownS i f)) :=
  ss_own n.nd n.ix n.loc n.fn he hs
theorem Cn.call {j n : Nat} {dms : List MV} {F : List MV → MH → Res MV} {fs : OM} (J : Cn X P w K mg base N sc own k) (tk : Takes X W) (G : FnS P w K mg base j x n dms F) (hj : j ≤ k) (g : NmG X x) (ha : PA X (e :: es) (rdA X.K W fs))
    (he : starEach (e :: es) X.env = (false, eval e X.env) :: starEach es X.env := by rfl) (hpl : (backTo pos (starEach es X.env)).any (·.1) = false := by rfl) :
    PE X (.Call (.Name x p) (e :: es) [] pos) (rdE X.K W (callE (callN n F) dms fs)) := se_call (J.fns G) (J.room.mono hj) tk g.gl g.db ha he hpl
theorem Cn.call0 {j n : Nat} {dms : List MV} {F : List MV → MH → Res MV} (J : Cn X P w K mg base N sc own k) (tk : Takes X W) (G : FnS P w K mg base j x n dms F) (hj : j ≤ k) (g : NmG X x) :
    PE X (.Call (.Name x p) [] [] pos) (rdE X.K W (callE (callN n F) dms nilA)) := se_call0 (J.fns G) (J.room.mono hj) tk g.gl g.db
end

/-! ### the module's facts -/
structure Md (fa : List He.Fa) (fn : List He.DefD) (ex : Kf → Bool) (K : Kf) (mg : Str → Option Value) : Prop where
  d : He.SaysD fa fn K
  e : ex K = true
  g : ∃ h : Heap, K.In h ∧ h.Ns mainGlobals mg
section
variable {fa : List He.Fa} {fn : List He.DefD} {ex : Kf → Bool} {K : Kf} {mg : Str → Option Value}
theorem Md.glo (M : Md fa fn ex K mg) (i : Nat) {x : Str} (h : fa[i]? = some (.glo x) := by rfl) : mg x = some (.ref (He.ga K x)) :=
  let ⟨_, hK, hG⟩ := M.g
  He.glo_ok hK hG (M.d.fact i h)
theorem Md.free (M : Md fa fn ex K mg) (i : Nat) {x : Str} (h : fa[i]? = some (.free x) := by rfl) : mg x = none :=
  let ⟨_, hK, hG⟩ := M.g
  He.free_ok hK hG (M.d.fact i h)
theorem Md.blt (M : Md fa fn ex K mg) {x : Str} {id : String} (h : bltB K x id = true) : mg x = some (.builtin id) :=
  let ⟨_, hK, hG⟩ := M.g
  PySem.W.mg_of hK hG (He.eqO_ok h)
/-- a def without defaults -/
theorem Md.bindN {x qual : Str} {params : Arguments} {body : List Stmt} {scope : Scope} {f : Addr} {fd : FuncData} {ps : List Str} (F : FunD K x qual params body scope [] [] f fd)
    (h : ∀ (kV doc pm : Value) (an : Option Addr) (cdv ct : Value) (us : List Value), us.length = ps.length → bindArgs (PySem.W.fnOf x qual params body scope .none kV doc pm an cdv ct) ⟨us, []⟩ = pure (ps.zip us)) : BindD K fd ps [] :=
  ⟨[], [], F.bindsN h, .nil, fun _ _ => .nil⟩
theorem Md.fn_ {P : Program} {w : World} {base : Heap} {d : He.DefD} {y : Str} {N ps : List Str} {k n : Nat} {dms : List MV} {b : SM} (M : Md fa fn ex K mg) (i : Nat) (hd : fn[i]? = some d) (hy : mg y = some (.ref (He.ga K y))) (hat : d.at_ = (y, none)) (S : FnScope N ps d.scope) (hn : ps.length = n)
    (hb : ∀ fd, FunD K d.name d.qual d.params d.body d.scope (d.dvs K) (d.kws K) (He.fAd K d.at_) fd → BindD K fd ps dms)
    (hbody : ∀ (X : Cx), Cn X P w K mg base N d.scope (fun _ => true) k → PassesOwn (model X.prog X.w) X.A X.env X.xe → ∀ W, Takes X W → PSs X d.body (rdS X.K W b)) :
    FnS P w K mg base (k + 1) y n dms (bodyF N.length n b) := by
  obtain ⟨fd, F⟩ := M.d.def_ i hd
  refine fn_def F S hn ?_ (hb fd F) N.length rfl fun X e1 e2 e3 e4 e5 e6 e7 e8 e9 e10 _ e12 W tk => hbody X ⟨e1, e2, e3, e4, e5, e6, e7, e8, fun x _ => e9 x, e10, S.nd⟩ e12 W tk
  have e : He.fAd K d.at_ = He.ga K y := by rw [hat] <;> rfl
  rw [hy, e]
/-- no code -/
theorem ss_none {X : Cx} {W : WX} {b : List Stmt} : PSs X b (rdS X.K W noS) := ⟨fun pins s σ H D I h => by
  obtain ⟨B, g, hm, σm, _, p⟩ := h
  exact p.elim⟩
end
end Mi
end P_M12
section P_M13
set_option Elab.async false
set_option linter.all false
set_option maxRecDepth 100000
set_option maxHeartbeats 4000000
/-! M13: list(zip(a, b)) -/
namespace Mi
open PySem PySem.Spec PyProof.Rows L2

theorem zipNoLen : typeLookup (.type "zip") "__len__" = pure none := by
  rw [typeLookup_type, builtinLookup_eq_fast]
  kernel_rfl
theorem zipNoHint : typeLookup (.type "zip") "__length_hint__" = pure none := by
  rw [typeLookup_type, builtinLookup_eq_fast]
  kernel_rfl
/-- a zip that is being walked by list(..): its cells; S: the list that is made -/
structure ZSt (z TI TO i1 i2 a b S : Addr) (i : Nat) (h : Heap) : Prop where
  hTI : IsPair h TI (.ref i1) (.ref i2)
  h1 : h.IsListIter i1 a i
  h2 : h.IsListIter i2 b i
  hTO : ∃ o, h.get? TO = some o
  hz : (IsZip h z TI TO .none ∧ ∃ x y, IsPair h TO x y) ∨ ∃ T f oT, IsZipHeld h z TI TO T f ∧ h.get? T = some oT ∧ T ≠ z ∧ T ≠ i1 ∧ T ≠ i2 ∧ T ≠ S
theorem ZSt.other {z TI TO i1 i2 a b S : Addr} {i : Nat} {h h' : Heap} (st : ZSt z TI TO i1 i2 a b S i h) (hS : S ∉ [z, TI, TO, i1, i2]) (k : ∀ c o, c ≠ S → h.get? c = some o → h'.get? c = some o) : ZSt z TI TO i1 i2 a b S i h' := by
  simp only [List.mem_cons, List.not_mem_nil, or_false, not_or] at hS
  obtain ⟨n1, n2, n3, n4, n5⟩ := hS
  refine ⟨k _ _ (Ne.symm n2) st.hTI, st.h1.at fun o e => k _ o (Ne.symm n4) e, st.h2.at fun o e => k _ o (Ne.symm n5) e, (let ⟨o, e⟩ := st.hTO; ⟨o, k _ _ (Ne.symm n3) e⟩), ?_⟩
  rcases st.hz with ⟨hz, x, y, hTO⟩ | ⟨T, f, oT, hz, hT, r1, r2, r3, r4⟩
  · exact .inl ⟨k _ _ (Ne.symm n1) hz, x, y, k _ _ (Ne.symm n3) hTO⟩
  · exact .inr ⟨T, f, oT, k _ _ (Ne.symm n1) hz, k _ _ r4 hT, r1, r2, r3, r4⟩
section
variable {X : Cx} {pins : List (Addr × Obj)} {σ : L2.St} {A : Around}
theorem fpLay {H : Hp} {b T : Addr} {o : HO} (f : FpOk X pins H b) (h : b ≠ T) : FpOk X pins (upd H T o) b := ⟨by rw [upd_ne h]; exact f.1, f.2⟩
theorem zip_step {z TI TO i1 i2 a b S : Addr} {i : Nat} {s : Shared} {H : Hp} {xs ys : List V} {x y : V} {E : Value → Shared → Prop} {Q : Option Value → Shared → Prop} (D : ZipApart z TI TO i1 i2 a b) (I : Inv X pins σ H s) (st : ZSt z TI TO i1 i2 a b S i s.heap)
    (hf : ∀ c ∈ [z, TI, TO, i1, i2], FpOk X pins H c) (qx : SqL X.K H a xs) (qy : SqL X.K H b ys) (hx : xs[i]? = some x) (hy : ys[i]? = some y) (hS : S < s.heap.objs.size)
    (k : ∀ (T : Addr) (s' : Shared), s.heap.objs.size ≤ T → Inv X pins σ (upd H T (.tup [x, y])) s' → ZSt z TI TO i1 i2 a b S (i + 1) s'.heap → (∀ c ∈ [z, TI, TO, i1, i2], FpOk X pins (upd H T (.tup [x, y])) c) → S < s'.heap.objs.size → Q (some (.ref T)) s') :
    wpAny (model X.prog X.w) A (pyNext (.ref z)) Q E s := by
  obtain ⟨its, rv, p, _⟩ := I.list qx
  obtain ⟨its2, rv2, p2, _⟩ := I.list qy
  obtain ⟨u, hu, ru⟩ := rv.get hx
  obtain ⟨u2, hu2, ru2⟩ := rv2.get hy
  have lt : ∀ {c o}, s.heap.get? c = some o → s.heap.objs.size ≠ c := fun e => Nat.ne_of_gt (Heap.lt_size e)
  have n1 : s.heap.objs.size ≠ i1 := let ⟨_, e, _⟩ := st.h1; lt e
  have n2 : s.heap.objs.size ≠ i2 := let ⟨_, e, _⟩ := st.h2; lt e
  have nI : s.heap.objs.size ≠ TI := lt st.hTI
  have nz : s.heap.objs.size ≠ z := by
    rcases st.hz with ⟨hz, _⟩ | ⟨_, _, _, hz, _⟩
    · exact lt hz
    · exact lt hz
  have fin : ∀ (h' : Heap), IsPair h' s.heap.objs.size u u2 → h'.objs.size = s.heap.objs.size + 1 → (∀ c o, c ≠ z → c ≠ TO → c ≠ i1 → c ≠ i2 → s.heap.get? c = some o → h'.get? c = some o) → ZSt z TI TO i1 i2 a b S (i + 1) h' →
      (∀ c ∈ [z, TI, TO, i1, i2], c ≠ s.heap.objs.size) → Q (some (.ref s.heap.objs.size)) { s with heap := h' } := fun h' hT hsz hk st' hne => by
    have new : ObjOk X.prog X.w (upd H s.heap.objs.size (.tup [x, y])) h' s.heap.objs.size (.tup [x, y]) := ⟨by show 2 ≤ sizeLine; decide, [u, u2], .cons ru (.cons ru2 .nil), ⟨_, hT, rfl, _, rfl⟩⟩
    have I1 : Inv X pins σ (upd H s.heap.objs.size (.tup [x, y])) { s with heap := h' } :=
      I.turnedNew (t' := s.toks) (ch := [z, TI, TO, i1, i2]) (fun c o hb q => hk c o (fun e => hb (by simp [e])) (fun e => hb (by simp [e])) (fun e => hb (by simp [e])) (fun e => hb (by simp [e])) q) hf (Nat.le_refl _) new
    exact k _ _ (Nat.le_refl _) I1 st' (fun c hc => fpLay (hf c hc) (hne c hc)) (by show S < h'.objs.size; rw [hsz]; exact Nat.lt_succ_of_lt hS)
  have nS : s.heap.objs.size ≠ S := Nat.ne_of_gt hS
  have nO : s.heap.objs.size ≠ TO := let ⟨_, e⟩ := st.hTO; lt e
  have ne : ∀ c ∈ [z, TI, TO, i1, i2], c ≠ s.heap.objs.size := fun c hc => by
    simp only [List.mem_cons, List.not_mem_nil, or_false] at hc
    rcases hc with rfl | rfl | rfl | rfl | rfl
    · exact Ne.symm nz
    · exact Ne.symm nI
    · exact Ne.symm nO
    · exact Ne.symm n1
    · exact Ne.symm n2
  rcases st.hz with ⟨hz, x0, y0, hTO⟩ | ⟨T, f, oT, hz, hT, r1, r2, r3, r4⟩
  · refine wpAny_pyNext_zip_item D hz st.hTI hTO st.h1 st.h2 p.isList p2.isList (x := u) (y := u2) (by simpa using hu) (by simpa using hu2) fun h' a1 a2 a3 a4 a5 a6 hk => ?_
    exact fin h' a5 a6 hk ⟨hk _ _ D.TIz D.TITO D.TIi1 D.TIi2 st.hTI, a3, a4, ⟨_, a2⟩, .inr ⟨_, false, _, a1, a5, nz, n1, n2, nS⟩⟩ ne
  · refine wpAny_pyNext_zip_item_held D hz hT st.hTI st.h1 st.h2 p.isList p2.isList (x := u) (y := u2) (by simpa using hu) (by simpa using hu2) fun h' a1 a3 a4 a5 a6 hk => ?_
    exact fin h' a5 a6 (fun c o c1 _ c3 c4 e => hk c o c1 c3 c4 e) ⟨hk _ _ D.TIz D.TIi1 D.TIi2 st.hTI, a3, a4, (let ⟨o, e⟩ := st.hTO; ⟨o, hk _ _ D.TOz D.TOi1 D.TOi2 e⟩), .inr ⟨T, true, oT, a1, hk _ _ r1 r2 r3 hT, r1, r2, r3, r4⟩⟩ ne
theorem zip_stop {z TI TO i1 i2 a b S : Addr} {i : Nat} {s : Shared} {H : Hp} {xs ys : List V} {E : Value → Shared → Prop} {Q : Option Value → Shared → Prop} (hh : A.handled = none) (D : ZipApart z TI TO i1 i2 a b) (I : Inv X pins σ H s) (st : ZSt z TI TO i1 i2 a b S i s.heap)
    (hf : ∀ c ∈ [z, TI, TO, i1, i2], FpOk X pins H c) (qx : SqL X.K H a xs) (qy : SqL X.K H b ys) (he : xs.length ≤ i ∨ ys.length ≤ i) (k : ∀ s' : Shared, Inv X pins σ H s' → Q none s') : wpAny (model X.prog X.w) A (pyNext (.ref z)) Q E s := by
  obtain ⟨its, rv, p, _⟩ := I.list qx
  obtain ⟨its2, rv2, p2, _⟩ := I.list qy
  have l1 := rv.length
  have l2 := rv2.length
  have he : its.toArray[i]? = none ∨ its2.toArray[i]? = none := by
    rcases he with q | q
    · exact .inl (by simp; omega)
    · exact .inr (by simp; omega)
  have fin : ∀ h' : Heap, (∀ c o, c ≠ z → c ≠ TO → c ≠ i1 → c ≠ i2 → s.heap.get? c = some o → h'.get? c = some o) → Q none { s with heap := h' } := fun h' hk =>
    k _ (I.turnedL (t' := s.toks) (ch := [z, TI, TO, i1, i2]) (fun c o hb q => hk c o (fun e => hb (by simp [e])) (fun e => hb (by simp [e])) (fun e => hb (by simp [e])) (fun e => hb (by simp [e])) q) hf)
  rcases st.hz with ⟨hz, x0, y0, hTO⟩ | ⟨T, f, oT, hz, hT, r1, r2, r3, r4⟩
  · exact wpAny_pyNext_zip_end hh D hz st.hTI hTO st.h1 st.h2 p.isList p2.isList he fin
  · exact wpAny_pyNext_zip_end_held hh D hz hT st.hTI st.h1 st.h2 p.isList p2.isList he fun h' hk => fin h' fun c o c1 _ c3 c4 e => hk c o c1 c3 c4 e
/-- the list's own part of the state -/
structure ZLs (X : Cx) (pins : List (Addr × Obj)) (σ : L2.St) (z TI TO i1 i2 a b S : Addr) (g1 : Gh) (hm : MH) (H1 : Hp) (pre : List MV) (i : Nat) (H : Hp) (s : Shared) : Prop where
  I : Inv X pins σ H s
  st : ZSt z TI TO i1 i2 a b S i s.heap
  hf : ∀ c ∈ [z, TI, TO, i1, i2], FpOk X pins H c
  lt : S < s.heap.objs.size
  kp : ∀ c o, H1 c = some o → H c = some o
  m : ∃ g ws, Ext X.K g1 hm H1 g hm H ∧ H S = some (.lst ws) ∧ RVs X.K g H pre ws ∧ ¬ g.F S ∧ ¬ Live g hm S
theorem sqL_kp {K : Kf} {H H' : Hp} {a : Addr} {xs : List V} (q : SqL K H a xs) (k : ∀ c o, H c = some o → H' c = some o) : SqL K H' a xs := by
  rcases q with (q | ⟨o, q⟩) | q
  · exact .inl (.inl (k _ _ q))
  · exact .inl (.inr ⟨o, k _ _ q⟩)
  · exact .inr q
/-- one item -/
theorem zip_turn {z TI TO i1 i2 a b S : Addr} {g1 : Gh} {hm : MH} {H1 : Hp} {xs ys : List MV} {vx vy : List V} {i : Nat} {H : Hp} {s : Shared} {E : Value → Shared → Prop} {Q : Option Value → Shared → Prop} (D : ZipApart z TI TO i1 i2 a b) (hS : S ∉ [z, TI, TO, i1, i2]) (h0 : H1 S = none)
    (rl : Rel X.K g1 hm H1) (qx : SqL X.K H1 a vx) (qy : SqL X.K H1 b vy) (rx : RVs X.K g1 H1 xs vx) (ry : RVs X.K g1 H1 ys vy) (Z : ZLs X pins σ z TI TO i1 i2 a b S g1 hm H1 ((zipL xs ys).take i) i H s) (hi : i < (zipL xs ys).length) (hz : (zipL xs ys).length ≤ zl)
    (k : ∀ (v : Value) (s2 : Shared), (∀ E' Q', (∀ H' s', ZLs X pins σ z TI TO i1 i2 a b S g1 hm H1 ((zipL xs ys).take (i + 1)) (i + 1) H' s' → Q' () s') → wpAny (model X.prog X.w) A (updateSeq S (·.push v)) Q' E' s2) → Q (some v) s2) :
    wpAny (model X.prog X.w) A (pyNext (.ref z)) Q E s := by
  have hg : (zipL xs ys)[i]? = some (zipL xs ys)[i] := List.getElem?_eq_getElem hi
  obtain ⟨m1, m2, e1, e2, e3⟩ := zipL_get hg
  obtain ⟨w1, t1, s1⟩ := rx.get e1
  obtain ⟨w2, t2, s2⟩ := ry.get e2
  obtain ⟨g, ws, ex, hl, rw_, nf, nl⟩ := Z.m
  refine zip_step D Z.I Z.st Z.hf (sqL_kp qx Z.kp) (sqL_kp qy Z.kp) t1 t2 Z.lt fun T s' hT I' st' hf' lt' => k _ _ fun E' Q' hQ => ?_
  have hTn : H T = none := Z.I.hok.fresh hT
  have ne : T ≠ S := fun e => absurd (show S < s.heap.objs.size from Z.lt) (Nat.not_lt.mpr (e ▸ hT))
  have hS1 : upd H T (.tup [w1, w2]) S = some (.lst ws) := by rw [upd_ne (Ne.symm ne)]; exact hl
  obtain ⟨z0, its, n, r, hlen, e⟩ := I'.lstM hS1
  have exT := Ext.fz (o := .tup [w1, w2]) ex.rel hTn
  have rT : RV X.K (g.fz T) (upd H T (.tup [w1, w2])) (.tup [m1, m2]) (.ref T) := .tup (.inr rfl) upd_same (by rw [zl_eq]; show 2 ≤ zl; decide) (.cons ((s1.up (ex.up rl)).up (exT.up ex.rel)) (.cons ((s2.up (ex.up rl)).up (exT.up ex.rel)) .nil))
  have nfT : ¬ (g.fz T).F S := fun f => (show g.F S ∨ S = T from f).elim nf fun e => ne e.symm
  have lw : ws.length = i := by
    rw [← rw_.length, List.length_take]
    omega
  have hlt : its.length + 1 ≤ sizeLine := by
    rw [zl_eq]
    omega
  have I2 := I'.lset (ys := ws ++ [.ref T]) (t' := s'.toks) (its' := its ++ [.ref T]) (f := fun q => q.push (.ref T)) hS1 e (by simp) (r.append (.cons (show RelV (.ref T) (.ref T) from rfl) .nil)) (by rw [List.length_append, List.length_singleton, zl_eq]; omega)
  refine wpAny_updateSeq e rfl (hQ _ _ ⟨I2, st'.other hS fun c o hc q => (Heap.get?_update_other _ _ (Ne.symm hc)).trans q, fun c hc => fpLay (hf' c hc) (fun q => hS (by rw [← q]; exact hc)), ?_, fun c o q => ?_, g.fz T, _, ?_, upd_same, ?_, ?_, ?_⟩) (by simp; omega) (by simp; omega)
  · show S < (s'.heap.update S _).objs.size
    rw [Heap.size_update]
    exact lt'
  · have nS : c ≠ S := fun z => by rw [z, h0] at q; cases q
    rw [upd_ne nS]
    have nT : c ≠ T := fun z => by
      have q2 := Z.kp c o q
      rw [z, hTn] at q2
      cases q2
    rw [upd_ne nT]
    exact Z.kp c o q
  · exact (ex.trans rl exT).wr h0 nfT nl
  · have et : (zipL xs ys).take (i + 1) = (zipL xs ys).take i ++ [.tup [m1, m2]] := by
      rw [List.take_add_one, hg, ← e3]
      rfl
    rw [et]
    exact (((rw_.up (exT.up ex.rel)).append (.cons rT .nil)).up (Up.wr nfT))
  · exact nfT
  · exact nl
/-- the loop of list(zip(..)) -/
theorem zip_loop {z TI TO i1 i2 a b S : Addr} {g1 : Gh} {hm : MH} {H1 : Hp} {xs ys : List MV} {vx vy : List V} {R : Result → Shared → Prop} {res : Value} (hh : A.handled = none) (D : ZipApart z TI TO i1 i2 a b) (hS : S ∉ [z, TI, TO, i1, i2]) (h0 : H1 S = none)
    (rl : Rel X.K g1 hm H1) (qx : SqL X.K H1 a vx) (qy : SqL X.K H1 b vy) (rx : RVs X.K g1 H1 xs vx) (ry : RVs X.K g1 H1 ys vy) (hz : (zipL xs ys).length ≤ zl)
    (k : ∀ H s g ws, Inv X pins σ H s → Ext X.K g1 hm H1 g hm H → H S = some (.lst ws) → RVs X.K g H (zipL xs ys) ws → ¬ g.F S → ¬ Live g hm S → R (.ok (.ret res)) s) :
    ∀ (n i : Nat) (H : Hp) (s : Shared), (zipL xs ys).length - i = n → i ≤ (zipL xs ys).length → ZLs X pins σ z TI TO i1 i2 a b S g1 hm H1 ((zipL xs ys).take i) i H s →
      codeAny (model X.prog X.w) A (.builtin "list.extend.loop" ⟨[.ref S, .ref z, res], []⟩) R s := by
  intro n
  induction n with
  | zero =>
    intro i H s hn hi Z
    have ei : i = (zipL xs ys).length := by omega
    refine codeAny_builtin F.entry_extend_loop ?_
    rw [Around.under_plainId F.plain_extend_loop _]
    show wpAny _ A.in1 (pyNext (.ref z) >>= _) _ _ s
    refine wpAny_bind (zip_stop (A := A.in1) hh D Z.I Z.st Z.hf (sqL_kp qx Z.kp) (sqL_kp qy Z.kp) ?_ fun s' I' => ?_)
    · rw [ei, zipL_length, ← rx.length, ← ry.length]
      omega
    · obtain ⟨g, ws, ex, hl, rw_, nf, nl⟩ := Z.m
      rw [ei, List.take_length] at rw_
      exact wpAny_pure (k H s' g ws I' ex hl rw_ nf nl)
  | succ n ih =>
    intro i H s hn hi Z
    refine codeAny_builtin F.entry_extend_loop ?_
    rw [Around.under_plainId F.plain_extend_loop _]
    show wpAny _ A.in1 (pyNext (.ref z) >>= _) _ _ s
    refine wpAny_bind (zip_turn D hS h0 rl qx qy rx ry Z (by omega) hz fun v s2 hu => ?_)
    show wpAny _ A.in1 (updateSeq S (·.push v) >>= _) _ _ _
    exact wpAny_bind (hu _ _ fun H' s' Z' => wpAny_pure ⟨plainId_quiet F.plain_extend_loop _, ih (i + 1) H' s' (by omega) (by omega) Z'⟩)
/-- list of a zip that has just been made -/
theorem call_list_zip {z TI TO i1 i2 a b : Addr} {g1 : Gh} {hm : MH} {H1 : Hp} {s : Shared} {xs ys : List MV} {vx vy : List V} {E : Value → Shared → Prop} {Q : Value → Shared → Prop} (hh : A.handled = none) (D : ZipApart z TI TO i1 i2 a b) (I : Inv X pins σ H1 s)
    (hf : ∀ c ∈ [z, TI, TO, i1, i2], FpOk X pins H1 c) (hlt : ∀ c ∈ [z, TI, TO, i1, i2], c < s.heap.objs.size) (hZ : IsZip s.heap z TI TO .none) (hTI : IsPair s.heap TI (.ref i1) (.ref i2)) (hTO : ∃ x y, IsPair s.heap TO x y) (h1 : s.heap.IsListIter i1 a 0) (h2 : s.heap.IsListIter i2 b 0)
    (rl : Rel X.K g1 hm H1) (qx : SqL X.K H1 a vx) (qy : SqL X.K H1 b vy) (rx : RVs X.K g1 H1 xs vx) (ry : RVs X.K g1 H1 ys vy) (hz : (zipL xs ys).length ≤ zl)
    (k : ∀ S H s g ws, Inv X pins σ H s → Ext X.K g1 hm H1 g hm H → H1 S = none → H S = some (.lst ws) → RVs X.K g H (zipL xs ys) ws → ¬ g.F S → ¬ Live g hm S → Q (.ref S) s) :
    wpAny (model X.prog X.w) A (call (.type "list") [.ref z]) Q E s := by
  have hSn : s.heap.objs.size ∉ [z, TI, TO, i1, i2] := fun hc => Nat.lt_irrefl _ (hlt _ hc)
  have h0 : H1 s.heap.objs.size = none := I.hok.fresh (Nat.le_refl _)
  refine callType_codes (Q₁ := fun obj s₁ => obj = .ref s.heap.objs.size ∧ s₁ = { s with heap := s.heap.push { cls := .type "list", data := .seq #[] } }) F.called_list (F.typeCall_list_1 _) F.entry_list_init (code_list_new _ ⟨rfl, rfl⟩) fun obj s₁ q₁ => ?_
  obtain ⟨rfl, rfl⟩ := q₁
  generalize hSe : s.heap.objs.size = S at *
  have hS1 : (s.heap.push { cls := .type "list", data := .seq #[] }).get? S = some { cls := .type "list", data := .seq #[] } := by rw [← hSe]; exact Heap.get?_push_size _ rfl
  refine ⟨⟨_, hS1, rfl⟩, F.args_list_init_2 _ _, ?_⟩
  show wpAny _ A.in1.in1 (do let old ← Builtin.List.listItems (.ref S); Builtin.List.listUpdate (.ref S) (fun _ => #[]); letGo old.toList.reverse; Builtin.List.listExtendWith (.ref S) (.ref z) .none) _ _ _
  refine wpAny_bind ?_
  unfold Builtin.List.listItems
  refine wpAny_bind (wpAny_seqItems hS1 rfl (wpAny_pure ?_))
  show wpAny _ A.in1.in1 (updateSeq S (fun _ => #[]) >>= fun _ => letGo (#[] : Array Value).toList.reverse >>= fun _ => Builtin.List.listExtendWith (.ref S) (.ref z) .none) _ _ _
  refine wpAny_bind (wpAny_updateSeq hS1 rfl ?_)
  have hS2 := Heap.get?_update_self (Obj.mapSeq (fun _ => (#[] : Array Value))) hS1 rfl
  refine wpAny_bind (wpAny_letGo ?_)
  have hSz : S ≠ z := fun e => hSn (by simp [e])
  have hTy : ∀ h' : Heap, h'.get? z = some { cls := .type "zip", dict := none, data := .fields #[.none, .bool false, .bool false, .ref TI, .ref TO], slots := #[] } → ({ s with heap := h' } : Shared).TypeIs (.ref z) "zip" := fun h' e => ⟨_, e, rfl⟩
  have oth : ∀ (f : Obj → Obj) (h' : Heap) (c : Addr) (o : Obj), c ≠ S → h'.get? c = some o → (h'.update S f).get? c = some o := fun f h' c o hc e => (Heap.get?_update_other _ _ (Ne.symm hc)).trans e
  have nS : ∀ c o, s.heap.get? c = some o → c ≠ S := fun c o e => by have := Heap.lt_size e; rw [hSe] at this; exact Nat.ne_of_lt this
  have k1 : ∀ c o, s.heap.get? c = some o → ((s.heap.push { cls := .type "list", data := .seq #[] }).update S (Obj.mapSeq fun _ => (#[] : Array Value))).get? c = some o := fun c o e => oth _ _ _ _ (nS c o e) (Heap.get?_push_of_some _ e)
  have hT1 := hTy _ (k1 _ _ hZ)
  unfold Builtin.List.listExtendWith
  refine wpAny_bind (wpAny_typeOf hT1 ?_)
  have b1 : Builtin.List.listSameRef (.ref S) (.ref z) = false := by simp [Builtin.List.listSameRef, hSz]
  have b2 : (Value.type "zip" == Value.type "list") = false := by decide
  have b3 : (Value.type "zip" == Value.type "tuple") = false := by decide
  simp only [b1, b2, b3, Bool.or_false, Bool.false_eq_true, if_false]
  refine wpAny_bind (wpAny_pyIter_zip (k1 _ _ hZ) ?_)
  refine wpAny_bind (wpAny_holding ?_)
  unfold Builtin.List.listLengthHint
  refine wpAny_bind (wpAny_specialOf hT1 zipNoLen ?_)
  show wpAny _ A.in1.in1 (specialOf (Value.ref z) (Str.ofString "__length_hint__") >>= _) _ _ _
  refine wpAny_bind (wpAny_specialOf hT1 zipNoHint ?_)
  refine wpAny_pure ?_
  show wpAny _ A.in1.in1 (rule "list.extend.makes-room" >>= fun _ => Builtin.List.listTouch (.ref S) >>= fun _ => again (.builtin "list.extend.loop" ⟨[.ref S, .ref z, .none], []⟩)) _ _ _
  refine wpAny_bind (wpAny_rule ?_)
  refine wpAny_bind ?_
  show wpAny _ A.in1.in1 (updateSeq S (·.push .none) >>= fun _ => updateSeq S (·.pop)) _ _ _
  refine wpAny_bind (wpAny_updateSeq hS2 rfl ?_)
  have hS3 := Heap.get?_update_self (Obj.mapSeq (·.push Value.none)) hS2 rfl
  refine wpAny_updateSeq (hz := by seq_fits) hS3 rfl ?_
  have hS4 := Heap.get?_update_self (Obj.mapSeq (·.pop)) hS3 rfl
  have k3 : ∀ c o, s.heap.get? c = some o → ((((s.heap.push { cls := .type "list", data := .seq #[] }).update S (Obj.mapSeq fun _ => (#[] : Array Value))).update S (Obj.mapSeq (·.push Value.none))).update S (Obj.mapSeq (·.pop))).get? c = some o := fun c o e =>
    oth _ _ _ _ (nS c o e) (oth _ _ _ _ (nS c o e) (k1 c o e))
  have hle : s.heap.objs.size ≤ S := Nat.le_of_eq hSe
  have I4 : Inv X pins σ (upd H1 S (.lst [])) { s with heap := (((s.heap.push { cls := .type "list", data := .seq #[] }).update S (Obj.mapSeq fun _ => (#[] : Array Value))).update S (Obj.mapSeq (·.push Value.none))).update S (Obj.mapSeq (·.pop)) } :=
    I.laid (a := S) (o := .lst []) (t' := s.toks) k3 hle ⟨by show 0 ≤ sizeLine; exact Nat.zero_le _, [], _, .nil, hS4⟩
  have ex0 := Ext.lay (o := .lst []) rl h0
  refine wpAny_pure ⟨plainId_quiet F.plain_extend_loop _, zip_loop (A := A.in1) (res := .none) (S := S) hh D hSn h0 rl qx qy rx ry hz (fun H s' g ws I' ex hl rw_ nf nl => ⟨rfl, k S H s' g ws I' ex h0 hl rw_ nf nl⟩) (zipL xs ys).length 0 (upd H1 S (.lst [])) _ rfl (Nat.zero_le _) ?_⟩
  refine ⟨I4, ⟨k3 _ _ hTI, h1.at fun o e => k3 _ o e, h2.at fun o e => k3 _ o e, (let ⟨_, _, e⟩ := hTO; ⟨_, k3 _ _ e⟩), .inl ⟨k3 _ _ hZ, (let ⟨x, y, e⟩ := hTO; ⟨x, y, k3 _ _ e⟩)⟩⟩, fun c hc => fpLay (hf c hc) fun e => hSn (by rw [← e]; exact hc), ?_, fun c o q => ?_, g1, [], ex0, upd_same, .nil, rl.new_nf h0, rl.new_nl h0⟩
  · show S < ((((s.heap.push { cls := .type "list", data := .seq #[] }).update S (Obj.mapSeq fun _ => (#[] : Array Value))).update S (Obj.mapSeq (·.push Value.none))).update S (Obj.mapSeq (·.pop))).objs.size
    rw [Heap.size_update, Heap.size_update, Heap.size_update, Heap.size_push, hSe]
    exact Nat.lt_succ_self _
  · rw [upd_ne (fun e => by rw [e, h0] at q; cases q)]
    exact q
/-- list(zip(a, b)) -/
def lzipO (fs : OM) : OM := bindE fs fun xs _ h => match xs with
  | [x, y] => (match seqM h x, seqM h y with
    | some xs, some ys => if (zipL xs ys).length ≤ zl then .ok (zipL xs ys) h else .no
    | _, _ => .no)
  | _ => .no
theorem so_lzip {W : WX} {e e2 : Expr} {fs : OM} {p p2 pos pos2 : Pos} (hc : X.calm = true) (n : NmB X "list" (.type "list")) (n2 : NmB X "zip" (.type "zip")) (ha : PA X [e, e2] (rdPA X.K W fs))
    (hs : starEach [e, e2] X.env = (false, eval e X.env) :: starEach [e2] X.env := by rfl) (hpl : (backTo pos2 (starEach [e2] X.env)).any (·.1) = false := by rfl) :
    PE X (.Call (.Name "list" p) [.Call (.Name "zip" p2) [e, e2] [] pos2] [] pos) (rdO X.K W (lzipO fs)) := by
  refine ⟨fun pins s σ H Q I h => ?_⟩
  obtain ⟨g, σm, hm, rl, R, pp⟩ := h
  have na : starEach [.Call (.Name "zip" p2) [e, e2] [] pos2] X.env = (false, eval (.Call (.Name "zip" p2) [e, e2] [] pos2) X.env) :: starEach [] X.env := rfl
  refine Call_ (ld_blt I n.gl n.mg boot_list (PyProof.Rows.callWith_type1 (args_cons (thn (Q := fun v s1 => ∃ z TI TO i1 i2 a b g1 hm1 H1 xs ys vx vy, v = .ref z ∧ ZipApart z TI TO i1 i2 a b ∧ Inv X pins σ H1 s1 ∧ (∀ c ∈ [z, TI, TO, i1, i2], FpOk X pins H1 c) ∧ (∀ c ∈ [z, TI, TO, i1, i2], c < s1.heap.objs.size) ∧
    IsZip s1.heap z TI TO .none ∧ IsPair s1.heap TI (.ref i1) (.ref i2) ∧ (∃ x y, IsPair s1.heap TO x y) ∧ s1.heap.IsListIter i1 a 0 ∧ s1.heap.IsListIter i2 b 0 ∧ Rel X.K g1 hm1 H1 ∧ SqL X.K H1 a vx ∧ SqL X.K H1 b vy ∧ RVs X.K g1 H1 xs vx ∧ RVs X.K g1 H1 ys vy ∧ (zipL xs ys).length ≤ zl ∧
    ∀ g' H' a ws, Ext X.K g1 hm1 H1 g' hm1 H' → H1 a = none → H' a = some (.lst ws) → RVs X.K g' H' (zipL xs ys) ws → ¬ g'.F a → ¬ Live g' hm1 a → Q (.ref a) H') ?_ fun v s1 hv => args_nil ?_) na) na))
  · refine Call_ (ld_blt I n2.gl n2.mg PyProof.Rows.boot_zip (PyProof.Rows.callWith_type1 (thn (ha.run pos2 pins s σ H (fun vs H1 => ∃ g1 hm1 xs, Ext X.K g hm H g1 hm1 H1 ∧ RPs X.K g1 hm1 H1 xs vs ∧ Post X.K W g1 hm1 σ H1 (match xs with
        | [x, y] => (match seqM hm1 x, seqM hm1 y with
          | some xs, some ys => if (zipL xs ys).length ≤ zl then .ok (zipL xs ys) hm1 else .no
          | _, _ => .no)
        | _ => .no) fun xs g' hm' H' => ∀ a vs, H a = none → H' a = some (.lst vs) → xs.length ≤ sizeLine → RVs X.K g' H' xs vs → ¬ g'.F a → ¬ Live g' hm' a → Q (.ref a) H') I ?_) fun us s1 hq => ?_) hs hpl))
    · exact ⟨g, σm, hm, rl, R, (Post.bind rl pp).mono fun xs g1 hm1 H1 e1 q vs rs => ⟨g1, hm1, xs, e1, rs, q⟩⟩
    · obtain ⟨vs, H1, I1, r1, g1, hm1, xs, e1, rs, q⟩ := hq
      split at q
      · rename_i x y
        obtain ⟨v1, v2, rfl, p1, p2⟩ := rs.two
        split at q
        · rename_i xs ys c1 c2
          by_cases hz : (zipL xs ys).length ≤ zl
          · rw [if_pos hz] at q
            obtain ⟨a, vx, rfl, qx, rx, _⟩ := p1.seq e1.rel c1
            obtain ⟨b, vy, rfl, qy, ry, _⟩ := p2.seq e1.rel c2
            cases r1 with
            | cons r rr =>
              cases rr with
              | cons r' rr =>
                cases rr
                cases r
                cases r'
                obtain ⟨its, rv, l1, _⟩ := I1.list qx
                obtain ⟨its2, rv2, l2, _⟩ := I1.list qy
                have la : a < s1.heap.objs.size := l1.lt
                have lb : b < s1.heap.objs.size := l2.lt
                refine call_zip_2 l1.isList l2.isList fun h' hzz hTI hTO h1 h2 hsz hk => ?_
                have I2 : Inv X pins σ H1 { s1 with heap := h' } := I1.kept (t' := s1.toks) hk
                have cs : ∀ c ∈ [s1.heap.objs.size + 4, s1.heap.objs.size + 2, s1.heap.objs.size + 3, s1.heap.objs.size, s1.heap.objs.size + 1], s1.heap.objs.size ≤ c ∧ c < h'.objs.size := fun c hc => by
                  simp only [List.mem_cons, List.not_mem_nil, or_false] at hc
                  rw [hsz]
                  rcases hc with rfl | rfl | rfl | rfl | rfl <;> exact ⟨by omega, by omega⟩
                refine ⟨s1.heap.objs.size + 4, s1.heap.objs.size + 2, s1.heap.objs.size + 3, s1.heap.objs.size, s1.heap.objs.size + 1, a, b, g1, hm1, H1, xs, ys, vx, vy, rfl, PySem.W.ktu_apart s1.heap.objs.size a b la lb, I2, fun c hc => I1.fpOk (cs c hc).1 (I1.hok.fresh (cs c hc).1), fun c hc => (cs c hc).2, hzz, hTI, ⟨_, _, hTO⟩, h1, h2, e1.rel, qx, qy, rx, ry, hz, fun g' H' a ws ex h0 hl rw_ nf nl => ?_⟩
                exact q g' H' ex a ws (e1.free h0) hl (by rw [zl_eq]; exact hz) rw_ nf nl
          · rw [if_neg hz] at q
            exact q.elim
        · exact q.elim
      · exact q.elim
  · obtain ⟨z, TI, TO, i1, i2, a, b, g1, hm1, H1, xs, ys, vx, vy, rfl, D, I1, hf, hlt, hzz, hTI, hTO, h1, h2, rl1, qx, qy, rx, ry, hz, k⟩ := hv
    exact call_list_zip (I.ok.hd hc) D I1 hf hlt hzz hTI hTO h1 h2 rl1 qx qy rx ry hz fun S H' s' g' ws I' ex h0 hl rw_ nf nl => ⟨.ref S, H', I', rfl, k g' H' S ws ex h0 hl rw_ nf nl⟩
end
end Mi
end P_M13
section P_M14
set_option Elab.async false
set_option linter.all false
set_option maxRecDepth 100000
set_option maxHeartbeats 4000000
/-! M14: pairs at once, dicts, chains, comprehensions under a name, calls with keywords -/
namespace Mi
open PySem PySem.Spec PyProof.Rows L2

/-! ### what depends on the scope alone -/
def env0 (sc : Scope) : Env := envOfC "" sc 0 0 .none
theorem swst_eq {ts : List Expr} {v : Expr} {env env' : Env} (h : env.scope = env'.scope) : swappedStores ts v env = swappedStores ts v env' := by
  unfold swappedStores Env.kindOf Env.blockKind
  rw [h]
theorem sww_eq {v : Expr} {t : Option Expr} {l : Nat} {env env' : Env} (h : env.scope = env'.scope) : swapsWith v t l env = swapsWith v t l env' := by
  unfold swapsWith Env.kindOf Env.blockKind
  rw [h]
section
variable {X : Cx} {P : Program} {w : World} {K : Kf} {mg : Str → Option Value} {base : Heap} {N : List Str} {sc : Scope} {own : Str → Bool} {k : Nat} {W : WX}
theorem Cn.swst (J : Cn X P w K mg base N sc own k) {ts : List Expr} {v : Expr} {r : Sem (Option (List Str))} (h : swappedStores ts v (env0 sc) = r) : swappedStores ts v X.env = r := (swst_eq J.es).trans h
theorem Cn.sww (J : Cn X P w K mg base N sc own k) {v : Expr} {t : Option Expr} {l : Nat} {r : Sem Bool} (h : swapsWith v t l (env0 sc) = r) : swapsWith v t l X.env = r := (sww_eq J.es).trans h

/-! ### a, b = x, y -/
/-- what is put into a slot: a value, or a new list of its own -/
inductive PT2 where
  | v (f : EM) | o (f : OM)
def PT2.run (p : PT2) (i : Nat) (σ : Sl) (h : MH) : Res SV := match p with
  | .v f => bindR (f σ h) fun m h => .ok (.val m) h
  | .o f => bindR (f σ h) fun m h => .ok (.own m) h
def par2S (i j : Nat) (a b : PT2) : SM := bindS (bindE (a.run i) fun x => bindE (b.run j) fun y _ h => .ok (x, y) h) fun q σ h => .nx ((σ.set i q.1).set j q.2) h
def rdQ (K : Kf) (W : WX) : PT2 → TE
  | .v f => rdE K W f
  | .o f => rdO K W f
def SQ (K : Kf) (g0 : Gh) (hm0 : MH) (H0 : Hp) (g : Gh) (hm : MH) (H : Hp) : SV → V → Prop
  | .un, _ => False
  | .val m, v => RV K g H m v
  | .own xs, v => ∃ a vs, v = .ref a ∧ H0 a = none ∧ H a = some (.lst vs) ∧ xs.length ≤ sizeLine ∧ RVs K g H xs vs ∧ ¬ g.F a ∧ ¬ Live g hm a
theorem SQ.ext {g0 g g' : Gh} {hm0 hm hm' : MH} {H0 H H' : Hp} {s : SV} {v : V} (r : Rel K g hm H) (e : Ext K g hm H g' hm' H') (q : SQ K g0 hm0 H0 g hm H s v) : SQ K g0 hm0 H0 g' hm' H' s v := by
  cases s with
  | un => exact q
  | val m => exact RV.up (e.up r) q
  | own xs =>
    obtain ⟨a, vs, rfl, h0, h1, z, rs, nf, nl⟩ := q
    have hn : H a ≠ none := by rw [h1]; intro z; cases z
    exact ⟨a, vs, rfl, h0, e.keep _ _ h1 nl, z, rs.up (e.up r), fun f => (e.f2 a f).elim nf hn, fun l => nl (e.live' r hn l)⟩
theorem rd_q {p : PT2} {i : Nat} {g : Gh} {hm : MH} {σm : Sl} {σ : L2.St} {H : Hp} {Q : VK} {P : SV → Gh → MH → Hp → Prop} (rl : Rel K g hm H) (R : REnv K g hm H σm σ) (h : Post K W g hm σ H (p.run i σm hm) P)
    (k : ∀ s g' hm' H' v, Ext K g hm H g' hm' H' → SQ K g hm H g' hm' H' s v → P s g' hm' H' → Q v H') : rdQ K W p σ H Q := by
  cases p with
  | v f =>
    refine ⟨g, σm, hm, rl, R, (Post.bind rl h).mono fun m g' hm' H' e q v rv => ?_⟩
    exact k (.val m) g' hm' H' v e rv (q g' H' (.refl e.rel))
  | o f =>
    refine ⟨g, σm, hm, rl, R, (Post.bind rl h).mono fun m g' hm' H' e q a vs h0 h1 z rs nf nl => ?_⟩
    exact k (.own m) g' hm' H' (.ref a) e ⟨a, vs, rfl, h0, h1, z, rs, nf, nl⟩ (q g' H' (.refl e.rel))
/-- a slot is put -/
theorem StS.put {B : Gd} {g0 g : Gh} {hm0 hm : MH} {H0 H : Hp} {σm : Sl} {σ : L2.St} {s : SV} {v : V} (S : StS K B g hm H σm σ) (i : Nat) (q : SQ K g0 hm0 H0 g hm H s v) (hB : ∀ a, H0 a = none → B.H a = none)
    (ne : ∀ a, v = .ref a → (∃ xs, s = .own xs) → ∀ (j : Nat) (ys : List MV), j ≠ i → σm[j]? = some (.own ys) → σ[j]? ≠ some (some (.ref a))) : StS K B g hm H (σm.set i s) (σ.set i (some v)) := by
  cases s with
  | un => exact q.elim
  | val m => exact S.set_val i q
  | own xs =>
    obtain ⟨a, vs, rfl, h0, h1, z, rs, nf, nl⟩ := q
    exact S.set_own i (hB a h0) z h1 rs nf nl (ne a rfl ⟨xs, rfl⟩)
theorem own_ne {g0 : Gh} {hm0 : MH} {H0 : Hp} {σm : Sl} {σ : L2.St} (R : REnv K g0 hm0 H0 σm σ) {a : Addr} (h0 : H0 a = none) (j : Nat) (ys : List MV) (hj : σm[j]? = some (.own ys)) : σ[j]? ≠ some (some (.ref a)) := fun q => by
  obtain ⟨b, ws, q1, _, q3, _⟩ := R.own hj
  rw [q1] at q
  have eb : b = a := by injection q with q; injection q with q; injection q
  rw [eb, h0] at q3
  cases q3
theorem rd_par2 {i j : Nat} {a b : PT2} (D : Ends) (σ : L2.St) (H : Hp) (hij : i ≠ j) (h : rdS K W (par2S i j a b) D σ H) : tPar i j (tCons (rdQ K W a) (tCons (rdQ K W b) tNil)) D σ H := by
  obtain ⟨B, g, hm, σm, s, p⟩ := h
  have p := Post.toE (W := W) (P := fun (q : SV × SV) g' hm' H' => PostS K W B (.nx ((σm.set i q.1).set j q.2) hm') D) (r := bindR (a.run i σm hm) fun x h1 => bindR (b.run j σm h1) fun y h => .ok (x, y) h) (k := fun q h => .nx ((σm.set i q.1).set j q.2) h) s _ rfl p fun q g' hm' H' e k => k
  refine rd_q (i := i) s.rel s.en (Post.bind s.rel p) fun x g1 hm1 H1 v1 e1 q1o p1 => ?_
  refine rd_q (i := j) e1.rel (s.en.ext s.rel e1) (Post.bind e1.rel p1) fun y g2 hm2 H2 v2 e2 q2 p2 => ?_
  have k : PostS K W B (.nx ((σm.set i x).set j y) hm2) D := p2 g2 H2 (.refl e2.rel)
  refine ⟨v1, v2, rfl, k g2 H2 _ ?_⟩
  have e12 := e1.trans s.rel e2
  have s2 := s.ext e12
  have q1 := q1o.ext e1.rel e2
  have hB : ∀ a, H a = none → B.H a = none := fun a ha => s.ex.free ha
  have s3 := s2.put i q1 hB fun a ea ⟨xs, es⟩ j ys _ hj => by
    subst es
    obtain ⟨a', vs, ev, h0, _⟩ := q1
    rw [ev] at ea
    cases ea
    exact own_ne s.en h0 j ys hj
  refine s3.put j q2 (fun a ha => hB a (e1.free ha)) fun a ea ⟨xs, es⟩ l ys hl hj => ?_
  subst es
  obtain ⟨a', vs, ev, h0, _⟩ := q2
  rw [ev] at ea
  cases ea
  rcases get_set hj with ⟨rfl, ex, li⟩ | ⟨c, hj⟩
  · subst ex
    obtain ⟨a1, vs1, ev1, h01, h11, _⟩ := q1o
    have li' : l < σ.length := by rw [← s.en.len]; exact li
    rw [List.getElem?_set_self li', ev1]
    intro z
    have ea : a1 = a := by injection z with z; injection z with z; injection z
    rw [ea, h0] at h11
    cases h11
  · rw [List.getElem?_set_ne (Ne.symm c)]
    exact own_ne s.en (e1.free h0) l ys hj
theorem Cn.par2 {i j : Nat} {x y : Str} {e1 e2 : Expr} {a b : PT2} {px py pt pos : Pos} {kt k2 pt2} (J : Cn X P w K mg base N sc own k) (nx : NmA X x i) (ny : NmA X y j) (hij : i ≠ j) (lx : sc.names.lookup x = some .local) (ly : sc.names.lookup y = some .local)
    (ha : PE X e1 (rdQ X.K W a)) (hb : PE X e2 (rdQ X.K W b)) (hw : swappedStores [.Tuple [.Name x px, .Name y py] kt pt] (.Tuple [e1, e2] k2 pt2) (env0 sc) = pure (some [x, y]))
    (hs : swapsWithSole [.Tuple [.Name x px, .Name y py] kt pt] (.Tuple [e1, e2] k2 pt2) pos.line X.env = pure false := by rfl) (hs1 : starEach [e1, e2] X.env = (false, eval e1 X.env) :: starEach [e2] X.env := by rfl) (hs2 : starEach [e2] X.env = (false, eval e2 X.env) :: starEach [] X.env := by rfl) :
    PS X (.Assign [.Tuple [.Name x px, .Name y py] kt pt] (.Tuple [e1, e2] k2 pt2) pos) (rdS X.K W (par2S i j a b)) :=
  imp_s (ps_par J.calm nx.nd nx.ix ny.ix hij (by rw [J.es]; exact lx) (by rw [J.es]; exact ly) (pa_cons ha (pa_cons hb pa_nil hs2) hs1) (J.swst hw) hs) fun D σ H h => rd_par2 D σ H hij h
/-! three at once -/
def par3S (i j l : Nat) (a b c : PT2) : SM := bindS (bindE (a.run i) fun x => bindE (b.run j) fun y => bindE (c.run l) fun z _ h => .ok (x, y, z) h) fun q σ h => .nx (((σ.set i q.1).set j q.2.1).set l q.2.2) h
theorem rd_par3 {i j l : Nat} {a b c : EM} (D : Ends) (σ : L2.St) (H : Hp) (h : rdS K W (par3S i j l (.v a) (.v b) (.v c)) D σ H) : tPar3 i j l (tCons (rdE K W a) (tCons (rdE K W b) (tCons (rdE K W c) tNil))) D σ H := by
  obtain ⟨B, g, hm, σm, s, p⟩ := h
  have p := Post.toE (W := W) (P := fun (q : SV × SV × SV) g' hm' H' => PostS K W B (.nx (((σm.set i q.1).set j q.2.1).set l q.2.2) hm') D) (r := bindR (PT2.run (.v a) i σm hm) fun x h1 => bindR (PT2.run (.v b) j σm h1) fun y h2 => bindR (PT2.run (.v c) l σm h2) fun z h => .ok (x, y, z) h)
    (k := fun q h => .nx (((σm.set i q.1).set j q.2.1).set l q.2.2) h) s _ rfl p fun q g' hm' H' e k => k
  refine ⟨g, σm, hm, s.rel, s.en, (Post.bind s.rel (Post.bind s.rel p)).mono fun x g1 hm1 H1 e1 p1 v1 r1 => ?_⟩
  have p1 := p1 g1 H1 (.refl e1.rel)
  have s1 := s.ext e1
  refine ⟨g1, σm, hm1, e1.rel, s1.en, (Post.bind e1.rel (Post.bind e1.rel p1)).mono fun y g2 hm2 H2 e2 p2 v2 r2 => ?_⟩
  have p2 := p2 g2 H2 (.refl e2.rel)
  have s2 := s1.ext e2
  refine ⟨g2, σm, hm2, e2.rel, s2.en, (Post.bind e2.rel (Post.bind e2.rel p2)).mono fun z g3 hm3 H3 e3 p3 v3 r3 => ?_⟩
  have p3 := p3 g3 H3 (.refl e3.rel) g3 H3 (.refl e3.rel)
  have s3 := s2.ext e3
  have k : PostS K W B (.nx (((σm.set i (.val x)).set j (.val y)).set l (.val z)) hm3) D := p3
  exact ⟨v1, v2, v3, rfl, k g3 H3 _ (((s3.set_val i ((r1.up (e2.up e1.rel)).up (e3.up e2.rel))).set_val j (r2.up (e3.up e2.rel))).set_val l r3)⟩
theorem Cn.par3 {i j l : Nat} {x y z : Str} {e1 e2 e3 : Expr} {a b c : EM} {px py pz pt pos : Pos} {kt k2 pt2} (J : Cn X P w K mg base N sc own k) (nx : NmA X x i) (ny : NmA X y j) (nz : NmA X z l) (hij : i ≠ j) (hil : i ≠ l) (hjl : j ≠ l) (lx : sc.names.lookup x = some .local) (ly : sc.names.lookup y = some .local) (lz : sc.names.lookup z = some .local)
    (ha : PE X e1 (rdE X.K W a)) (hb : PE X e2 (rdE X.K W b)) (hc : PE X e3 (rdE X.K W c)) (hw : swappedStores [.Tuple [.Name x px, .Name y py, .Name z pz] kt pt] (.Tuple [e1, e2, e3] k2 pt2) (env0 sc) = pure (some [x, y, z]))
    (hs : swapsWithSole [.Tuple [.Name x px, .Name y py, .Name z pz] kt pt] (.Tuple [e1, e2, e3] k2 pt2) pos.line X.env = pure false := by rfl) (hs1 : starEach [e1, e2, e3] X.env = (false, eval e1 X.env) :: starEach [e2, e3] X.env := by rfl) (hs2 : starEach [e2, e3] X.env = (false, eval e2 X.env) :: starEach [e3] X.env := by rfl) (hs3 : starEach [e3] X.env = (false, eval e3 X.env) :: starEach [] X.env := by rfl) :
    PS X (.Assign [.Tuple [.Name x px, .Name y py, .Name z pz] kt pt] (.Tuple [e1, e2, e3] k2 pt2) pos) (rdS X.K W (par3S i j l (.v a) (.v b) (.v c))) :=
  imp_s (ps_par3 J.calm nx.nd nx.ix ny.ix nz.ix hij hil hjl (by rw [J.es]; exact lx) (by rw [J.es]; exact ly) (by rw [J.es]; exact lz) (pa_cons ha (pa_cons hb (pa_cons hc pa_nil hs3) hs2) hs1) (J.swst hw) hs) rd_par3
/-! a, b = x, y where a name is a cell; the first a new list of its own -/
theorem rdO_mono {f : OM} {σ : L2.St} {H : Hp} {Q Q' : VK} (h : rdO K W f σ H Q) (k : ∀ v H, Q v H → Q' v H) : rdO K W f σ H Q' :=
  let ⟨g, σm, hm, r, R, p⟩ := h
  ⟨g, σm, hm, r, R, p.mono fun _ _ _ _ _ q a vs h0 h1 z rv nf nl => k _ _ (q a vs h0 h1 z rv nf nl)⟩
theorem rdQ_mono {p : PT2} {σ : L2.St} {H : Hp} {Q Q' : VK} (h : rdQ K W p σ H Q) (k : ∀ v H, Q v H → Q' v H) : rdQ K W p σ H Q' := by
  cases p with
  | v f => exact rdE_mono h k
  | o f => exact rdO_mono h k
/-- an object more may be laid behind the statement -/
theorem rdS_lay {f : SM} {D : Ends} {σ : L2.St} {H : Hp} (h : rdS K W f D σ H) : rdS K W f { D with nx := fun σ H => ∀ p o, H p = none → D.nx σ (upd H p o) } σ H := by
  obtain ⟨B, g, hm, σm, s, p⟩ := h
  refine ⟨B, g, hm, σm, s, ?_⟩
  cases c : f σm hm with
  | nx σ1 h1 =>
    rw [c] at p
    exact fun g' H' σ' s' q o hq => p g' _ σ' (s'.ext (Ext.lay s'.rel hq))
  | rt m h1 => rw [c] at p; exact p
  | bk σ1 h1 => rw [c] at p; exact p
  | ct σ1 h1 => rw [c] at p; exact p
  | ex c1 m σ1 h1 => rw [c] at p; exact p
  | no => rw [c] at p; exact p
theorem rd_asg2 {i j : Nat} {a b : PT2} (D : Ends) (σ : L2.St) (H : Hp) (hij : i ≠ j) (h : rdS K W (par2S i j a b) D σ H) : tAsg (tTup (tCons (rdQ K W a) (tCons (rdQ K W b) tNil))) (gTup K 2 (gCons (gName i) (gCons (gName j) gNil))) D σ H := by
  have z : tPar i j (tCons (rdQ K W a) (tCons (rdQ K W b) tNil)) _ σ H := rd_par2 _ σ H hij (rdS_lay h)
  refine rdQ_mono z fun x H1 q => rdQ_mono q fun y H2 q => ?_
  obtain ⟨v, w, e, q⟩ := q
  cases e
  refine ⟨by rw [zl_eq]; show 2 ≤ zl; decide, fun p hp => ⟨p, [x, y], rfl, SqT.of upd_same, rfl, x, [y], rfl, y, [], rfl, rfl, ?_⟩⟩
  exact q p _ hp
theorem Cn.asg2 {i j : Nat} {x y : Str} {e1 e2 : Expr} {a b : PT2} {px py pt pos : Pos} {kt k2 pt2} (J : Cn X P w K mg base N sc own k) (nx : NmA X x i) (ny : NmA X y j) (hij : i ≠ j)
    (ha : PE X e1 (rdQ X.K W a)) (hb : PE X e2 (rdQ X.K W b)) (hw : swappedStores [.Tuple [.Name x px, .Name y py] kt pt] (.Tuple [e1, e2] k2 pt2) (env0 sc) = pure none)
    (hs : swapsWithSole [.Tuple [.Name x px, .Name y py] kt pt] (.Tuple [e1, e2] k2 pt2) pos.line X.env = pure false := by rfl) (hs1 : starEach [e1, e2] X.env = (false, eval e1 X.env) :: starEach [e2] X.env := by rfl) (hs2 : starEach [e2] X.env = (false, eval e2 X.env) :: starEach [] X.env := by rfl) :
    PS X (.Assign [.Tuple [.Name x px, .Name y py] kt pt] (.Tuple [e1, e2] k2 pt2) pos) (rdS X.K W (par2S i j a b)) :=
  imp_s (ps_asg (pe_tup (pa_cons ha (pa_cons hb pa_nil hs2) hs1)) (pg_tup (n := 2) J.calm (pgs_cons (pg_name nx.nd nx.ix nx.loc nx.fn) (pgs_cons (pg_name ny.nd ny.ix ny.loc ny.fn) pgs_nil))) hs (J.swst hw)) fun D σ H h => rd_asg2 D σ H hij h
/-- any value to any target -/
theorem Cn.asg {tg e : Expr} {t : Tgt} {is : List Nat} {f : EM} {pos : Pos} (J : Cn X P w K mg base N sc own k) (he : PE X e (rdE X.K W f)) (hg : PG X tg (rdG X.K t is)) (hw : swappedStores [tg] e (env0 sc) = pure none) (hs : swapsWithSole [tg] e pos.line X.env = pure false := by rfl)
    (h1 : (assignEach [tg] X.env).map (·.2) = [assign tg X.env] := by rfl) : PS X (.Assign [tg] e pos) (rdS X.K W (asgS t f)) := ss_asg he hg hs (J.swst hw) h1

/-! ### name = [..] on one line -/
theorem Cn.setLc {i : Nat} {y : Str} {py : Pos} {elt tg iter : Expr} {ifs : List Expr} {scope : Scope} {vs : List (Str × Nat)} {pos spos : Pos} {fi : OM} {t : Tgt} {is : List Nat} {c : TM} {f : EM} (J : Cn X P w K mg base N sc own k) (n : NmA X y i) (hy : sc.names.lookup y = some .local)
    (hsw : swapsWith (.ListComp elt [⟨tg, iter, ifs, 0⟩] scope pos) (some (.Name y py)) spos.line (env0 sc) = pure true) (hi : PI X tg iter (rdIP X.K W fi)) (ok : blkC N sc scope vs = true)
    (hg : ∀ (s : Shared) (H : Hp) (C : Addr) (cl : List (Str × Addr)) (fp : List Addr), PG (X.blk s H scope (compEnvC scope cl C X.env) fp) tg (rdG X.K t is))
    (ht : ∀ (s : Shared) (H : Hp) (C : Addr) (cl : List (Str × Addr)) (fp : List Addr), PTs (X.blk s H scope (compEnvC scope cl C X.env) fp) ifs (rdT X.K WNo c))
    (he : ∀ (s : Shared) (H : Hp) (C : Addr) (cl : List (Str × Addr)) (fp : List Addr), PE (X.blk s H scope (compEnvC scope cl C X.env) fp) elt (rdE X.K WNo f)) (hsub : ∀ j ∈ is, j ∈ vs.map (·.2))
    (hs : ∀ x, foldedSetIterable iter X.env x = pure x := by intro _; rfl) :
    PS X (.Assign [.Name y py] (.ListComp elt [⟨tg, iter, ifs, 0⟩] scope pos) spos) (rdS X.K W (setS i (wrapL (compO (vs.map (·.2)) fi t c f)))) :=
  imp_s (ps_setLc J.calm n.nd n.ix (by rw [J.es]; exact hy) (J.sww hsw) hi (J.blkOk ok) hg ht he hs) fun D σ H h => by
    have z := rd_set D σ H h
    obtain ⟨g, σm, hm, r, R, p⟩ := z
    refine rd_comp hsub σ H _ ⟨g, σm, hm, r, R, ?_⟩
    unfold wrapL at p
    cases c : compO (vs.map (·.2)) fi t c f σm hm with
    | ok xs h' =>
      rw [c] at p
      intro g' H' e a vs h0 h1 z rv nf nl
      obtain ⟨e2, u⟩ := Ext.fzo e h0 (by rw [h1]; intro z; cases z) nl
      exact p (g'.fz a) H' e2 _ (.lst (.inr rfl) h1 z (rv.up u))
    | ex c m h' => rw [c] at p; exact p
    | no => rw [c] at p; exact p
theorem Cn.comp {elt tg iter : Expr} {ifs : List Expr} {scope : Scope} {vs : List (Str × Nat)} {pos : Pos} {fi : OM} {t : Tgt} {is : List Nat} {c : TM} {f : EM} (J : Cn X P w K mg base N sc own k) (hi : PI X tg iter (rdIP X.K W fi)) (ok : blkC N sc scope vs = true)
    (hg : ∀ (s : Shared) (H : Hp) (C : Addr) (cl : List (Str × Addr)) (fp : List Addr), PG (X.blk s H scope (compEnvC scope cl C X.env) fp) tg (rdG X.K t is))
    (ht : ∀ (s : Shared) (H : Hp) (C : Addr) (cl : List (Str × Addr)) (fp : List Addr), PTs (X.blk s H scope (compEnvC scope cl C X.env) fp) ifs (rdT X.K WNo c))
    (he : ∀ (s : Shared) (H : Hp) (C : Addr) (cl : List (Str × Addr)) (fp : List Addr), PE (X.blk s H scope (compEnvC scope cl C X.env) fp) elt (rdE X.K WNo f)) (hsub : ∀ j ∈ is, j ∈ vs.map (·.2))
    (hs : ∀ x, foldedSetIterable iter X.env x = pure x := by intro _; rfl) : PE X (.ListComp elt [⟨tg, iter, ifs, 0⟩] scope pos) (rdO X.K W (compO (vs.map (·.2)) fi t c f)) :=
  so_comp J.calm J.nodup hi (J.blkOk ok) hg ht he hsub hs
end
end Mi
end P_M14
section P_M15
set_option Elab.async false
set_option linter.all false
set_option maxRecDepth 100000
set_option maxHeartbeats 4000000
/-! M15: dicts, chains, calls with keywords -/
namespace Mi
open PySem PySem.Spec PyProof.Rows L2

def keyM : MV → Option Key
  | .int i => some (.inl i)
  | .str s => some (.inr (toS s))
  | _ => none
def valM (ks : List (Key × MV)) (k : Key) : Option MV := (ks.find? fun kv => decide (kv.1 = k)).map (·.2)
def putM (ks : List (Key × MV)) (k : Key) (v : MV) : List (Key × MV) :=
  if (ks.any fun kv => decide (kv.1 = k)) = true then ks.map (fun kv => if kv.1 = k then (kv.1, v) else kv) else ks ++ [(k, v)]
def mergeM (ks more : List (Key × MV)) : List (Key × MV) := more.foldl (fun acc kv => putM acc kv.1 kv.2) ks
section
variable {K : Kf} {g : Gh} {H : Hp}
theorem RKs.app : ∀ {ks ms : List (Key × MV)} {kvs mvs : List (Key × V)}, RKs K g H ks kvs → RKs K g H ms mvs → RKs K g H (ks ++ ms) (kvs ++ mvs)
  | _, _, _, _, .nil, s => s
  | _, _, _, _, .cons r t, s => .cons r (RKs.app t s)
theorem RKs.any {k : Key} : ∀ {ks : List (Key × MV)} {kvs : List (Key × V)}, RKs K g H ks kvs → (ks.any fun kv => decide (kv.1 = k)) = kvs.any fun kv => decide (kv.1 = k)
  | _, _, .nil => rfl
  | _, _, .cons r t => by rw [List.any_cons, List.any_cons, RKs.any t]
theorem RKs.val {k : Key} {m : MV} : ∀ {ks : List (Key × MV)} {kvs : List (Key × V)}, RKs K g H ks kvs → valM ks k = some m → ∃ v, valV kvs k = some v ∧ RV K g H m v
  | _, _, .nil, h => by cases h
  | (k', x) :: ks, (_, v) :: kvs, .cons r t, h => by
    by_cases c : k' = k
    · unfold valM at h
      rw [List.find?_cons_of_pos (by simpa using c)] at h
      cases h
      exact ⟨v, valV_pos c, r⟩
    · have h' : valM ks k = some m := by
        unfold valM at h ⊢
        rw [List.find?_cons_of_neg (by simpa using c)] at h
        exact h
      obtain ⟨v', h1, h2⟩ := RKs.val t h'
      exact ⟨v', by rw [valV_neg c]; exact h1, h2⟩
theorem RKs.mp {k : Key} {m : MV} {v : V} (rv : RV K g H m v) : ∀ {ks : List (Key × MV)} {kvs : List (Key × V)}, RKs K g H ks kvs → RKs K g H (ks.map fun kv => if kv.1 = k then (kv.1, m) else kv) (kvs.map fun kv => if kv.1 = k then (kv.1, v) else kv)
  | _, _, .nil => .nil
  | (k', x) :: ks, (_, y) :: kvs, .cons r t => by
    rw [List.map_cons, List.map_cons]
    by_cases c : k' = k
    · simp only [c, if_true]
      exact .cons rv (RKs.mp rv t)
    · simp only [c, if_false]
      exact .cons r (RKs.mp rv t)
theorem RKs.put {k : Key} {m : MV} {v : V} {ks : List (Key × MV)} {kvs : List (Key × V)} (r : RKs K g H ks kvs) (rv : RV K g H m v) : RKs K g H (putM ks k m) (putK kvs k v) := by
  unfold putM putK
  rw [r.any]
  split
  · exact RKs.mp rv r
  · exact r.app (.cons rv .nil)
theorem RKs.merge : ∀ {ms : List (Key × MV)} {mvs : List (Key × V)} {ks : List (Key × MV)} {kvs : List (Key × V)}, RKs K g H ms mvs → RKs K g H ks kvs → RKs K g H (mergeM ks ms) (mergeK kvs mvs)
  | _, _, _, _, .nil, s => s
  | (k, x) :: ms, (_, v) :: mvs, ks, kvs, .cons r t, s => RKs.merge (ms := ms) (mvs := mvs) (ks := putM ks k x) (kvs := putK kvs k v) t (s.put r)
theorem RKs.length : ∀ {ks : List (Key × MV)} {kvs : List (Key × V)}, RKs K g H ks kvs → ks.length = kvs.length
  | _, _, .nil => rfl
  | _, _, .cons _ t => congrArg (· + 1) t.length
end
theorem Post.from {α : Type} {K : Kf} {W : WX} {σ : L2.St} {g g1 : Gh} {hm : MH} {H H1 : Hp} {r : Res α} {P : α → Gh → MH → Hp → Prop} (rl : Rel K g hm H) (e : Ext K g hm H g1 hm H1) (h : Post K W g hm σ H r P) : Post K W g1 hm σ H1 r P := by
  cases r with
  | ok m hm' => exact fun g' H' e2 => h g' H' (e.trans rl e2)
  | ex c m hm' => exact fun g' H' cls d e2 x => h g' H' cls d (e.trans rl e2) x
  | no => exact h

/-! ### {k: v, ..} -/
abbrev DM := Sl → MH → Res (List (Key × MV))
def nilD : DM := fun _ h => .ok [] h
def consD (fk fv : EM) (fs : DM) : DM := bindE fk fun k => bindE fv fun v => bindE fs fun r _ h => match keyM k with
  | some q => .ok ((q, v) :: r) h
  | none => .no
def dispE (f : DM) : EM := bindE f fun ks _ h => if ks.length ≤ 15 then .ok (.dic (mergeM [] ks)) h else .no
def rdD (K : Kf) (W : WX) (f : DM) (σ : L2.St) (H : Hp) (Q : List (V × V) → Hp → Prop) : Prop := Rdg K W σ H f fun ks g' _ H' => ∀ kvs, RKs K g' H' ks kvs → Q (kvs.map fun kv => (kV kv.1, kv.2)) H'
structure PD (X : Cx) (pos : Pos) (keys : List (Option Expr)) (vals : List Expr) (W : WX) (f : DM) : Prop where
  ex : ∃ trs, PPs X pos keys vals trs ∧ ∀ σ H Q, rdD X.K W f σ H Q → tPairs trs σ H Q
section
variable {K : Kf} {W : WX} {X : Cx} {pos : Pos} {a b c kx vx : Expr} {ks : List (Option Expr)} {vs : List Expr}
theorem sd_nil : PD X pos [] [] W nilD := ⟨[], pps_nil, fun σ H Q h => by
  obtain ⟨g, σm, hm, rl, R, p⟩ := h
  exact p g H (.refl rl) [] .nil⟩
theorem kV_of {g : Gh} {H : Hp} {m : MV} {v : V} {q : Key} (r : RV K g H m v) (h : keyM m = some q) : v = kV q := by
  cases r <;> first | (cases h; rfl) | cases h
theorem sd_cons {fk fv : EM} {fs : DM} (hk : PE X kx (rdE X.K W fk)) (hv : PE X vx (rdE X.K W fv)) (hr : PD X pos ks vs W fs) : PD X pos (some kx :: ks) (vx :: vs) W (consD fk fv fs) := by
  obtain ⟨trs, h1, h2⟩ := hr.ex
  refine ⟨_, pps_cons hk hv h1, fun σ H Q h => ?_⟩
  obtain ⟨g, σm, hm, rl, R, p⟩ := h
  refine ⟨g, σm, hm, rl, R, (Post.bind rl p).mono fun k g1 hm1 H1 e1 p1 v1 r1 => ?_⟩
  refine ⟨g1, σm, hm1, e1.rel, R.ext rl e1, (Post.bind e1.rel p1).mono fun v g2 hm2 H2 e2 p2 v2 r2 => ?_⟩
  refine h2 _ _ _ ⟨g2, σm, hm2, e2.rel, (R.ext rl e1).ext e1.rel e2, (Post.bind e2.rel p2).mono fun r g3 hm3 H3 e3 p3 kvs rk => ?_⟩
  have p3 : Post X.K W g3 hm3 σ H3 (match keyM k with
    | some q => .ok ((q, v) :: r) hm3
    | none => .no) fun ks g' _ H' => ∀ kvs, RKs X.K g' H' ks kvs → Q (kvs.map fun kv => (kV kv.1, kv.2)) H' := p3
  cases c : keyM k with
  | none => rw [c] at p3; exact p3.elim
  | some q =>
    rw [c] at p3
    rw [kV_of r1 c]
    exact p3 g3 H3 (.refl e3.rel) ((q, v2) :: kvs) (.cons (r2.up (e3.up e2.rel)) rk)
theorem se_disp {f : DM} (h : PD X pos ks vs W f) (hall : ks.all (·.isSome) = true) (hl : ks.length = vs.length) (h0 : ks ≠ []) (h15 : ks.length ≤ 15) : PE X (.Dict ks vs pos) (rdE X.K W (dispE f)) := by
  obtain ⟨trs, h1, h2⟩ := h.ex
  refine imp_e (Xc.pe_frz (pe_disp h1 hall hl h0 h15)) fun σ H Q q => ?_
  obtain ⟨g, σm, hm, rl, R, p⟩ := q
  intro p0 hp0
  have e0 := Ext.lay (o := .dK []) rl hp0
  unfold dispE bindE at p
  refine h2 _ _ _ ⟨g, σm, hm, e0.rel, R.ext rl e0, ?_⟩
  cases c0 : f σm hm with
  | ex c m h' => rw [c0] at p; exact Post.from rl e0 (show Post X.K W g hm σ H (.ex c m h' : Res (List (Key × MV))) _ from p)
  | no => rw [c0] at p; exact p
  | ok ks hm2 =>
    rw [c0] at p
    intro g2 H2 e2 kvs rk
    have e02 := e0.trans rl e2
    have n0 : upd H p0 (.dK []) p0 ≠ none := by rw [upd_same]; intro z; cases z
    have nl0 : ¬ Live g hm p0 := rl.new_nl hp0
    have nf0 : ¬ g.F p0 := rl.new_nf hp0
    have d2 : H2 p0 = some (.dK []) := e2.keep _ _ upd_same nl0
    have nf2 : ¬ g2.F p0 := fun f => (e2.f2 p0 f).elim nf0 n0
    have nl2 : ¬ Live g2 hm2 p0 := fun l => nl0 (e2.live' e0.rel n0 l)
    have p2 : Post X.K W g hm σ H (if ks.length ≤ 15 then .ok (.dic (mergeM [] ks)) hm2 else .no) fun m g' _ H' => ∀ v, RV X.K g' H' m v → Q v H' := p
    by_cases c : ks.length ≤ 15
    · rw [if_pos c] at p2
      refine ⟨d2, kvs, rfl, by rw [← rk.length]; exact c, ?_⟩
      refine ⟨p0, _, rfl, upd_same, trivial, fun od => ?_⟩
      rw [upd_upd]
      have ew := e02.wr (o := .frz od (.dK (mergeK [] kvs))) hp0 nf2 nl2
      obtain ⟨ef, u⟩ := Ext.fzo ew hp0 (by rw [upd_same]; intro z; cases z) nl2
      exact p2 _ _ ef _ (.dic (.inr rfl) upd_same (((rk.merge .nil).up (Up.wr nf2)).up u))
    · rw [if_neg c] at p2; exact p2.elim
/-! d[k] -/
def dgetM : MH → MV → MV → Option MV := fun _ x y => match x, keyM y with
  | .dic ks, some k => valM ks k
  | _, _ => none
abbrev rDGet : R2 := fun x y H Q => ∃ a v, x = .ref a ∧ DGet H a y (some v) ∧ Q v H
theorem vp_dget : VP2 K rDGet dgetM := by
  intro g hm H x y vx vy m Q rl px py e k
  unfold dgetM at e
  split at e
  · rename_i ks q hq
    cases px with
    | of px =>
      cases px with
      | @dic a o kvs _ f h rk =>
        obtain ⟨v, h1, h2⟩ := rk.val e
        have ey : vy = kV q := by
          cases py with
          | of py => exact kV_of py hq
          | own z ha rv nl => cases hq
        rw [ey]
        exact ⟨a, v, rfl, .inl ⟨kvs, q, .inr ⟨_, h⟩, rfl, h1.symm⟩, k g H v (.refl rl) h2⟩
  · cases e
theorem se_dget {fa fb : EM} (hu : X.A.units + 65 < cLine) (hs : NoSl b) (ha : PE X a (rdP X.K W fa)) (hb : PE X b (rdP X.K W fb)) : PE X (.Subscript a b pos) (rdE X.K W (bin2 dgetM fa fb)) :=
  imp_e (pe_dget (by omega) ha hb hs) fun σ H Q h => mid2 vp_dget σ H Q h

/-! ### a op b op c -/
theorem rd_chain {f f' : MH → MV → MV → Option MV} {r r' : R2} {fa fb fc : EM} (h1 : VP2 K r f) (h2 : VP2 K r' f') (σ : L2.St) (H : Hp) (Q : VK) (h : rdE K W (chainE f f' fa fb fc) σ H Q) : tChain r r' (rdP K W fa) (rdP K W fb) (rdP K W fc) σ H Q := by
  obtain ⟨g, σm, hm, rl, R, p⟩ := h
  refine ⟨g, σm, hm, rl, R, (Post.bind rl p).mono fun x g1 hm1 H1 e1 p1 vx px => ?_⟩
  refine ⟨g1, σm, hm1, e1.rel, R.ext rl e1, (Post.bind e1.rel p1).mono fun y g2 hm2 H2 e2 p2 vy py => ?_⟩
  have px := px.ext e1.rel e2
  have p2 : Post K W g2 hm2 σ H2 (bindR (optR (f hm2 x y) hm2) fun z h1 => match z with
    | .bl true => bindR (fc σm h1) fun w h2 => optR (f' h2 y w) h2
    | .bl false => .ok (.bl false) h1
    | _ => .no) fun m g' _ H' => ∀ v, RV K g' H' m v → Q v H' := p2
  cases c : f hm2 x y with
  | none => rw [c] at p2; exact p2.elim
  | some m =>
    rw [c] at p2
    refine h1 g2 hm2 H2 x y vx vy m _ e2.rel px py c fun g3 H3 v e3 rv => ?_
    have py := py.ext e2.rel e3
    cases m with
    | bl b =>
      cases rv
      refine ⟨b, rfl, ?_⟩
      cases b with
      | false => exact iteF (p2 g3 H3 e3 _ (.bl _))
      | true =>
        have p2 : Post K W g2 hm2 σ H2 (bindR (fc σm hm2) fun w h2 => optR (f' h2 y w) h2) fun m g' _ H' => ∀ v, RV K g' H' m v → Q v H' := p2
        refine iteT ⟨g3, σm, hm2, e3.rel, ((R.ext rl e1).ext e1.rel e2).ext e2.rel e3, (Post.bind e3.rel (Post.from e2.rel e3 p2)).mono fun w g4 hm4 H4 e4 p4 vw pw => ?_⟩
        have py := py.ext e3.rel e4
        have p4 : Post K W g4 hm4 σ H4 (optR (f' hm4 y w) hm4) fun m g' _ H' => ∀ v, RV K g' H' m v → Q v H' := p4
        cases c2 : f' hm4 y w with
        | none => rw [c2] at p4; exact p4.elim
        | some m2 =>
          rw [c2] at p4
          exact h2 g4 hm4 H4 y w vy vw m2 Q e4.rel py pw c2 fun g5 H5 v e5 rv => p4 g5 H5 e5 v rv
    | _ => exact False.elim p2
theorem se_chain {op op' : CmpOp} {r r' : R2} {f f' : MH → MV → MV → Option MV} {fa fb fc : EM} (ho : OpR X (compareOp op) r) (hv : VP2 X.K r f) (ho' : OpR X (compareOp op') r') (hv' : VP2 X.K r' f') (ha : PE X a (rdP X.K W fa)) (hb : PE X b (rdP X.K W fb)) (hc : PE X c (rdP X.K W fc))
    (hm : lastMarks [op, op'] [b, c] = false := by with_unfolding_all rfl) : PE X (.Compare a [op, op'] [b, c] pos) (rdE X.K W (chainE f f' fa fb fc)) := imp_e (pe_chain ho ho' ha hb hc hm) (rd_chain hv hv')
end
end Mi
end P_M15
section P_M16
set_option Elab.async false
set_option linter.all false
set_option maxRecDepth 100000
set_option maxHeartbeats 4000000
/-! M16: forms that serve several kinds of values; calls with keywords; blocks with their context -/
namespace Mi
open PySem PySem.Spec PyProof.Rows L2 TL

/-! ### x[i], a list, a tuple, a text, a dict -/
theorem pe_or {X : Cx} {e : Expr} {t t' : TE} (h : PE X e t) (h' : PE X e t') : PE X e fun σ H Q => t σ H Q ∨ t' σ H Q := ⟨fun pins s σ H Q I q => q.elim (h.run pins s σ H Q I) (h'.run pins s σ H Q I)⟩
theorem pi_or {X : Cx} {tg e : Expr} {t t' : TI} (h : PI X tg e t) (h' : PI X tg e t') : PI X tg e fun σ H Q => t σ H Q ∨ t' σ H Q := ⟨fun pins s σ H R I q => q.elim (h.run pins s σ H R I) (h'.run pins s σ H R I)⟩
def ixDM : MH → MV → MV → Option MV := fun hm x y => match x with
  | .dic _ => dgetM hm x y
  | _ => ixM hm x y
theorem ixD_or (fa fb : EM) (σ : Sl) (h : MH) : bin2 ixDM fa fb σ h = bin2 ixM fa fb σ h ∨ bin2 ixDM fa fb σ h = bin2 dgetM fa fb σ h := by
  unfold bin2 bindE
  cases c : fa σ h with
  | ok x h' =>
    cases x with
    | dic ks => exact .inr rfl
    | _ => exact .inl rfl
  | ex c v h' => exact .inl rfl
  | no => exact .inl rfl
section
variable {K : Kf} {W : WX} {X : Cx} {tg a b c e : Expr} {pos p2 p : Pos} {lo hi : Option Expr}
theorem se_at {fa fb : EM} (hu : X.A.units + 65 < cLine) (hs : PlainIx b) (hs' : NoSl b) (ha : PE X a (rdP X.K W fa)) (hb : PE X b (rdP X.K W fb)) : PE X (.Subscript a b pos) (rdE X.K W (bin2 ixDM fa fb)) :=
  imp_e (pe_or (se_ix (W := W) ix_seq vp_ix hs ha hb) (se_dget (W := W) hu hs' ha hb)) fun σ H Q h => by
    obtain ⟨g, σm, hm, rl, R, p⟩ := h
    rcases ixD_or fa fb σm hm with e | e
    · rw [e] at p
      exact .inl ⟨g, σm, hm, rl, R, p⟩
    · rw [e] at p
      exact .inr ⟨g, σm, hm, rl, R, p⟩

/-! ### a[i:j] of any kind, as a value -/
def slM (lo hi : Option Int) : MH → MV → Option MV := fun hm x => match x with
  | .str s => if s.length ≤ zl then some (.str (cutL s lo hi)) else none
  | .tup xs => if ¬ (HT.sIx xs.length 0 lo = 0 ∧ HT.sIx xs.length xs.length hi = xs.length) ∧ xs.length ≤ zl then some (.tup (cutL xs lo hi)) else none
  | x => (seqM hm x).map fun xs => .lst (cutL xs lo hi)
def slV (fe : EM) (fl fh : PM) : EM := bindE fe fun x => bindE fl fun lo => bindE fh fun hi => fun _ h => optR (slM lo hi h x) h
theorem se_slV {fe : EM} {fl fh : PM} (he : PE X e (rdP X.K W fe)) (hl : PO X lo (rdTO X.K W fl)) (hu : PO X hi (rdTO X.K W fh)) : PE X (.Subscript e (.Slice lo hi none p2) pos) (rdE X.K W (slV fe fl fh)) :=
  imp_e (pe_slice (sl_str.or (sl_tup.or sl_list)) he hl hu) fun σ H Q h => by
    obtain ⟨g, σm, hm, rl, R, p⟩ := h
    refine ⟨g, σm, hm, rl, R, (Post.bind rl p).mono fun x g1 hm1 H1 e1 p1 v px => ?_⟩
    refine ⟨g1, σm, hm1, e1.rel, R.ext rl e1, (Post.bind e1.rel p1).mono fun lo g2 hm2 H2 e2 p2 => ?_⟩
    refine ⟨g2, σm, hm2, e2.rel, (R.ext rl e1).ext e1.rel e2, (Post.bind e2.rel p2).mono fun hi g3 hm3 H3 e3 p3 => ?_⟩
    have px := (px.ext e1.rel e2).ext e2.rel e3
    have p3 : Post X.K W g3 hm3 σ H3 (optR (slM lo hi hm3 x) hm3) fun m g' _ H' => ∀ v, RV X.K g' H' m v → Q v H' := p3
    have lst : ∀ xs, seqM hm3 x = some xs → slM lo hi hm3 x = some (.lst (cutL xs lo hi)) → rSlS v lo hi H3 Q ∨ rSlT X.K v lo hi H3 Q ∨ rSlL X.K v lo hi H3 Q := fun xs c e => by
      rw [e] at p3
      obtain ⟨a, ws, rfl, h1, rs, z⟩ := px.seq e3.rel c
      refine .inr (.inr ⟨a, ws, rfl, h1, fun l hl => ?_⟩)
      have ex := Ext.fz (o := .lst (cutV ws lo hi)) e3.rel hl
      exact p3 _ _ ex _ (.lst (.inr rfl) upd_same (Nat.le_trans (cutL_length xs lo hi) z) ((rs.cut lo hi).up (ex.up e3.rel)))
    cases x with
    | str s =>
      by_cases c : s.length ≤ zl
      · have p3 : Post X.K W g3 hm3 σ H3 (optR (if s.length ≤ zl then some (.str (cutL s lo hi)) else none) hm3) fun m g' _ H' => ∀ v, RV X.K g' H' m v → Q v H' := p3
        rw [if_pos c] at p3
        refine .inl ⟨_, px.str_inv, by rw [str_len, zl_eq]; exact c, ?_⟩
        have e : cutS (toS s) lo hi = toS (cutL s lo hi) := by
          unfold cutS cutL
          rw [str_len]
        rw [e]
        exact p3 g3 H3 (.refl e3.rel) _ (.str _)
      · have p3 : Post X.K W g3 hm3 σ H3 (optR (if s.length ≤ zl then some (.str (cutL s lo hi)) else none) hm3) fun m g' _ H' => ∀ v, RV X.K g' H' m v → Q v H' := p3
        rw [if_neg c] at p3
        exact p3.elim
    | tup xs =>
      have p3 : Post X.K W g3 hm3 σ H3 (optR (if ¬ (HT.sIx xs.length 0 lo = 0 ∧ HT.sIx xs.length xs.length hi = xs.length) ∧ xs.length ≤ zl then some (.tup (cutL xs lo hi)) else none) hm3) fun m g' _ H' => ∀ v, RV X.K g' H' m v → Q v H' := p3
      by_cases c : ¬ (HT.sIx xs.length 0 lo = 0 ∧ HT.sIx xs.length xs.length hi = xs.length) ∧ xs.length ≤ zl
      · rw [if_pos c] at p3
        obtain ⟨a, ws, rfl, h1, rs⟩ := px.tup_inv
        refine .inr (.inl ⟨a, ws, rfl, h1, by rw [← rs.length]; exact c.1, fun l hl => ?_⟩)
        have ex := Ext.fz (o := .tup (cutV ws lo hi)) e3.rel hl
        exact p3 _ _ ex _ (.tup (.inr rfl) upd_same (by rw [zl_eq]; exact Nat.le_trans (cutL_length xs lo hi) c.2) ((rs.cut lo hi).up (ex.up e3.rel)))
      · rw [if_neg c] at p3
        exact p3.elim
    | lst xs => exact lst xs rfl rfl
    | scr xs => exact lst xs rfl rfl
    | ref n =>
      cases c : seqM hm3 (.ref n) with
      | none =>
        have e : slM lo hi hm3 (.ref n) = none := by show (seqM hm3 (.ref n)).map _ = none; rw [c]; rfl
        rw [e] at p3
        exact p3.elim
      | some xs => exact lst xs c (by show (seqM hm3 (.ref n)).map _ = _; rw [c]; rfl)
    | _ => exact False.elim p3

/-! ### what is walked: a list, a tuple, a text -/
def itemsM : MV → MH → Res (List MV) := fun m h => match m with
  | .lst xs => .ok xs h
  | .scr xs => .ok xs h
  | .tup xs => .ok xs h
  | .str s => .ok (s.map fun c => .str [c]) h
  | _ => .no
def itAny (f : EM) : OM := bindE f fun m _ h => itemsM m h
theorem it_str {S : Gh → MH → Hp → Prop} {s : List Nat} : ItOk K S (Its (toS s)) (s.map fun c => .str [c]) := fun g hm H rl _ i => by
  have hz : (toS s).cps.size = s.length := by simp
  refine ⟨fun m hm' => ?_, fun hi => ?_⟩
  · rw [List.getElem?_map] at hm'
    cases c : s[i]? with
    | none => rw [c] at hm'; cases hm'
    | some d =>
      rw [c] at hm'
      cases hm'
      have hi : i < s.length := (List.getElem?_eq_some_iff.mp c).1
      refine ⟨by show i < (toS s).cps.size; omega, fun x H' y => ?_⟩
      obtain ⟨rfl, c', h1, rfl⟩ := y
      have e : (toS s).cps[i]? = s[i]? := by simp
      rw [e, c] at h1
      cases h1
      exact ⟨g, .refl rl, .str [d]⟩
  · rw [List.length_map] at hi
    show (toS s).cps.size ≤ i
    omega
theorem si_str {f : EM} (he : PE X e (rdE X.K W f)) : PI X tg e (rdI X.K W (bindE f fun m _ h => match m with
    | .str s => .ok (s.map fun c => .str [c]) h
    | _ => .no)) := imp_i (pi_str he) fun σ H R h => by
  obtain ⟨g, σm, hm, rl, Rn, p⟩ := h
  refine ⟨g, σm, hm, rl, Rn, (Post.bind rl p).mono fun m g' hm' H' e q v rv => ?_⟩
  cases m with
  | str s =>
    cases rv
    exact ⟨_, rfl, q g' H' (.refl e.rel) _ it_str⟩
  | _ => exact False.elim q
theorem si_any {f : EM} (he : PE X e (rdE X.K W f)) : PI X tg e (rdI X.K W (itAny f)) :=
  imp_i (pi_or (si_list (W := W) he) (pi_or (si_tup (W := W) he) (si_str (W := W) he))) fun σ H R h => by
    obtain ⟨g, σm, hm, rl, Rn, p⟩ := h
    cases c : f σm hm with
    | ok m h' =>
      unfold itAny bindE at p
      rw [c] at p
      cases m with
      | tup xs => exact .inr (.inl ⟨g, σm, hm, rl, Rn, by unfold itTE bindE; rw [c]; exact p⟩)
      | str xs => exact .inr (.inr ⟨g, σm, hm, rl, Rn, by unfold bindE; rw [c]; exact p⟩)
      | lst xs => exact .inl ⟨g, σm, hm, rl, Rn, by unfold itE bindE; rw [c]; exact p⟩
      | scr xs => exact .inl ⟨g, σm, hm, rl, Rn, by unfold itE bindE; rw [c]; exact p⟩
      | _ => exact False.elim p
    | ex c1 m h' =>
      unfold itAny bindE at p
      rw [c] at p
      exact .inl ⟨g, σm, hm, rl, Rn, by unfold itE bindE; rw [c]; exact p⟩
    | no =>
      unfold itAny bindE at p
      rw [c] at p
      exact p.elim
end

/-! ### f(.., k = e, ..) -/
def sel {α : Type} (perm : List Nat) (l : List α) : List α := perm.filterMap (l[·]?)
theorem RVs.sel {K : Kf} {g : Gh} {H : Hp} {ms : List MV} {vs : List V} (r : RVs K g H ms vs) : ∀ perm : List Nat, RVs K g H (Mi.sel perm ms) (Mi.sel perm vs)
  | [] => .nil
  | i :: p => by
    have ih := RVs.sel r p
    unfold Mi.sel at ih ⊢
    rw [List.filterMap_cons, List.filterMap_cons]
    cases c : ms[i]? with
    | none =>
      have e : vs[i]? = none := by
        rw [List.getElem?_eq_none_iff] at c ⊢
        rw [← r.length]; exact c
      rw [e]
      exact ih
    | some m =>
      obtain ⟨v, h1, h2⟩ := r.get c
      rw [h1]
      exact .cons h2 ih
theorem Vals_sel {vs : List V} {us : List Value} (r : Vals vs us) : ∀ perm : List Nat, Vals (sel perm vs) (sel perm us)
  | [] => .nil
  | i :: p => by
    have ih := Vals_sel r p
    unfold sel at ih ⊢
    rw [List.filterMap_cons, List.filterMap_cons]
    cases c : vs[i]? with
    | none =>
      have e : us[i]? = none := by
        rw [List.getElem?_eq_none_iff] at c ⊢
        rw [← r.length]; exact c
      rw [e]
      exact ih
    | some v =>
      obtain ⟨u, h1, h2⟩ := r.get c
      rw [h1]
      exact .cons h2 ih
/-- the def x, called with n1 values and keywords ks -/
structure FnSK (P : Program) (w : World) (K : Kf) (mg : Str → Option Value) (base : Heap) (k : Nat) (x : Str) (n n1 : Nat) (ks : List Str) (perm : List Nat) (F : List MV → MH → Res MV) : Prop where
  ex : ∃ f fd ps, mg x = some (.ref f) ∧ PySem.W.keepIn K (.ref f) = true ∧ FnOk P w K mg base (L2.CX P w) k f fd ps (spM K n F) ∧
    ∀ (s : Shared) (us ws : List Value), K.In s.heap → us.length = n1 → ws.length = ks.length → BindsTo s fd ⟨us, ks.zip ws⟩ (ps.zip (sel perm (us ++ ws)))
def callKE (n n1 n2 : Nat) (F : List MV → MH → Res MV) (perm : List Nat) (fs gs : OM) : EM := bindE fs fun us => bindE gs fun ws _ h => if us.length = n1 ∧ ws.length = n2 ∧ (sel perm (us ++ ws)).length = n then F (sel perm (us ++ ws)) h else .no
theorem imp_k {X : Cx} {kws : List Keyword} {t t' : TA} (h : PK X kws t) (k : ∀ σ H Q, t' σ H Q → t σ H Q) : PK X kws t' := ⟨fun pos pins s σ H Q I q => h.run pos pins s σ H Q I (k σ H Q q)⟩
section
variable {X : Cx} {W : WX} {P : Program} {w : World} {K : Kf} {mg : Str → Option Value} {base : Heap} {N : List Str} {sc : Scope} {own : Str → Bool} {k j n n1 : Nat} {x : Str} {p pos kpos : Pos} {e : Expr} {es : List Expr} {kws : List Keyword} {nm : Option Str} {F : List MV → MH → Res MV} {ks : List Str} {perm : List Nat}
theorem sk_nil : PK X [] (rdA X.K W nilA) := imp_k pk_nil fun σ H Q h => by
  obtain ⟨g, σm, hm, rl, R, p⟩ := h
  exact p g H (.refl rl) [] .nil
theorem sk_cons {f : EM} {fs : OM} (ha : PE X e (rdE X.K W f)) (hr : PK X kws (rdA X.K W fs)) : PK X (⟨nm, e, kpos⟩ :: kws) (rdA X.K W (consA f fs)) := imp_k (pk_cons ha hr) rd_cons
theorem run_fnKS {pins : List (Addr × Obj)} {σ : L2.St} {H : Hp} {s : Shared} {Q : VK} {us ws : List Value} {vs zs : List V} (tk : Takes X W) (G : FnSK X.prog X.w X.K X.mg X.base j x n n1 ks perm F) {f : Addr} (hf : X.mg x = some (.ref f)) (hr : Room j X.A)
    (I : Inv X pins σ H s) (r : Vals vs us) (rz : Vals zs ws) (l1 : vs.length = n1) (l2 : zs.length = ks.length) (h : spM X.K n F (sel perm (vs ++ zs)) H Q (WE W σ)) : wpAny (model X.prog X.w) X.A (call (.ref f) us (ks.zip ws)) (EP X pins σ Q) X.xe s := by
  obtain ⟨f', fd, ps, a, b, c, hb⟩ := G.ex
  rw [hf] at a
  cases a
  refine wpAny_call (codeAny_mono (c.run X.A X.stack s H ⟨us, ks.zip ws⟩ (sel perm (us ++ ws)) (sel perm (vs ++ zs)) Q (WE W σ) hr I.env0 (hb s us ws I.kIn (r.length.symm.trans l1) (rz.length.symm.trans l2)) (Vals_sel (r.append rz) perm) h) fun r s' hq => ?_)
  cases r with
  | error e => exact passAt tk σ pins H s e s' I hq
  | ok fl =>
    cases fl with
    | ret u => exact I.after hq
    | next => exact False.elim hq
    | brk => exact False.elim hq
    | cont => exact False.elim hq
theorem rd_kcall {K : Kf} {ms zs : List MV} {vs ws : List V} {n2 : Nat} {g : Gh} {hm : MH} {H : Hp} {σ : L2.St} {Q : VK} (rl : Rel K g hm H) (rv : RVs K g H ms vs) (rz : RVs K g H zs ws)
    (q : Post K W g hm σ H (if ms.length = n1 ∧ zs.length = n2 ∧ (sel perm (ms ++ zs)).length = n then F (sel perm (ms ++ zs)) hm else .no) fun m g' _ H' => ∀ v, RV K g' H' m v → Q v H') : vs.length = n1 ∧ ws.length = n2 ∧ spM K n F (sel perm (vs ++ ws)) H Q (WE W σ) := by
  by_cases c : ms.length = n1 ∧ zs.length = n2 ∧ (sel perm (ms ++ zs)).length = n
  · rw [if_pos c] at q
    have rs := (rv.append rz).sel perm
    refine ⟨by rw [← rv.length]; exact c.1, by rw [← rz.length]; exact c.2.1, by rw [← rs.length]; exact c.2.2, g, hm, _, rl, rs, ?_⟩
    show Post K _ _ _ [] _ _ _
    cases r : F (sel perm (ms ++ zs)) hm with
    | ok m h2 => rw [r] at q; exact q
    | ex c1 m h2 => rw [r] at q; exact q
    | no => rw [r] at q; exact q
  · rw [if_neg c] at q
    exact q.elim
theorem Cn.callK0 {gs : OM} (J : Cn X P w K mg base N sc own k) (tk : Takes X W) (G : FnSK P w K mg base j x n 0 ks perm F) (hj : j ≤ k) (g : NmG X x) (hkw : PK X kws (rdA X.K W gs))
    (hall : (backToKw pos (keywordEach kws X.env)).all (·.1.isSome) = true := by rfl) (hks : (backToKw pos (keywordEach kws X.env)).filterMap (·.1) = ks := by rfl)
    (hpl : ((backTo pos (starEach [] X.env)).any (·.1) || (backToKw pos (keywordEach kws X.env)).any (·.1.isNone)) = false := by rfl) :
    PE X (.Call (.Name x p) [] kws pos) (rdE X.K W (callKE n 0 ks.length F perm nilA gs)) := by
  have room := J.room.mono hj
  obtain ⟨rfl, rfl, rfl, rfl, rfl, _, _, _, _, _, _⟩ := J
  have G' := G
  obtain ⟨f, fd, ps, a, b, c, hb⟩ := G.ex
  refine ⟨fun pins s σ H Q I h => ?_⟩
  obtain ⟨g0, σm, hm, rl, R, p⟩ := h
  refine wpAny_Call_Name_kw (ld_glob I g.gl a ?_ g.db)
  refine PySem.W.callWith_KW0 (h₀ := X.base) I.ok.mod.kin b hall (thn (hkw.run pos pins s σ H (fun zs H1 => zs.length = ks.length ∧ spM X.K n F (sel perm ([] ++ zs)) H1 Q (WE W σ)) I ?_) fun ws s2 ⟨zs, H2, I2, rz, l2, q2⟩ => ⟨I2.kIn, ?_⟩) hpl
  · exact ⟨g0, σm, hm, rl, R, (Post.bind rl p).mono fun ms g1 hm1 H1 e1 q vs rv => (rd_kcall (ms := []) (vs := []) e1.rel .nil rv q).2⟩
  · rw [hks]
    exact run_fnKS (us := []) (vs := []) tk G' a room I2 .nil rz rfl l2 q2
theorem Cn.callK {fs gs : OM} (J : Cn X P w K mg base N sc own k) (tk : Takes X W) (G : FnSK P w K mg base j x n n1 ks perm F) (hj : j ≤ k) (g : NmG X x) (ha : PA X (e :: es) (rdA X.K W fs)) (hkw : PK X kws (rdA X.K W gs))
    (hall : (backToKw pos (keywordEach kws X.env)).all (·.1.isSome) = true := by rfl) (hks : (backToKw pos (keywordEach kws X.env)).filterMap (·.1) = ks := by rfl)
    (he : starEach (e :: es) X.env = (false, eval e X.env) :: starEach es X.env := by rfl)
    (hpl : ((backTo pos (starEach (e :: es) X.env)).any (·.1) || (backToKw pos (keywordEach kws X.env)).any (·.1.isNone)) = false := by rfl) :
    PE X (.Call (.Name x p) (e :: es) kws pos) (rdE X.K W (callKE n n1 ks.length F perm fs gs)) := by
  have room := J.room.mono hj
  obtain ⟨rfl, rfl, rfl, rfl, rfl, _, _, _, _, _, _⟩ := J
  have G' := G
  obtain ⟨f, fd, ps, a, b, c, hb⟩ := G.ex
  refine ⟨fun pins s σ H Q I h => ?_⟩
  obtain ⟨g0, σm, hm, rl, R, p⟩ := h
  refine wpAny_Call_Name_kw (ld_glob I g.gl a ?_ g.db)
  refine PySem.W.callWith_KW (h₀ := X.base) I.ok.mod.kin b hall (thn (ha.run pos pins s σ H (fun vs H1 => rdA X.K W gs σ H1 fun zs H2 => vs.length = n1 ∧ zs.length = ks.length ∧ spM X.K n F (sel perm (vs ++ zs)) H2 Q (WE W σ)) I ?_) fun us s1 ⟨vs, H1, I1, r, q⟩ => ?_) hpl he
  · refine ⟨g0, σm, hm, rl, R, (Post.bind rl p).mono fun ms g1 hm1 H1 e1 q vs rv => ?_⟩
    exact ⟨g1, σm, hm1, e1.rel, R.ext rl e1, (Post.bind e1.rel q).mono fun zs g2 hm2 H2 e2 q2 ws rz => rd_kcall e2.rel (rv.up (e2.up e1.rel)) rz q2⟩
  · refine thn (hkw.run pos pins s1 σ H1 _ I1 q) fun ws s2 ⟨zs, H2, I2, rz, l1, l2, q2⟩ => ⟨I2.kIn, ?_⟩
    rw [hks]
    exact run_fnKS tk G' a room I2 r rz l1 l2 q2

/-! ### blocks, with their context -/
theorem Cn.compJ {elt tg iter : Expr} {ifs : List Expr} {scope : Scope} {vs : List (Str × Nat)} {pos : Pos} {fi : OM} {t : Tgt} {is : List Nat} {c : TM} {f : EM} (J : Cn X P w K mg base N sc own k) (hi : PI X tg iter (rdIP X.K W fi)) (ok : blkC N sc scope vs = true)
    (hg : ∀ (s : Shared) (H : Hp) (C : Addr) (cl : List (Str × Addr)) (fp : List Addr), Cn (X.blk s H scope (compEnvC scope cl C X.env) fp) P w K mg base N (relS scope sc) (fun x => scope.names.lookup x == some .cell) k → PG (X.blk s H scope (compEnvC scope cl C X.env) fp) tg (rdG X.K t is))
    (ht : ∀ (s : Shared) (H : Hp) (C : Addr) (cl : List (Str × Addr)) (fp : List Addr), Cn (X.blk s H scope (compEnvC scope cl C X.env) fp) P w K mg base N (relS scope sc) (fun x => scope.names.lookup x == some .cell) k → PTs (X.blk s H scope (compEnvC scope cl C X.env) fp) ifs (rdT X.K WNo c))
    (he : ∀ (s : Shared) (H : Hp) (C : Addr) (cl : List (Str × Addr)) (fp : List Addr), Cn (X.blk s H scope (compEnvC scope cl C X.env) fp) P w K mg base N (relS scope sc) (fun x => scope.names.lookup x == some .cell) k → PE (X.blk s H scope (compEnvC scope cl C X.env) fp) elt (rdE X.K WNo f)) (hsub : ∀ j ∈ is, j ∈ vs.map (·.2))
    (hs : ∀ x, foldedSetIterable iter X.env x = pure x := by intro _; rfl) : PE X (.ListComp elt [⟨tg, iter, ifs, 0⟩] scope pos) (rdO X.K W (compO (vs.map (·.2)) fi t c f)) :=
  J.comp hi ok (fun s H C cl fp => hg s H C cl fp (J.blk s H scope C cl fp)) (fun s H C cl fp => ht s H C cl fp (J.blk s H scope C cl fp)) (fun s H C cl fp => he s H C cl fp (J.blk s H scope C cl fp)) hsub hs
theorem Cn.setLcJ {i : Nat} {y : Str} {py : Pos} {elt tg iter : Expr} {ifs : List Expr} {scope : Scope} {vs : List (Str × Nat)} {pos spos : Pos} {fi : OM} {t : Tgt} {is : List Nat} {c : TM} {f : EM} (J : Cn X P w K mg base N sc own k) (n : NmA X y i) (hy : sc.names.lookup y = some .local)
    (hsw : swapsWith (.ListComp elt [⟨tg, iter, ifs, 0⟩] scope pos) (some (.Name y py)) spos.line (env0 sc) = pure true) (hi : PI X tg iter (rdIP X.K W fi)) (ok : blkC N sc scope vs = true)
    (hg : ∀ (s : Shared) (H : Hp) (C : Addr) (cl : List (Str × Addr)) (fp : List Addr), Cn (X.blk s H scope (compEnvC scope cl C X.env) fp) P w K mg base N (relS scope sc) (fun x => scope.names.lookup x == some .cell) k → PG (X.blk s H scope (compEnvC scope cl C X.env) fp) tg (rdG X.K t is))
    (ht : ∀ (s : Shared) (H : Hp) (C : Addr) (cl : List (Str × Addr)) (fp : List Addr), Cn (X.blk s H scope (compEnvC scope cl C X.env) fp) P w K mg base N (relS scope sc) (fun x => scope.names.lookup x == some .cell) k → PTs (X.blk s H scope (compEnvC scope cl C X.env) fp) ifs (rdT X.K WNo c))
    (he : ∀ (s : Shared) (H : Hp) (C : Addr) (cl : List (Str × Addr)) (fp : List Addr), Cn (X.blk s H scope (compEnvC scope cl C X.env) fp) P w K mg base N (relS scope sc) (fun x => scope.names.lookup x == some .cell) k → PE (X.blk s H scope (compEnvC scope cl C X.env) fp) elt (rdE X.K WNo f)) (hsub : ∀ j ∈ is, j ∈ vs.map (·.2))
    (hs : ∀ x, foldedSetIterable iter X.env x = pure x := by intro _; rfl) : PS X (.Assign [.Name y py] (.ListComp elt [⟨tg, iter, ifs, 0⟩] scope pos) spos) (rdS X.K W (setS i (wrapL (compO (vs.map (·.2)) fi t c f)))) :=
  J.setLc n hy hsw hi ok (fun s H C cl fp => hg s H C cl fp (J.blk s H scope C cl fp)) (fun s H C cl fp => ht s H C cl fp (J.blk s H scope C cl fp)) (fun s H C cl fp => he s H C cl fp (J.blk s H scope C cl fp)) hsub hs
end
end Mi
end P_M16
section P_M17
set_option Elab.async false
set_option linter.all false
set_option maxRecDepth 100000
set_option maxHeartbeats 4000000
/-! M17: the defs of a module, each by its body -/
namespace Mi
open PySem PySem.Spec PyProof.Rows L2

section
variable {X : Cx} {P : Program} {w : World} {K : Kf} {mg : Str → Option Value} {base : Heap} {N : List Str} {sc : Scope} {own : Str → Bool} {k : Nat}
theorem Cn.opEq (J : Cn X P w K mg base N sc own k) : OpR X (compareOp .Eq) (rEqD X.K) := op_eqD (by have := J.units; omega)
theorem Cn.opNe (J : Cn X P w K mg base N sc own k) : OpR X (compareOp .NotEq) (rNeD X.K) := op_neD (by have := J.units; omega)
theorem Cn.opIn (J : Cn X P w K mg base N sc own k) : OpR X (compareOp .In) (rInM X.K) := op_inM J.units
theorem Cn.opNotIn (J : Cn X P w K mg base N sc own k) : OpR X (compareOp .NotIn) (rNotInM X.K) := op_notInM J.units
/-- a module's constant: a tuple of ints -/
theorem Cn.tupc {W : WX} {x : Str} {vs : List He.Dv} {xs : List MV} {pos : Pos} (J : Cn X P w K mg base N sc own k) (g : chkG sc x = true) (hm : mg x = some (.ref (He.ga K x))) (h : He.tupB K x vs = true) (r : ∀ g H, RVs K g H xs (vs.map (He.Dv.v K))) : PE X (.Name x pos) (rdE X.K W (cE (.tup xs))) := by
  have n := J.g g
  have w : WrT K (He.ga K x) (vs.map (He.Dv.v K)) := by
    rcases He.tupB_ok h (fun _ => none) with (z | ⟨o, z⟩) | z
    · cases z
    · cases z
    · exact z
  refine se_glob n.gl (by rw [J.em]; exact hm) n.db (a := He.ga K x) (by rw [J.eK]; exact w) fun g H => ?_
  rw [J.eK]
  exact r g H
end
/-- a def as it stands, and what its body does -/
structure FnB (P : Program) (w : World) (K : Kf) (mg : Str → Option Value) (base : Heap) (k : Nat) (x : Str) (ps : List Str) (n : Nat) (d : He.DefD) (F : List MV → MH → Res MV) : Prop where
  ex : ∃ fd, mg x = some (.ref (He.ga K x)) ∧ FunD K d.name d.qual d.params d.body d.scope (d.dvs K) (d.kws K) (He.ga K x) fd ∧ FnOk P w K mg base (L2.CX P w) k (He.ga K x) fd ps (spM K n F)
section
variable {fa : List He.Fa} {fn : List He.DefD} {ex : Kf → Bool} {K : Kf} {mg : Str → Option Value} {P : Program} {w : World} {base : Heap} {d : He.DefD} {x : Str} {N ps : List Str} {k n : Nat} {F : List MV → MH → Res MV}
theorem Md.fb {b : SM} (M : Md fa fn ex K mg) (i : Nat) (hd : fn[i]? = some d) (hy : mg x = some (.ref (He.ga K x))) (hat : d.at_ = (x, none)) (S : FnScope N ps d.scope) (hn : ps.length = n)
    (hbody : ∀ (X : Cx), Cn X P w K mg base N d.scope (fun _ => true) k → PassesOwn (model X.prog X.w) X.A X.env X.xe → ∀ W, Takes X W → PSs X d.body (rdS X.K W b)) : FnB P w K mg base (k + 1) x ps n d (bodyF N.length n b) := by
  obtain ⟨fd, F⟩ := M.d.def_ i hd
  have e : He.fAd K d.at_ = He.ga K x := by rw [hat] <;> rfl
  rw [e] at F
  exact ⟨fd, hy, F, fn_ok F S hn N.length rfl fun X e1 e2 e3 e4 e5 e6 e7 e8 e9 e10 _ e12 W tk => hbody X ⟨e1, e2, e3, e4, e5, e6, e7, e8, fun x _ => e9 x, e10, S.nd⟩ e12 W tk⟩
theorem FnB.s {dms : List MV} (G : FnB P w K mg base k x ps n d F) (hb : ∀ fd, FunD K d.name d.qual d.params d.body d.scope (d.dvs K) (d.kws K) (He.ga K x) fd → BindD K fd ps dms) : FnS P w K mg base k x n dms F := by
  obtain ⟨fd, a, b, c⟩ := G.ex
  exact ⟨_, fd, ps, a, b.kp, c, hb fd b⟩
theorem FnB.kw {n1 : Nat} {ks : List Str} {perm : List Nat} (G : FnB P w K mg base k x ps n d F) (hd : d.dfl = []) (hk : d.kwd = [])
    (h : ∀ (kV doc pm : Value) (an : Option Addr) (cdv ct : Value) (us ws : List Value), us.length = n1 → ws.length = ks.length → bindArgs (PySem.W.fnOf d.name d.qual d.params d.body d.scope .none kV doc pm an cdv ct) ⟨us, ks.zip ws⟩ = pure (ps.zip (sel perm (us ++ ws)))) : FnSK P w K mg base k x n n1 ks perm F := by
  obtain ⟨fd, a, b, c⟩ := G.ex
  refine ⟨_, fd, ps, a, b.kp, c, fun s us ws _ h1 h2 => ?_⟩
  obtain ⟨oc, od, dV, kV, doc, pm, an, cdv, ct, osl, rfl, lk, hcd, hD, hK⟩ := b.ex
  rcases hD with ⟨_, rfl⟩ | ⟨e, _⟩
  · exact .of_eq (h kV doc pm an cdv ct us ws h1 h2)
  · exact absurd (show d.dfl.map _ = [] by rw [hd]; rfl) e
theorem Md.bind1 {y qual : Str} {params : Arguments} {body : List Stmt} {scope : Scope} {dvs : List V} {kws : List (Str × V)} {f : Addr} {fd : FuncData} {dms : List MV} (F : FunD K y qual params body scope dvs kws f fd) (n j : Nat) (hd : dvs ≠ []) (hn : n + (dvs.length - j) = ps.length) (hr : ∀ g H, RVs K g H dms (dvs.drop j))
    (h : ∀ (T : Addr) (kV doc pm : Value) (an : Option Addr) (cdv ct : Value) (us its : List Value), us.length = n → its.length = dvs.length →
      ∃ k, bindArgs (PySem.W.fnOf y qual params body scope (.ref T) kV doc pm an cdv ct) ⟨us, []⟩ = seqItems? (.ref T) >>= k ∧ k (some its.toArray) = pure (ps.zip (us ++ its.drop j))) : BindD K fd ps dms := by
  obtain ⟨ds, h1, h2⟩ := F.binds1 n j hd hn h
  exact ⟨ds, _, h2, h1, hr⟩
end
end Mi
end P_M17
section P_M18
set_option Elab.async false
set_option linter.all false
set_option maxRecDepth 100000
set_option maxHeartbeats 4000000
/-! M18: a law's end -/
namespace Mi
open PySem PySem.Spec PyProof.Rows L2

def hm0 : MH := ⟨0, fun _ => none⟩
theorem FunD_fd {K : Kf} {x qual x' qual' : Str} {params params' : Arguments} {body body' : List Stmt} {scope scope' : Scope} {dvs dvs' : List V} {kws kws' : List (Str × V)} {f : Addr} {fd fd' : FuncData} (a : FunD K x qual params body scope dvs kws f fd) (b : FunD K x' qual' params' body' scope' dvs' kws' f fd') : fd = fd' := by
  obtain ⟨_, _, _, _, _, _, _, _, _, _, e1, l1, _⟩ := a.ex
  obtain ⟨_, _, _, _, _, _, _, _, _, _, e2, l2, _⟩ := b.ex
  rw [l1] at l2
  injection l2 with l2
  injection l2 with _ _ l3 _
  injection l3
theorem CX_nil {P : Program} {w : World} {H : Hp} {s : Shared} {e : Value} {s' : Shared} : ¬ L2.CX P w [] H s (fun _ _ _ => False) e s' := by
  rintro ⟨_, _, _, _, _, _, _, _, _, _, _, _, z⟩
  exact z
/-- the script as a value -/
theorem script_rv {K : Kf} {H : Hp} {a : Addr} {ns : List Int} (ho : Only H) (hs : SqL K H a (ns.map V.int)) (hl : ns.length ≤ sizeLine) : ∃ g, Rel K g hm0 H ∧ RV K g H (.scr (ns.map .int)) (.ref a) := by
  refine ⟨⟨fun b => H b ≠ none, fun _ => 0, 0⟩, ⟨rfl, fun n h => absurd rfl h, fun n m h => absurd rfl h, fun n h => absurd rfl h, (fun n o h => nomatch h), fun b f => f⟩, .scr ?_ (by rw [List.length_map]; exact hl) RVs.ints⟩
  rcases hs with (h | ⟨o, h⟩) | h
  · rcases ho a with z | ⟨o, xs, z⟩
    · rw [h] at z; cases z
    · rw [h] at z; cases z
  · exact .inl ⟨(show H a ≠ none by rw [h]; intro z; cases z), o, h⟩
  · exact .inr h
theorem walk_mini {l : PySem.W.OpenLaw} {n k i gi : Nat} {q : Program} {loose : List Str} {XP : (Str → Option Value) → Heap → Prop} {d : DefRec} {fa : List He.Fa} {fn : List He.DefD} {n0 : Nat} {ex : Kf → Bool} {dd : He.DefD} {F : List MV → MH → Res MV} {x y : Str}
    (hn : l.most = some n) (hn2 : n ≤ sizeLine) (hdf : d.params.defaults = []) (hr : Room k callerA) (hnm : d.name = y) (hi : fn[i]? = some dd) (hat : dd.at_ = (y, none)) (h0 : dd.dfl = []) (h00 : dd.kwd = []) (hgl : fa[gi]? = some (.glo y))
    (hb : ∀ (kV doc pm : Value) (an : Option Addr) (cdv ct : Value) (us : List Value), us.length = ([x] : List Str).length → bindArgs (PySem.W.fnOf dd.name dd.qual dd.params dd.body dd.scope .none kV doc pm an cdv ct) ⟨us, []⟩ = pure (([x] : List Str).zip us))
    (G : ∀ (w : World) (K : Kf) (mg : Str → Option Value) (base : Heap), Md fa fn ex K mg → FnB l.prog w K mg base k y [x] 1 dd F)
    (hF : ∀ ns : List Int, ns.length ≤ n → ∃ h', F [.scr (ns.map .int)] hm0 = .ok (.bl true) h') :
    PySem.W.WalkO q loose XP (hookR n0 fa fn ex).says l.row.toRowW d [] (fun f vs => PySem.call f vs) := by
  refine Att.attach_call hn hdf fun w s₀ s₁ mg mb f o pm cd doc a vs ns Gd Y ho hd hcd hmg hobj hints hlen hg => ?_
  obtain ⟨K, KX, c⟩ := Y
  have M : Md fa fn ex K mg := ⟨c.t.d, c.more, _, KX, Gd.T.g⟩
  obtain ⟨fd, FD⟩ := M.d.def_ i hi
  have hy := M.glo gi hgl
  rw [hnm, hy] at hmg
  cases hmg
  have e : He.fAd K dd.at_ = He.ga K y := by rw [hat] <;> rfl
  rw [e] at FD
  have FD' : FunD K dd.name dd.qual dd.params dd.body dd.scope [] (dd.kws K) (He.ga K y) fd := by
    have z : dd.dvs K = [] := by
      show dd.dfl.map _ = []
      rw [h0] <;> rfl
    rw [z] at FD
    exact FD
  refine law_call (K := K) (CX := L2.CX l.prog w) (k := k) (fd := fd) (x := x) (sp := spM K 1 F) KX Gd.T.g Gd.T.b Gd.T.builtins Gd.T.nolimit hg hobj hints (Nat.le_trans hlen hn2) hr (fun base _ _ => ?_) (fun s u => FD'.bindsA hb s [u] rfl) (fun H hO hS => ?_) fun H e s' => CX_nil
  · obtain ⟨fd', _, D', ok⟩ := (G w K mg base M).ex
    rw [FunD_fd FD D']
    exact ok
  · obtain ⟨g, rl, rv⟩ := script_rv hO hS (Nat.le_trans hlen hn2)
    refine ⟨rfl, g, hm0, [.scr (ns.map .int)], rl, .cons rv .nil, ?_⟩
    obtain ⟨h', e⟩ := hF ns hlen
    show Post K _ g hm0 [] H (F [.scr (ns.map .int)] hm0) _
    rw [e]
    intro g' H' ex v rv
    cases rv
    rfl
end Mi
end P_M18
section P_M19
set_option Elab.async false
set_option linter.all false
set_option maxRecDepth 100000
set_option maxHeartbeats 4000000
/-! M19: enumerate of a list or a text, sorted pairs -/
namespace Mi
open PySem PySem.Spec PyProof.Rows L2

/-- a text's signs with their places, each in a new pair -/
def ItE (z : Str) : It :=
  ⟨fun i _ => i < z.cps.size, fun i H v H' => ∃ T c, v = .ref T ∧ H T = none ∧ H' = upd H T (.tup [.int (i : Nat), .str ⟨#[c]⟩]) ∧ z.cps[i]? = some c, fun i _ => z.cps.size ≤ i⟩
theorem turn_enumS {P : Program} {w : World} {K : PySem.W.Frag} {elts : List Expr} {kk : Nat} {tpos : Pos} (z : Str) (t : Tok) (e it : Addr) (ty : String) (hty : ty = "str_ascii_iterator" ∨ ty = "str_iterator") :
    Turn P w K (.Tuple elts kk tpos) (ItE z) [e, it] e (fun i h => (∃ old, IsEnum h e it ((i : Nat) : Int) old) ∧ h.IsStrIter it ty z t i ∧ e ≠ it) where
  mem := by simp
  obj := fun i h st b hb => by
    obtain ⟨⟨old, he⟩, ⟨o, ho, hc, hd⟩, _⟩ := st
    have e' : b = e ∨ b = it := by simpa using hb
    rcases e' with z | z
    · rw [z]; exact ⟨_, he, fun v q => nomatch q⟩
    · rw [z]; exact ⟨o, ho, fun v q => by rw [hd] at q; cases q⟩
  keep := fun i h h' st k => let ⟨⟨old, he⟩, ⟨o, ho, r⟩, hne⟩ := st; ⟨⟨old, k e (by simp) _ he⟩, ⟨o, k it (by simp) o ho, r⟩, hne⟩
  item := by
    intro X hP hw hK hc i pins s σ H E I hf st hg
    subst hP hw hK
    obtain ⟨⟨old, he⟩, hit, hne⟩ := st
    have D : Draws X.prog X.w X.A.in1 it [it] z.cps.size (fun i v => ∃ c u, z.cps[i]? = some c ∧ v = .str ⟨#[c]⟩ u) (fun i h => h.IsStrIter it ty z t i) := by
      have hh : X.A.in1.handled = none := I.ok.hd hc
      rcases hty with q | q
      · rw [q]; exact Draws.strAscii hh it z t
      · rw [q]; exact Draws.strWide hh it z t
    have hel : e < s.heap.objs.size := Heap.lt_size he
    have hil : it < s.heap.objs.size := by obtain ⟨_, q, _⟩ := hit; exact Heap.lt_size q
    refine wpAny_pyNext_enum_itemD D he hit hg hne (by simpa using hne) fun x h' tk px ho hit' hT hsz hk => ?_
    obtain ⟨c, u, hcx, rfl⟩ := px
    refine ⟨_, rfl, wpAny_letOwnedTupleGo_enum (s := { s with heap := h', toks := tk + 1 }) ho fun h'' he' sb => ?_⟩
    have hT2 : h''.get? s.heap.objs.size = some { cls := .type "tuple", data := .seq #[.int i tk, .str ⟨#[c]⟩ u] } := (sb.2 _ (Nat.ne_of_gt hel)).trans hT
    have new : ObjOk X.prog X.w (upd H s.heap.objs.size (.tup [.int (i : Nat), .str ⟨#[c]⟩])) h'' s.heap.objs.size (.tup [.int (i : Nat), .str ⟨#[c]⟩]) :=
      ⟨by show 2 ≤ sizeLine; decide, [.int i tk, .str ⟨#[c]⟩ u], .cons ⟨_, rfl⟩ (.cons ⟨_, rfl⟩ .nil), ⟨_, hT2, rfl, _, rfl⟩⟩
    have I1 : Inv X pins σ (upd H s.heap.objs.size (.tup [.int (i : Nat), .str ⟨#[c]⟩])) { s with heap := h'', toks := tk + 1 } :=
      I.turnedNew (ch := [e, it]) (fun b ob hb q => (sb.2 b (fun z => hb (by simp [z]))).trans (hk b ob (fun z => hb (by simp [z])) (fun z => hb (by simp [z])) q)) hf (Nat.le_refl _) new
    refine ⟨.ref s.heap.objs.size, _, I1, rfl, ⟨_, c, rfl, I.hok.fresh (Nat.le_refl _), rfl, hcx⟩, ⟨⟨.str ⟨#[c]⟩ u, ?_⟩, ?_, hne⟩, fun b hb => ?_⟩
    · have e1 : ((i + 1 : Nat) : Int) = (i : Int) + 1 := by omega
      rw [e1]; exact he'
    · obtain ⟨o, ho2, r⟩ := hit'
      exact ⟨o, (sb.2 it (Ne.symm hne)).trans ho2, r⟩
    · have hb' : b < s.heap.objs.size := by
        have e' : b = e ∨ b = it := by simpa using hb
        rcases e' with z | z
        · rw [z]; exact hel
        · rw [z]; exact hil
      rw [upd_ne (Nat.ne_of_lt hb')]
      exact (hf b hb).1
  done := by
    intro X hP hw hK hc i pins s σ H E I hf st hg
    subst hP hw hK
    obtain ⟨⟨old, he⟩, hit, hne⟩ := st
    have hg : z.cps.size ≤ i := hg
    obtain ⟨f0, f1, f2, f3, f4, f5⟩ := hf it (by simp)
    have hh : X.A.in1.handled = none := I.ok.hd hc
    have hx : z.cps[i]? = none := Array.getElem?_eq_none hg
    have hT : s.TypeIs (.ref e) "enumerate" := ⟨_, he, rfl⟩
    have fin : ∀ h', Heap.ExtBut it s.heap h' → ((none : Option Value) = none ∧ Inv X pins σ H { s with heap := h' }) := fun h' eb => ⟨rfl, I.turned (t' := s.toks) (fun b o hb q => eb b o hb q) f0 f1 f3 f4 f5⟩
    unfold pyNext
    refine wpAny_bind (wpAny_attempt (wpAny_callSpecial?_slot (name := Str.ofString "__next__") hT F.slot_enumerate_next
      (wpAny_call_entry F.slot_enumerate_next hT F.entry_enumerate_next ?_ (F.args_enumerate_next_1 _))))
    show wpAny _ _ (field (.ref e) 2 >>= _) _ _ s
    refine wpAny_bind (wpAny_field he rfl (x := .ref it) rfl ?_)
    rcases hty with q | q
    · rw [q] at hit
      refine wpAny_bind (wpAny_nextOf_ascii_end hh hit hx fun h' x eb hx' => ?_)
      obtain ⟨o, ho, hc'⟩ := hx'
      refine wpAny_bind (wpAny_isInstance (T := "StopIteration") (b := true) ⟨o, ho, hc'⟩ isSubtype_stop ?_)
      exact wpAny_pure (fin _ eb)
    · rw [q] at hit
      refine wpAny_bind (wpAny_nextOf_wide_end hh hit hx fun h' x eb hx' => ?_)
      obtain ⟨o, ho, hc'⟩ := hx'
      refine wpAny_bind (wpAny_isInstance (T := "StopIteration") (b := true) ⟨o, ho, hc'⟩ isSubtype_stop ?_)
      exact wpAny_pure (fin _ eb)
  self := fun A i s Q E st h => let ⟨⟨_, he⟩, _⟩ := st; wpAny_pyIter_enum he h
def iEnum2 (K : PySem.W.Frag) (ta : TA) : TI := fun σ H R => ta σ H fun vs H1 => (∃ a xs, vs = [.ref a] ∧ SqL K H1 a xs ∧ R (Ite K a) H1) ∨ ∃ z, vs = [.str z] ∧ R (ItE z) H1
theorem pi_enum2 {X : Cx} {e : Expr} {ta : TA} {p pos tpos : Pos} {elts : List Expr} {kk : Nat} (hg : Gl X "enumerate") (hm : X.mg "enumerate" = none) (ha : PA X [e] ta) (hs : starEach [e] X.env = [(false, eval e X.env)] := by rfl) :
    PI X (.Tuple elts kk tpos) (.Call (.Name "enumerate" p) [e] [] pos) (iEnum2 X.K ta) := by
  refine ⟨fun pins s σ H R I h => ?_⟩
  refine Call_ (ld_blt I hg hm boot_enumerate (PyProof.Rows.callWith_type1 (thn (ha.run pos pins s σ H _ I h) fun us s1 ⟨vs, H1, I1, r1, q1⟩ => ?_) hs rfl))
  have fp : ∀ b ∈ [s1.heap.objs.size + 1, s1.heap.objs.size], FpOk X pins H1 b := by
    intro b hb
    have e' : b = s1.heap.objs.size + 1 ∨ b = s1.heap.objs.size := by simpa using hb
    have hle : s1.heap.objs.size ≤ b := by
      rcases e' with z | z
      · rw [z]; exact Nat.le_add_right _ _
      · rw [z]; exact Nat.le_refl _
    exact I1.fpOk hle (I1.hok.fresh hle)
  rcases q1 with ⟨a, xs, ex, hq, q⟩ | ⟨z, ex, q⟩
  · subst ex
    cases r1 with
    | cons r rr =>
      cases rr
      cases r
      obtain ⟨its, rv, p', hz⟩ := I1.list hq
      refine call_enumerate_list p'.isList fun h' he hit hsz hk => wpAny_pyIter_enum he ?_
      have I2 : Inv X pins σ H1 { s1 with heap := h' } := I1.kept (t' := s1.toks) hk
      exact ⟨s1.heap.objs.size + 1, [s1.heap.objs.size + 1, s1.heap.objs.size], _, _, H1, rfl, I2, turn_enum a (s1.heap.objs.size + 1) s1.heap.objs.size, ⟨⟨.none, he⟩, hit, Nat.succ_ne_self _⟩, fp, q⟩
  · subst ex
    cases r1 with
    | cons r rr =>
      cases rr
      obtain ⟨t, rfl⟩ := r
      refine call_enumerate_str fun h' he hit hsz hk => wpAny_pyIter_enum he ?_
      have I2 : Inv X pins σ H1 { s1 with heap := h' } := I1.kept (t' := s1.toks) hk
      have ht : PySem.strIterType z = "str_ascii_iterator" ∨ PySem.strIterType z = "str_iterator" := by
        unfold PySem.strIterType
        split
        · exact .inl rfl
        · exact .inr rfl
      exact ⟨s1.heap.objs.size + 1, [s1.heap.objs.size + 1, s1.heap.objs.size], _, _, H1, rfl, I2, turn_enumS z t (s1.heap.objs.size + 1) s1.heap.objs.size _ ht, ⟨⟨.none, he⟩, hit, Nat.succ_ne_self _⟩, fp, q⟩
/-! enumerate, over the mini layer -/
def enumL (xs : List MV) : List MV := xs.zipIdx.map fun p => .tup [.int (p.2 : Nat), p.1]
def enumM (xs : List MV) : Option (List MV) := match xs with
  | [.lst x] => some (enumL x)
  | [.str s] => some (enumL (s.map fun c => .str [c]))
  | _ => none
theorem enumL_get {xs : List MV} {i : Nat} : (enumL xs)[i]? = xs[i]?.map fun x => .tup [.int (i : Nat), x] := by
  unfold enumL
  rw [List.getElem?_map, List.getElem?_zipIdx]
  cases xs[i]? with
  | none => rfl
  | some x => simp
theorem enumL_length (xs : List MV) : (enumL xs).length = xs.length := by
  unfold enumL
  rw [List.length_map, List.length_zipIdx]
section
variable {K : Kf} {W : WX} {X : Cx} {e : Expr} {pos p : Pos}
theorem si_enum {elts : List Expr} {kk : Nat} {tpos : Pos} {fs : OM} (n : NmB X "enumerate" (.type "enumerate")) (ha : PA X [e] (rdA X.K W fs)) (hs : starEach [e] X.env = [(false, eval e X.env)] := by rfl) :
    PI X (.Tuple elts kk tpos) (.Call (.Name "enumerate" p) [e] [] pos) (rdI X.K W (itB enumM fs)) :=
  imp_i (pi_enum2 n.gl n.mg ha hs) (rd_itB fun g hm H xs vs ms R rl rs e k => by
    unfold enumM at e
    split at e
    · rename_i x
      cases e
      cases rs with
      | cons r1 rs =>
        cases rs
        cases r1 with
        | @lst a v1 _ f1 h1 z1 q1 =>
          refine .inl ⟨a, v1, rfl, SqL.of h1, k _ fun g2 hm2 H2 rl2 u i => ⟨fun m hm' => ?_, fun hi => ?_⟩⟩
          · rw [enumL_get] at hm'
            cases e1 : x[i]? with
            | none => rw [e1] at hm'; cases hm'
            | some m1 =>
              rw [e1] at hm'
              cases hm'
              have l1 := SqL.of (K := X.K) (u.hp _ _ f1 h1)
              obtain ⟨w1, t1, s1⟩ := q1.get e1
              refine ⟨⟨v1, w1, l1, t1⟩, fun y H' y' => ?_⟩
              obtain ⟨T, p1, rfl, hT, rfl, y1⟩ := y'
              have d1 := y1 _ l1
              rw [t1] at d1
              cases d1
              have ex := Ext.fz (o := .tup [.int (i : Nat), w1]) rl2 hT
              exact ⟨_, ex, .tup (.inr rfl) upd_same (by rw [zl_eq]; show 2 ≤ zl; decide) (.cons (.int _) (.cons ((s1.up u).up (ex.up rl2)) .nil))⟩
          · rw [enumL_length] at hi
            refine ⟨v1, SqL.of (u.hp _ _ f1 h1), ?_⟩
            rw [← q1.length]
            exact hi
    · rename_i s
      cases e
      cases rs with
      | cons r1 rs =>
        cases rs
        cases r1
        refine .inr ⟨_, rfl, k _ fun g2 hm2 H2 rl2 u i => ⟨fun m hm' => ?_, fun hi => ?_⟩⟩
        · rw [enumL_get, List.getElem?_map] at hm'
          cases e1 : s[i]? with
          | none => rw [e1] at hm'; cases hm'
          | some c =>
            rw [e1] at hm'
            cases hm'
            have lt : i < s.length := (List.getElem?_eq_some_iff.mp e1).1
            refine ⟨by show i < s.toArray.size; simpa using lt, fun y H' y' => ?_⟩
            obtain ⟨T, c', rfl, hT, rfl, y1⟩ := y'
            have y1 : s.toArray[i]? = some c' := y1
            rw [List.getElem?_toArray, e1] at y1
            cases y1
            have ex := Ext.fz (o := .tup [.int (i : Nat), .str ⟨#[c]⟩]) rl2 hT
            exact ⟨_, ex, .tup (.inr rfl) upd_same (by rw [zl_eq]; show 2 ≤ zl; decide) (.cons (.int _) (.cons (.str [c]) .nil))⟩
        · rw [enumL_length, List.length_map] at hi
          show s.toArray.size ≤ i
          simpa using hi
    · cases e)
end

/-! ### sorted pairs -/
/-- sorted(xs), pairs of ints, also written ones -/
def rSortedPM (K : PySem.W.Frag) : List V → Hp → VK → Prop := fun vs H Q => (∀ (t : Addr) (xs ys : List V), SqT K H t xs → SqT K H t ys → xs = ys) → ∃ (a : Addr) (xs : List V) (k : V → Int × Int), vs = [V.ref a] ∧ SqL K H a xs ∧ (∀ x ∈ xs, ∃ t, x = V.ref t ∧ SqT K H t [.int (k x).1, .int (k x).2]) ∧
  ∀ ys p, SrtO.Srtd (ltP k) ys → SrtO.Stb (ltP k) ys xs → H p = none → Q (.ref p) (upd H p (.lst ys))
theorem cr_sortedPM {X : Cx} : CallR X (.builtin "sorted") (rSortedPM X.K) := by
  intro pins s σ H vs us Q I r h
  obtain ⟨a, xs, k, rfl, hs, hx, q⟩ := h fun t xs ys h1 h2 => I.tuple_inj h1 h2
  obtain ⟨its, rv, hl, hz⟩ := I.list hs
  obtain ⟨u, rfl, ru⟩ := vals1 r
  obtain rfl : u = Value.ref a := ru
  obtain ⟨e1, e2⟩ := refs_back rv fun x m => by
    obtain ⟨t, e, _⟩ := hx x m
    exact ⟨t, e⟩
  refine SrtO.sorted_pairsO (k := fun u => k (backV u)) hl.isList (by rw [← rv.length]; exact hz) (fun v hv => ?_) fun h' d out h1 h2 kp hd hn => ?_
  · obtain ⟨t, rfl⟩ := e2 v hv
    have hm : V.ref t ∈ xs := by rw [e1]; exact List.mem_map.mpr ⟨_, hv, rfl⟩
    obtain ⟨t', e, ht⟩ := hx _ hm
    cases e
    obtain ⟨its2, r2, ⟨o, ho, hc, n, hd⟩, _⟩ := I.tuple ht
    obtain ⟨u1, u2, rfl, ri, rj⟩ := vals2 r2
    obtain ⟨t1, rfl⟩ := ri
    obtain ⟨t2, rfl⟩ := rj
    exact ⟨t, o, t1, t2, n, rfl, ho, hc, hd⟩
  · have h3 : ∀ u ∈ out, ∃ a, u = Value.ref a := fun u hu => e2 u (h2.perm.mem_iff.mp hu)
    obtain ⟨n, hn⟩ := hn
    have hb : SrtO.Stb (ltP k) (out.map backV) xs := by
      rw [e1]
      exact SrtO.Stb.map (ltP_swo k) backV h2
    refine ⟨.ref d, upd H d (.lst (out.map backV)), I.laid (t' := s.toks) kp hd ⟨?_, out, n, vals_back h3, hn⟩, rfl, q _ d (SrtO.srtd_map h1) hb (I.hok.fresh hd)⟩
    rw [hb.len]
    exact hz
def unP : MV → Option (Int × Int)
  | .tup [.int i, .int j] => some (i, j)
  | _ => none
def pairM (p : Int × Int) : MV := .tup [.int p.1, .int p.2]
def sortP (ps : List (Int × Int)) : List (Int × Int) := ps.mergeSort fun a b => !SrtO.lexB b a
theorem sortP_pw (ps : List (Int × Int)) : (sortP ps).Pairwise fun a b => SrtO.lexB b a = false := by
  have h := List.pairwise_mergeSort (le := fun a b : Int × Int => !SrtO.lexB b a) (by
    intro a b c h1 h2
    simp only [Bool.not_eq_true', SrtO.lexB_no] at h1 h2 ⊢
    omega) (by
    intro a b
    cases h1 : SrtO.lexB b a with
    | false => simp
    | true =>
      have : SrtO.lexB a b = false := SrtO.lexB_no.mpr (by have := SrtO.lexB_iff.mp h1; omega)
      simp [this]) ps
  exact h.imp fun h => by simpa using h
theorem sortP_perm (ps : List (Int × Int)) : (sortP ps).Perm ps := List.mergeSort_perm ps _
theorem sortP_uniq {ps qs : List (Int × Int)} (h : qs.Perm ps) (hp : qs.Pairwise fun a b => SrtO.lexB b a = false) : qs = sortP ps :=
  List.Perm.eq_of_pairwise (fun a b _ _ h1 h2 => by
    have h1 := SrtO.lexB_no.mp h1
    have h2 := SrtO.lexB_no.mp h2
    exact Prod.ext (by omega) (by omega)) hp (sortP_pw ps) (h.trans (sortP_perm ps).symm)
def sortedPM : MH → List MV → Option (List MV) := fun hm xs => match xs with
  | [x] => (match seqM hm x with
    | some ys => (allM unP ys).map fun ps => (sortP ps).map pairM
    | none => none)
  | _ => none
theorem allM_pair : ∀ {ys : List MV} {ps : List (Int × Int)}, allM unP ys = some ps → ys = ps.map pairM
  | [], ps, h => by cases h; rfl
  | y :: ys, ps, h => by
    obtain ⟨p, qs, h1, h2, rfl⟩ := allM_cons h
    rw [List.map_cons, ← allM_pair h2]
    congr 1
    unfold unP at h1
    split at h1
    · cases h1; rfl
    · cases h1
/-- the pair that a value stands for -/
noncomputable def keyV (K : Kf) (H : Hp) (v : V) : Int × Int := by
  classical
  exact if h : ∃ p : Int × Int, ∃ t, v = V.ref t ∧ SqT K H t [.int p.1, .int p.2] then h.choose else (0, 0)
theorem keyV_ok {K : Kf} {H : Hp} {v : V} {p : Int × Int} {t : Addr} (inj : ∀ (t : Addr) (xs ys : List V), SqT K H t xs → SqT K H t ys → xs = ys) (h : v = V.ref t ∧ SqT K H t [.int p.1, .int p.2]) : keyV K H v = p := by
  unfold keyV
  have e : ∃ p : Int × Int, ∃ t, v = V.ref t ∧ SqT K H t [.int p.1, .int p.2] := ⟨p, t, h⟩
  rw [dif_pos e]
  obtain ⟨t', h1, h2⟩ := e.choose_spec
  rw [h.1] at h1
  cases h1
  have q := inj _ _ _ h2 h.2
  injection q with q1 q2
  injection q2 with q2 _
  injection q1 with q1
  injection q2 with q2
  exact Prod.ext q1 q2
theorem RVs.pairs {K : Kf} {g : Gh} {H : Hp} (inj : ∀ (t : Addr) (xs ys : List V), SqT K H t xs → SqT K H t ys → xs = ys) : ∀ {ps : List (Int × Int)} {vs : List V}, RVs K g H (ps.map pairM) vs → vs.map (keyV K H) = ps ∧ ∀ v ∈ vs, RV K g H (pairM (keyV K H v)) v ∧ ∃ t, v = V.ref t ∧ SqT K H t [.int (keyV K H v).1, .int (keyV K H v).2]
  | [], _, r => by
    cases r
    exact ⟨rfl, fun v h => by cases h⟩
  | p :: ps, _, r => by
    rw [List.map_cons] at r
    cases r with
    | @cons _ v _ vs r rs =>
      obtain ⟨h1, h2⟩ := RVs.pairs inj rs
      obtain ⟨_, t, ws, rfl, s1, q1, _⟩ := rv_tup r (ms := [.int p.1, .int p.2]) (h := ⟨0, fun _ => none⟩) rfl
      rw [q1.i2] at s1
      have e := keyV_ok inj ⟨rfl, s1⟩
      refine ⟨by rw [List.map_cons, h1, e], fun v hv => ?_⟩
      rcases List.mem_cons.mp hv with z | hv
      · rw [z, e]
        exact ⟨r, t, rfl, s1⟩
      · exact h2 v hv
theorem RVs.of_pairs {K : Kf} {g : Gh} {H : Hp} : ∀ {vs : List V}, (∀ v ∈ vs, RV K g H (pairM (keyV K H v)) v) → RVs K g H ((vs.map (keyV K H)).map pairM) vs
  | [], _ => .nil
  | v :: vs, h => .cons (h v List.mem_cons_self) (RVs.of_pairs fun x hx => h x (List.mem_cons_of_mem _ hx))
section
variable {K : Kf}
theorem vo_sortedPM : VOn K (rSortedPM K) sortedPM := by
  intro g hm H xs vs m Q rl ps e k inj
  unfold sortedPM at e
  split at e
  · rename_i x
    obtain ⟨v, rfl, px⟩ := ps.one
    split at e
    · rename_i ys c
      obtain ⟨a, ws, rfl, h1, rs, z⟩ := px.seq rl c
      cases q : allM unP ys with
      | none => rw [q] at e; cases e
      | some qs =>
        rw [q] at e
        cases e
        have ey := allM_pair q
        subst ey
        obtain ⟨p1, p2⟩ := RVs.pairs inj rs
        refine ⟨a, ws, keyV K H, rfl, h1, fun x hx => (p2 x hx).2, fun zs p s1 s2 hp => ?_⟩
        have eq : zs.map (keyV K H) = sortP qs := by
          refine sortP_uniq ?_ ?_
          · rw [← p1]
            exact s2.perm.map _
          · exact List.pairwise_map.mpr s1
        have rz := RVs.of_pairs fun v hv => (p2 v (s2.perm.mem_iff.mp hv)).1
        rw [eq] at rz
        refine new_lst rl rz ?_ k hp
        rw [List.length_map, (sortP_perm qs).length_eq]
        rw [List.length_map] at z
        exact z
    · cases e
  · cases e
end
end Mi
end P_M19
section P_M20
set_option Elab.async false
set_option linter.all false
set_option maxRecDepth 100000
set_option maxHeartbeats 4000000
set_option exponentiation.threshold 10000
/-! M20: texts with a part put in another's place; the def's first name is a plain local one, so a token is out when its body begins -/
namespace Mi
open PySem PySem.Spec PyProof.Rows L2

section
variable {M : Model} {A : Around} {E : Value → Shared → Prop} {s₀ s : Shared} {env : Env} {m cm : Str → Option Value}
/-- the names bound, the first of them a local one -/
theorem bind_tok (f : Str × Value → PUnit → Sem (ForInStep PUnit)) (hf : ∀ n v u, f (n, v) u = (do storeName env n v; pure (.yield ⟨⟩))) (hk : env.scope.kind = .function)
    {n : Str} {v : Value} {r : List (Str × Value)} {Q : PUnit → Shared → Prop} (x : InCallC s₀ env.locals m env.cells cm s) (hl : env.kindOf n = some .local)
    (hr : ∀ y ∈ r, env.kindOf y.1 = some .local ∨ (env.kindOf y.1 = some .cell ∧ (env.cells.lookup y.1).isSome = true))
    (h : ∀ s', 1 ≤ s'.toks → InCallC s₀ env.locals (bindL env.kindOf ((n, v) :: r) m) env.cells (bindC env.kindOf ((n, v) :: r) cm) s' → Q ⟨⟩ s') :
    wpAny M A (forIn ((n, v) :: r) ⟨⟩ f) Q E s := by
  rw [List.forIn_cons, hf]
  have inner : ∀ s', 1 ≤ s'.toks → InCallC s₀ env.locals (fun y => if y = n then some v else m y) env.cells cm s' → wpAny M A (forIn r ⟨⟩ f) Q E s' := by
    intro s' ht x'
    refine wpAny_with_toks ht (wpAny_bindParams f hf hk r _ _ s' _ x' hr fun s'' x'' ht' => h s'' ht' ?_)
    have e1 : bindL env.kindOf ((n, v) :: r) m = bindL env.kindOf r fun y => if y = n then some v else m y := by
      show bindL env.kindOf r (if env.kindOf n = some .local then _ else _) = _
      rw [if_pos hl]
    have e2 : bindC env.kindOf ((n, v) :: r) cm = bindC env.kindOf r cm := by
      show bindC env.kindOf r (if env.kindOf n = some .local then _ else _) = _
      rw [if_pos hl]
    rw [e1, e2]
    exact x''
  have hp : (env.scope.kind == .class || (env.scope.kind == .module && env.locals != env.globals)) = false := by
    rw [hk]
    rfl
  refine wpAny_bind (wpAny_bind (wpAny_storeName_local hl x.toInCall.ns (fun h' hn' hs' => wpAny_pure (inner _ (Nat.succ_le_succ (Nat.zero_le _)) ?_)) hp))
  obtain ⟨h₁, tk, e⟩ := x.toInCall.same
  refine ⟨⟨⟨h', s.toks + 1, by rw [e]⟩, hn', fun b o q => hs'.extBut b o (Nat.ne_of_lt (Nat.lt_of_lt_of_le (Heap.lt_size q) x.toInCall.fresh)) (x.toInCall.keep b o q), x.toInCall.fresh⟩, fun k c hc => ?_, x.apart, x.above⟩
  exact (x.cell k c hc).sameBut hs' (Nat.ne_of_gt (x.above k c (mem_of_lookup hc)))
theorem env_tok {scope : Scope} {globals : Addr} {n : Str} {v : Value} {r : List (Str × Value)} {qual : Str} {func : Option Addr} {code : Value} {builtins : Addr} {Q : Env → Shared → Prop}
    (hk : scope.kind = .function) (hl : scope.names.lookup n = some .local)
    (hr : ∀ x ∈ r, scope.names.lookup x.1 = some .local ∨ (scope.names.lookup x.1 = some .cell ∧ ((cellsFrom (s.heap.objs.size + 1) scope.names []).lookup x.1).isSome = true))
    (hQ : ∀ env, env = newEnv scope s.heap.objs.size globals (cellsFrom (s.heap.objs.size + 1) scope.names []) qual func code none builtins →
      ∀ s', 1 ≤ s'.toks → InCallC s env.locals (bindL env.kindOf ((n, v) :: r) fun _ => none) env.cells (bindC env.kindOf ((n, v) :: r) fun _ => none) s' → Q env s') :
    wpAny M A (newFunctionEnv scope globals [] ((n, v) :: r) qual func code none builtins) Q E s := by
  simp only [newFunctionEnv, Option.isSome_none, Bool.false_eq_true, if_false]
  refine wpAny_bind (wpAny_alloc (wpAny_bind (wpAny_layCells _ (fun name kind cells => by cases c : kind == NameKind.cell <;> simp [c]) _ _ _ _ ?_)))
  have sz : (s.heap.push { cls := .type "frame", data := .dict #[] }).objs.size = s.heap.objs.size + 1 := Heap.size_push ..
  have ok := cellsFrom_ok scope.names (s.heap.push { cls := .type "frame", data := .dict #[] }) (s.heap.objs.size + 1) [] ⟨fun _ _ hm => (nomatch hm), List.Pairwise.nil⟩ (by rw [sz]; exact Nat.le_refl _)
  rw [sz] at ok
  rw [show ({ s with heap := s.heap.push { cls := .type "frame", data := .dict #[] } } : Shared).heap.objs.size = s.heap.objs.size + 1 from sz]
  refine wpAny_bind (bind_tok (env := newEnv scope s.heap.objs.size globals (cellsFrom (s.heap.objs.size + 1) scope.names []) qual func code none builtins) _ (fun _ _ _ => rfl) hk ?_ hl hr fun s' ht x => wpAny_pure (hQ _ rfl s' ht x))
  refine ⟨⟨⟨_, _, rfl⟩, (Heap.Ns.new s.heap (.type "frame")).keeps (pushCells_keeps _ _), fun b o e => ?_, Nat.le_refl _⟩, fun n c hc => ?_, ok.apart, fun n c hm => (ok.empty n c hm).2⟩
  · exact pushCells_keeps _ _ b o (Heap.get?_push_of_some _ e)
  · exact (ok.empty n c (mem_of_lookup hc)).1
end
/-- a def's body keeps its promise, begun with a token out -/
theorem fn_tok {CX : CXT} {P : Program} {w : World} {K : PySem.W.Frag} {mg : Str → Option Value} {base : Heap} {k : Nat} {f : Addr} {name qual : Str} {params : Arguments} {body : List Stmt} {scope : Scope} {dV kV doc pm cdv ct oc : Value} {an od : Option Addr}
    {osl : Array (Option Value)} {N pr : List Str} {p0 : Str} {sp : Sp} (lk : K.lookup f = some ⟨oc, od, .func (PySem.W.fnOf name qual params body scope dV kV doc pm an cdv ct), osl⟩) (hcd : PySem.W.codeIn K cdv qual = true) (S : FnScope N (p0 :: pr) scope)
    (h0 : scope.names.lookup p0 = some .local) (len : ∀ vs H Q E, sp vs H Q E → vs.length = (p0 :: pr).length)
    (hbody : ∀ (A : Around) (outer : List Env) (s : Shared) (H : Hp) (vs : List V) (Q : VK) (E : XK), Room k (A.deeper (envOfC qual scope s.heap.objs.size f cdv)) → sp vs H Q E →
      ∃ t, PSsT (cxOf CX P w K mg base N qual scope f cdv A outer s H E) body t ∧ t { nx := fun _ H' => Q .non H', rt := Q } (start N vs) H) :
    FnOk P w K mg base CX (k + 1) f (PySem.W.fnOf name qual params body scope dV kV doc pm an cdv ct) (p0 :: pr) sp := by
  refine ⟨len, fun A outer s H args us vs Q E hr e0 hb r hsp => ?_⟩
  have hl := len _ _ _ _ hsp
  have hin : K.In s.heap := e0.mod.kin.keeps fun b o e => (e0.bs b o e).1
  have lim : s.heap.NoLimit := e0.mod.nolimit.keeps fun b o e => (e0.bs b o e).1
  obtain ⟨u0, ur, rfl⟩ : ∃ u0 ur, us = u0 :: ur := by
    cases us with
    | nil =>
      have q := r.length
      rw [hl] at q
      simp at q
    | cons u0 ur => exact ⟨u0, ur, rfl⟩
  have kinds : ∀ y ∈ pr.zip ur, scope.names.lookup y.1 = some .local ∨ (scope.names.lookup y.1 = some .cell ∧ ((cellsFrom (s.heap.objs.size + 1) scope.names []).lookup y.1).isSome = true) := by
    rintro ⟨n, v⟩ hy
    rcases S.par n (List.mem_cons_of_mem _ (List.of_mem_zip hy).1) with q | q
    · exact .inl q
    · exact .inr ⟨q, PySem.W.cellsFrom_some _ _ _ (.inl q)⟩
  refine codeAny_call_function hr.depth (hin _ _ lk) rfl S.co S.gen rfl (PySem.W.codeRec_of hin hcd) (hb _ _ _ _ (env_tok S.kind h0 kinds fun env he s1 ht x => ?_))
  subst he
  refine ⟨lim.keeps x.toInCall.keep, codeAny_func ?_⟩
  obtain ⟨t, pt, hq⟩ := hbody A outer s H vs Q E (hr.deeper _) hsp
  have I : Inv (cxOf CX P w K mg base N qual scope f cdv A outer s H E) [] (start N vs) H s1 := inv_start S hr.hd e0 hl r x
  refine wpAny_mono (pt [] s1 (start N vs) H _ ht I hq) (fun fl s' hs => ?_) fun e s' hs => hs
  have last : ∀ {σ' : L2.St} {H' : Hp} {v : V} {u : Value}, Inv (cxOf CX P w K mg base N qual scope f cdv A outer s H E) [] σ' H' s' → RelV v u → Q v H' → CE outer P w H s Q u s' := by
    intro σ' H' v u J rv q
    exact ⟨v, H', J.os, J.bare, J.base, J.hok, rv, q⟩
  cases fl with
  | ret u => exact let ⟨v, σ', H', J, rv, q⟩ := hs; last J rv q
  | next => exact let ⟨σ', H', J, q⟩ := hs; last (v := V.non) (u := Value.none) J rfl q
  | brk => exact let ⟨_, _, _, q⟩ := hs; q.elim
  | cont => exact let ⟨_, _, _, q⟩ := hs; q.elim
theorem fn_okT {P : Program} {w : World} {K : Kf} {mg : Str → Option Value} {base : Heap} {x qual : Str} {params : Arguments} {body : List Stmt} {scope : Scope} {dvs : List V} {kws : List (Str × V)} {f : Addr} {fd : FuncData} {N pr : List Str} {p0 : Str} {k n : Nat} {b : SM}
    (Fd : FunD K x qual params body scope dvs kws f fd) (S : FnScope N (p0 :: pr) scope) (h0 : scope.names.lookup p0 = some .local) (hn : (p0 :: pr).length = n) (NN : Nat) (hN : N.length = NN)
    (hbody : ∀ (X : Cx), X.prog = P → X.w = w → X.K = K → X.mg = mg → X.base = base → X.N = N → X.env.scope = scope → X.calm = true → (∀ x, X.fn x = true) → Room k X.A → (∃ W, Takes X W) → PassesOwn (model X.prog X.w) X.A X.env X.xe → ∀ W, Takes X W → PSsT X body (rdS X.K W b)) :
    FnOk P w K mg base (L2.CX P w) (k + 1) f fd (p0 :: pr) (spM K n (bodyF NN n b)) := by
  obtain ⟨oc, od, dV, kV, doc, pm, an, cdv, ct, osl, rfl, lk, hcd, _, _⟩ := Fd.ex
  refine fn_tok lk hcd S h0 (fun vs H Q E h => by rw [hn]; exact h.1) fun A outer s H vs Q E hr h => ?_
  have tk : Takes (cxOf (L2.CX P w) P w K mg base N qual scope f cdv A outer s H E) (fun cls d _ H => E cls d H) := takes_of rfl rfl rfl rfl
  refine ⟨_, hbody (cxOf (L2.CX P w) P w K mg base N qual scope f cdv A outer s H E) rfl rfl rfl rfl rfl rfl rfl rfl (fun _ => rfl) hr ⟨_, tk⟩ (passes_of rfl) _ tk, ?_⟩
  obtain ⟨hl, g, hm, ms, rl, rv, p⟩ := h
  have hN2 : NN - n = N.length - vs.length := by rw [hN, hl]
  have R : REnv K g hm H (ms.map .val ++ List.replicate (NN - n) .un) (L2.start N vs) := start_env rv _ (by omega)
  refine ⟨⟨g, hm, H, fun _ _ => True, fun _ _ _ _ _ _ => trivial⟩, g, hm, _, ⟨rl, .refl rl, R, fun i xs a h1 h2 => ?_, trivial⟩, ?_⟩
  · exfalso
    by_cases c : i < ms.length
    · rw [List.getElem?_append_left (by simpa using c), List.getElem?_map] at h1
      cases q : ms[i]? with
      | none => rw [q] at h1; cases h1
      | some m => rw [q] at h1; cases h1
    · rw [List.getElem?_append_right (by simp; omega), List.getElem?_replicate] at h1
      split at h1 <;> cases h1
  · have p : Post K _ g hm [] H (match b (ms.map .val ++ List.replicate (NN - n) .un) hm with
      | .rt m h' => .ok m h'
      | .nx _ h' => .ok .non h'
      | .ex c m _ h' => .ex c m h'
      | _ => .no) fun m g' _ H' => ∀ v, RV K g' H' m v → Q v H' := p
    cases c : b (ms.map .val ++ List.replicate (NN - n) .un) hm with
    | rt m h' => rw [c] at p; exact fun g' H' v e r => p g' H' e v r
    | nx σ' h' => rw [c] at p; exact fun g' H' σ'' s => p g' H' s.ex .non .non
    | ex c1 m σ' h' => rw [c] at p; exact fun g' H' σ'' cls d s x => p g' H' cls d s.ex x
    | bk σ' h' => rw [c] at p; exact p.elim
    | ct σ' h' => rw [c] at p; exact p.elim
    | no => rw [c] at p; exact p
section
variable {fa : List He.Fa} {fn : List He.DefD} {ex : Kf → Bool} {K : Kf} {mg : Str → Option Value} {P : Program} {w : World} {base : Heap} {d : He.DefD} {x p0 : Str} {N pr : List Str} {k n : Nat}
theorem Md.fbT {b : SM} (M : Md fa fn ex K mg) (i : Nat) (hd : fn[i]? = some d) (hy : mg x = some (.ref (He.ga K x))) (hat : d.at_ = (x, none)) (S : FnScope N (p0 :: pr) d.scope) (h0 : d.scope.names.lookup p0 = some .local) (hn : (p0 :: pr).length = n)
    (hbody : ∀ (X : Cx), Cn X P w K mg base N d.scope (fun _ => true) k → PassesOwn (model X.prog X.w) X.A X.env X.xe → ∀ W, Takes X W → PSsT X d.body (rdS X.K W b)) : FnB P w K mg base (k + 1) x (p0 :: pr) n d (bodyF N.length n b) := by
  obtain ⟨fd, F⟩ := M.d.def_ i hd
  have e : He.fAd K d.at_ = He.ga K x := by rw [hat] <;> rfl
  rw [e] at F
  exact ⟨fd, hy, F, fn_okT F S h0 hn N.length rfl fun X e1 e2 e3 e4 e5 e6 e7 e8 e9 e10 _ e12 W tk => hbody X ⟨e1, e2, e3, e4, e5, e6, e7, e8, fun x _ => e9 x, e10, S.nd⟩ e12 W tk⟩
end
/-! statements with a token out -/
section
variable {X : Cx} {W : WX} {st : Stmt} {rest : List Stmt} {a b : SM}
theorem tt_cons (h1 : PST X st (rdS X.K W a)) (h2 : PSsT X rest (rdS X.K W b)) : PSsT X (st :: rest) (rdS X.K W (seqS a b)) := fun pins s σ H D h0 I q => psst_cons h1 h2 pins s σ H D h0 I (rd_seq D σ H q)
theorem tt_of (h : PS X st (rdS X.K W a)) : PST X st (rdS X.K W a) := PST.of h
theorem tt_end (h : PSs X rest (rdS X.K W a)) : PSsT X rest (rdS X.K W a) := PSsT.of h
/-- a text with each y turned to z -/
def replM (y z : List Nat) : MH → MV → Option MV := fun _ x => match x with
  | .str s => if s.length + (s.length + 1) * z.length ≤ 16777216 then some (.str (Txt.replace (toS s) (toS y) (toS z)).cps.toList) else none
  | _ => none
theorem tt_repl {x : Str} {i : Nat} {o : Expr} {fo : EM} {y z : Str} {j k : Nat} {c0 c1 apos pos spos pos' : Pos} (n : NmA X x i) (ho : PE X o (rdP X.K W fo)) (hyz : (y == z) = false := by decide)
    (hst : starEach [.Constant (.str y) j c0, .Constant (.str z) k c1] X.env = [(false, eval (.Constant (.str y) j c0) X.env), (false, eval (.Constant (.str z) k c1) X.env)] := by rfl)
    (hbase : attributeBase o "replace" X.env (eval o X.env) = eval o X.env := by rfl) (hline : (apos.endLine == pos.line) = true := by rfl)
    (hs : swapsWith (.Call (.Attribute o "replace" apos) [.Constant (.str y) j c0, .Constant (.str z) k c1] [] pos) (some (.Name x pos')) spos.line X.env = pure false := by rfl) :
    PST X (.Assign [.Name x pos'] (.Call (.Attribute o "replace" apos) [.Constant (.str y) j c0, .Constant (.str z) k c1] [] pos) spos) (rdS X.K W (setS i (un1 (replM y.cps.toList z.cps.toList) fo))) := by
  intro pins s σ H D h0 I q
  have q := rd_set D σ H q
  have q2 : CwR.tReplC (rdP X.K W fo) y z σ H fun v H1 => gName i v σ H1 D.nx := by
    have q : rdE X.K W (un1 (replM y.cps.toList z.cps.toList) fo) σ H fun v H1 => gName i v σ H1 D.nx := q
    refine rdP_mono (Mid.start q).step fun vx H1 ⟨x, c⟩ => ?_
    obtain ⟨g, σm, hm, rl, R, ps, p⟩ := c
    cases ps with
    | cons px ps =>
      have p : Post X.K W g hm σ H1 (optR (replM y.cps.toList z.cps.toList hm x) hm) fun m g' _ H' => ∀ v, RV X.K g' H' m v → gName i v σ H' D.nx := p
      cases e : replM y.cps.toList z.cps.toList hm x with
      | none => rw [e] at p; exact p.elim
      | some m =>
        rw [e] at p
        unfold replM at e
        split at e
        · split at e
          · rename_i s' c
            cases e
            have c : s'.length + (s'.length + 1) * z.cps.size ≤ 16777216 := by simpa using c
            refine ⟨_, px.str_inv, by rw [str_len]; exact c, ?_⟩
            exact p g H1 (.refl rl) _ (.str _)
          · cases e
        · cases e
  refine wpAny_Assign_Name (thn (CwR.pet_replC ho hyz hst hbase hline pins s σ H _ h0 I q2) fun v s1 ⟨u, H1, I1, r1, q1⟩ => ?_) hs
  exact store_ok I1 n.nd n.ix n.loc r1 (fun s2 I2 => ⟨_, H1, I2, q1⟩) n.fn
end
end Mi
end P_M20
section P_M21
set_option Elab.async false
set_option linter.all false
set_option maxRecDepth 100000
set_option maxHeartbeats 4000000
/-! M21: a call of a def that answers a flat value: it is asked of plain data, and the small heap is as it was -/
namespace Mi
open PySem PySem.Spec PyProof.Rows L2
/-- the data that a value stands for, its objects read through -/
def der (hm : MH) : Nat → MV → Option MV
  | 0, _ => none
  | n + 1, m => match m with
    | .non => some .non
    | .bl b => some (.bl b)
    | .int i => some (.int i)
    | .str s => some (.str s)
    | .tup xs => (allM (der hm n) xs).map .tup
    | .lst xs => (allM (der hm n) xs).map .lst
    | .scr xs => (allM (der hm n) xs).map .scr
    | .dic ks => (allM (der hm n) (ks.map (·.2))).map fun vs => .dic ((ks.map (·.1)).zip vs)
    | .dit ks => (allM (der hm n) (ks.map (·.2))).map fun vs => .dit ((ks.map (·.1)).zip vs)
    | .ref k => (match hm.get k with
      | some (.lst xs) => (allM (der hm n) xs).map .lst
      | some (.dic ks) => (allM (der hm n) (ks.map (·.2))).map fun vs => .dic ((ks.map (·.1)).zip vs)
      | some (.dit ks) => (allM (der hm n) (ks.map (·.2))).map fun vs => .dit ((ks.map (·.1)).zip vs)
      | _ => none)
    | .exc _ _ => none
abbrev der40 (hm : MH) : MV → Option MV := der hm 40
/-- the ground where all that stands is frozen -/
def Gh.all (g : Gh) (H : Hp) : Gh := { g with F := fun b => H b ≠ none }
def MH.emp (h : MH) : MH := ⟨h.nx, fun _ => none⟩
section
variable {K : Kf} {g : Gh} {hm : MH} {H : Hp}
theorem Rel.all (r : Rel K g hm H) : Rel K (g.all H) hm.emp H :=
  ⟨r.nx, fun n h => absurd rfl h, fun n m h => absurd rfl h, fun n h => absurd rfl h, fun n o h => (nomatch h), fun b h => h⟩
theorem some_ne {α : Type} {o : Option α} {x : α} (h : o = some x) : o ≠ none := by rw [h]; intro z; cases z
theorem RKs.vals : ∀ {ks : List (Key × MV)} {kvs : List (Key × V)}, RKs K g H ks kvs → ks.map (·.1) = kvs.map (·.1) ∧ RVs K g H (ks.map (·.2)) (kvs.map (·.2))
  | _, _, .nil => ⟨rfl, .nil⟩
  | _, _, .cons r rs => ⟨by rw [List.map_cons, List.map_cons, (RKs.vals rs).1], .cons r (RKs.vals rs).2⟩
theorem RKs.of_zip : ∀ {ks : List Key} {ds : List MV} {kvs : List (Key × V)}, ks = kvs.map (·.1) → RVs K g H ds (kvs.map (·.2)) → RKs K g H (ks.zip ds) kvs
  | ks, ds, [], e, r => by subst e; cases r; exact .nil
  | ks, ds, p :: kvs, e, r => by
    subst e
    cases r with
    | cons r rs => exact .cons r (RKs.of_zip rfl rs)
theorem zip_fst {α β : Type} : ∀ {as : List α} {bs : List β}, as.length = bs.length → (as.zip bs).map (·.1) = as
  | [], _, _ => rfl
  | _ :: _, [], h => nomatch h
  | a :: as, b :: bs, h => by rw [List.zip_cons_cons, List.map_cons, zip_fst (by simpa using h)]
theorem zip_snd {α β : Type} : ∀ {as : List α} {bs : List β}, as.length = bs.length → (as.zip bs).map (·.2) = bs
  | [], [], _ => rfl
  | [], _ :: _, h => nomatch h
  | _ :: _, [], h => nomatch h
  | a :: as, b :: bs, h => by rw [List.zip_cons_cons, List.map_cons, zip_snd (by simpa using h)]
theorem ders_rv {g' : Gh} {H' : Hp} {f : MV → Option MV} : ∀ {xs ds : List MV} {vs : List V}, (∀ m d v, RV K g H m v → f m = some d → RV K g' H' d v) → RVs K g H xs vs → allM f xs = some ds → RVs K g' H' ds vs
  | [], _, _, _, r, e => by cases r; cases e; exact .nil
  | x :: xs, _, _, k, r, e => by
    cases r with
    | cons r rs =>
      obtain ⟨y, zs, h1, h2, rfl⟩ := allM_cons e
      exact .cons (k _ _ _ r h1) (ders_rv k rs h2)
theorem allM_length {α : Type} {f : MV → Option α} : ∀ {xs : List MV} {ys : List α}, allM f xs = some ys → ys.length = xs.length
  | [], _, e => by cases e; rfl
  | x :: xs, _, e => by
    obtain ⟨y, zs, h1, h2, rfl⟩ := allM_cons e
    simp [allM_length h2]
theorem map_some {α β : Type} {o : Option α} {f : α → β} {y : β} (h : o.map f = some y) : ∃ x, o = some x ∧ y = f x := by
  cases o with
  | none => cases h
  | some x => cases h; exact ⟨x, rfl, rfl⟩
theorem lk_some {os : Addr → Obj} {a : Addr} {o : HO} (h : H a = some o) : Xc.lk H os a ≠ none := fun z => by rw [Xc.lk_none.mp z] at h; cases h
theorem lk_WrT {os : Addr → Obj} {a : Addr} {xs : List V} (h : SqT K H a xs) : SqT K (Xc.lk H os) a xs := by
  rcases h with (h | ⟨o, h⟩) | h
  · exact .inl (.inl (Xc.lk_o h trivial))
  · exact .inl (.inr ⟨o, Xc.lk_o h trivial⟩)
  · exact .inr h
theorem Rel.allk (r : Rel K g hm H) (os : Addr → Obj) : Rel K (g.all H) hm.emp (Xc.lk H os) :=
  ⟨r.nx, fun n h => absurd rfl h, fun n m h => absurd rfl h, fun n h => absurd rfl h, fun n o h => (nomatch h), fun b h z => h (Xc.lk_none.mp z)⟩
theorem der_rv {os : Addr → Obj} (rl : Rel K g hm H) : ∀ (n : Nat) (m d : MV) (v : V), RV K g H m v → der hm n m = some d → RV K (g.all H) (Xc.lk H os) d v
  | 0, _, _, _, _, e => nomatch e
  | n + 1, m, d, v, r, e => by
    have ih := der_rv (os := os) rl n
    cases r with
    | non => cases e; exact .non
    | bl b => cases e; exact .bl b
    | int i => cases e; exact .int i
    | str s => cases e; exact .str s
    | tup f h z rs =>
      obtain ⟨ds, e1, rfl⟩ := map_some e
      exact .tup (some_ne h) (Xc.lk_o h trivial) (by rw [allM_length e1]; exact z) (ders_rv ih rs e1)
    | tupK w rs =>
      obtain ⟨ds, e1, rfl⟩ := map_some e
      exact .tupK w (ders_rv ih rs e1)
    | lst f h z rs =>
      obtain ⟨ds, e1, rfl⟩ := map_some e
      exact .lst (some_ne h) (Xc.lk_o h trivial) (by rw [allM_length e1]; exact z) (ders_rv ih rs e1)
    | scr h z rs =>
      obtain ⟨ds, e1, rfl⟩ := map_some e
      refine .scr ?_ (by rw [allM_length e1]; exact z) (ders_rv ih rs e1)
      rcases h with ⟨f, o, h⟩ | h
      · exact .inl ⟨some_ne h, o, Xc.lk_o h trivial⟩
      · exact .inr h
    | dic f h rs =>
      obtain ⟨ds, e1, rfl⟩ := map_some e
      exact .dic (some_ne h) (Xc.lk_o h trivial) (RKs.of_zip rs.vals.1 (ders_rv ih rs.vals.2 e1))
    | dit f h q rs =>
      obtain ⟨ds, e1, rfl⟩ := map_some e
      have hl := allM_length e1
      rw [List.length_map] at hl
      refine .dit (some_ne h) (Xc.lk_o h trivial) ?_ ?_
      · rw [zip_fst (by rw [List.length_map]; exact hl.symm)]; exact q
      · rw [zip_snd (by rw [List.length_map]; exact hl.symm)]; exact ders_rv ih rs e1
    | ref k hk =>
      unfold der at e
      dsimp only at e
      split at e
      · rename_i xs c
        obtain ⟨ds, e1, rfl⟩ := map_some e
        obtain ⟨z, vs, h, rs⟩ := rl.ob k _ c
        exact .lst (some_ne h) (Xc.lk_o h trivial) (by rw [allM_length e1]; exact z) (ders_rv ih rs e1)
      · rename_i ks c
        obtain ⟨ds, e1, rfl⟩ := map_some e
        obtain ⟨vs, h, rs⟩ := rl.ob k _ c
        exact .dic (some_ne h) (Xc.lk_K h) (RKs.of_zip rs.vals.1 (ders_rv ih rs.vals.2 e1))
      · rename_i ks c
        obtain ⟨ds, e1, rfl⟩ := map_some e
        obtain ⟨vs, h, q, rs⟩ := rl.ob k _ c
        have hl := allM_length e1
        rw [List.length_map] at hl
        refine .dit (some_ne h) (Xc.lk_T h) ?_ ?_
        · rw [zip_fst (by rw [List.length_map]; exact hl.symm)]; exact q
        · rw [zip_snd (by rw [List.length_map]; exact hl.symm)]; exact ders_rv ih rs e1
      · cases e
    | exc f h f2 h2 rs => cases e
    | exc0 f h => cases e
theorem der_rp {os : Addr → Obj} (rl : Rel K g hm H) (n : Nat) {m d : MV} {v : V} (r : RP K g hm H m v) (e : der hm n m = some d) : RV K (g.all H) (Xc.lk H os) d v := by
  cases r with
  | of r => exact der_rv rl n _ _ _ r e
  | own z h rs nl =>
    cases n with
    | zero => cases e
    | succ n =>
      obtain ⟨ds, e1, rfl⟩ := map_some e
      exact .lst (some_ne h) (Xc.lk_o h trivial) (by rw [allM_length e1]; exact z) (ders_rv (der_rv rl n) rs e1)
theorem ders_rp {os : Addr → Obj} (rl : Rel K g hm H) (n : Nat) : ∀ {ms ds : List MV} {vs : List V}, RPs K g hm H ms vs → allM (der hm n) ms = some ds → RVs K (g.all H) (Xc.lk H os) ds vs
  | [], _, _, r, e => by cases r; cases e; exact .nil
  | x :: xs, _, _, r, e => by
    cases r with
    | cons r rs =>
      obtain ⟨y, zs, h1, h2, rfl⟩ := allM_cons e
      exact .cons (der_rp rl n r h1) (ders_rp rl n rs h2)
/-- behind such a call -/
theorem Ext.backk {os : Addr → Obj} {g2 : Gh} {hm2 : MH} {H2 : Hp} (rl : Rel K g hm H) (e : Ext K (g.all H) hm.emp (Xc.lk H os) g2 hm2 H2) : Ext K g hm H g hm (Xc.ul H H2) := by
  have nl : ∀ b, ¬ Live (g.all H) hm.emp b := fun b ⟨n, h, _⟩ => h rfl
  have kp : ∀ b o, H b = some o → Xc.ul H H2 b = some o := fun b o h => by
    cases o with
    | dK kvs => exact Xc.ul_K h
    | dT kvs => exact Xc.ul_T h
    | _ =>
      rw [Xc.ul_o fun o2 h2 => by rw [h] at h2; cases h2; trivial]
      exact e.keep b _ (Xc.lk_o h trivial) (nl b)
  have st : ∀ b, H b ≠ none → Xc.ul H H2 b ≠ none := fun b h z => by
    cases q : H b with
    | none => exact h q
    | some o => rw [kp b o q] at z; cases z
  refine ⟨Nat.le_refl _, fun _ _ => rfl, fun _ h => h, fun _ h => .inl h, fun b o h _ => kp b o h, st, fun n h1 h2 => absurd (Nat.lt_of_lt_of_le h2 h1) (Nat.lt_irrefl _), fun _ _ h => h, ?_⟩
  exact ⟨rl.nx, rl.lt, rl.inj, rl.nf, fun n o h => RO.up ⟨Nat.le_refl _, fun _ _ => rfl, fun _ h => h, fun b o _ h => kp b o h⟩ (fun o h => kp _ o h) (rl.ob n o h), fun b h => st b (rl.fs b h)⟩
end
/-- F asked of plain data; a flat answer -/
def pureF (F : List MV → MH → Res MV) (ms : List MV) (h : MH) : Res MV := match allM (der40 h) ms with
  | some ds => (match F ds h.emp with
    | .ok m _ => if flatM m = true then .ok m h else .no
    | _ => .no)
  | none => .no
def pureE (n : Nat) (F : List MV → MH → Res MV) (dms : List MV) (fs : OM) : EM := bindE fs fun ms _ h => if (ms ++ dms).length = n then pureF F (ms ++ dms) h else .no
section
variable {X : Cx} {W : WX} {x : Str} {p pos : Pos} {e : Expr} {es : List Expr} {k n : Nat} {dms : List MV} {F : List MV → MH → Res MV}
theorem RPs.append {K : Kf} {g : Gh} {hm : MH} {H : Hp} : ∀ {xs ys : List MV} {vs ws : List V}, RPs K g hm H xs vs → RPs K g hm H ys ws → RPs K g hm H (xs ++ ys) (vs ++ ws)
  | _, _, _, _, .nil, s => s
  | _, _, _, _, .cons r t, s => .cons r (RPs.append t s)
theorem RPs.ofV {K : Kf} {g : Gh} {hm : MH} {H : Hp} : ∀ {xs : List MV} {vs : List V}, RVs K g H xs vs → RPs K g hm H xs vs
  | _, _, .nil => .nil
  | _, _, .cons r t => .cons (.of r) (RPs.ofV t)
theorem RPs.length {K : Kf} {g : Gh} {hm : MH} {H : Hp} : ∀ {xs : List MV} {vs : List V}, RPs K g hm H xs vs → xs.length = vs.length
  | _, _, .nil => rfl
  | _, _, .cons _ t => congrArg (· + 1) (RPs.length t)
theorem flat_any {K : Kf} {g g' : Gh} {H H' : Hp} {m : MV} {v : V} (h : flatM m = true) (r : RV K g H m v) : RV K g' H' m v := by
  cases r with
  | non => exact .non
  | bl b => exact .bl b
  | int i => exact .int i
  | str s => exact .str s
  | _ => cases h
def spL (K : Kf) (n m : Nat) (F : List MV → MH → Res MV) : Sp := fun vs H Q E => vs.length = m ∧ ∀ os, spM K n F vs (Xc.lk H os) (fun v H' => Q v (Xc.ul H H')) (fun _ _ _ => False)
theorem rd_pure {K : Kf} {fs : OM} {dvs : List V} (hd : ∀ g H, RVs K g H dms dvs) (σ : L2.St) (H : Hp) (Q : VK) (h : rdE K W (pureE n F dms fs) σ H Q) :
    tCallSD (spL K n n F) dvs (WE W) (rdPA K W fs) σ H Q := by
  obtain ⟨g, σm, hm, rl, R, p⟩ := h
  refine ⟨g, σm, hm, rl, R, (Post.bind rl p).mono fun ms g' hm' H' e q vs rv => ?_⟩
  have q : Post K W g' hm' σ H' (if (ms ++ dms).length = n then pureF F (ms ++ dms) hm' else .no) fun m g' _ H' => ∀ v, RV K g' H' m v → Q v H' := q
  by_cases c : (ms ++ dms).length = n
  · rw [if_pos c] at q
    have rv2 := RPs.append rv (RPs.ofV (hd g' H'))
    unfold pureF at q
    cases c2 : allM (der40 hm') (ms ++ dms) with
    | none => rw [c2] at q; exact q.elim
    | some ds =>
      rw [c2] at q
      refine ⟨by rw [← rv2.length]; exact c, fun os => ?_⟩
      have rv3 := ders_rp (os := os) e.rel 40 rv2 c2
      refine ⟨by rw [← rv2.length]; exact c, g'.all H', hm'.emp, ds, e.rel.allk os, rv3, ?_⟩
      show Post K _ _ _ [] _ _ _
      cases r : F ds hm'.emp with
      | ex c1 m h2 => simp only [r] at q; exact q.elim
      | no => simp only [r] at q; exact q.elim
      | ok m h2 =>
        simp only [r] at q
        by_cases cf : flatM m = true
        · rw [if_pos cf] at q
          exact fun g2 H2 e2 v rv => q g' _ (e2.backk e.rel) v (flat_any cf rv)
        · rw [if_neg cf] at q
          exact q.elim
  · rw [if_neg c] at q
    exact q.elim
theorem se_pure {fs : OM} (G : FnS X.prog X.w X.K X.mg X.base k x n dms F) (hr : Room k X.A) (tk : Takes X W) (hg : Gl X x) (hdb : (x == ("__debug__" : Str)) = false) (ha : PA X (e :: es) (rdPA X.K W fs))
    (he : starEach (e :: es) X.env = (false, eval e X.env) :: starEach es X.env := by rfl) (hpl : (backTo pos (starEach es X.env)).any (·.1) = false := by rfl) :
    PE X (.Call (.Name x p) (e :: es) [] pos) (rdE X.K W (pureE n F dms fs)) := by
  obtain ⟨f, fd, ps, a, b, c, ds, dvs, hb, hd, hdm⟩ := G.ex
  have c' := Xc.FnOk.lock c
  have c'' : FnOk X.prog X.w X.K X.mg X.base (L2.CX X.prog X.w) k f fd ps (spL X.K n n F) := ⟨fun vs H Q E q => by
      obtain ⟨h1, h2⟩ := q
      have z := (h2 fun _ => { cls := .none, data := .plain })
      exact c.len _ _ _ _ z, fun A outer s H args us vs Q E hr he hb hv q => c'.run A outer s H args us vs Q E hr he hb hv ⟨by
      have z := (q.2 fun _ => { cls := .none, data := .plain })
      exact c.len _ _ _ _ z, q.2⟩⟩
  exact imp_e (pe_callSD c'' hr hg a b hb hd (fun σ => passAt tk σ) ha hdb he hpl) (rd_pure hdm)
theorem Cn.pure {P : Program} {w : World} {K : Kf} {mg : Str → Option Value} {base : Heap} {N : List Str} {sc : Scope} {own : Str → Bool} {j : Nat} {fs : OM} (J : Cn X P w K mg base N sc own k) (tk : Takes X W) (G : FnS P w K mg base j x n dms F) (hj : j ≤ k) (g : NmG X x) (ha : PA X (e :: es) (rdPA X.K W fs))
    (he : starEach (e :: es) X.env = (false, eval e X.env) :: starEach es X.env := by rfl) (hpl : (backTo pos (starEach es X.env)).any (·.1) = false := by rfl) :
    PE X (.Call (.Name x p) (e :: es) [] pos) (rdE X.K W (pureE n F dms fs)) := se_pure (J.fns G) (J.room.mono hj) tk g.gl g.db ha he hpl
end
end Mi
end P_M21
section P_M22
set_option Elab.async false
set_option linter.all false
set_option maxRecDepth 100000
set_option maxHeartbeats 4000000
/-! M22: own exceptions: raised, caught and kept, asked for their class and their value -/
namespace Mi
open PySem PySem.Spec PyProof.Rows L2
/-! ### what the written part says of an own exception class -/
def oxB (K : Kf) (C : Addr) : Bool := match K.lookup C with
  | some ⟨.type "type", _, .cls cd, sl⟩ => (match cd.mro, sl.toList with
    | .ref C' :: bm, [_, _, _, _, some (.builtin n), _] => C' == C && n == "ValueError.__new__" && !cd.hasDel && cd.hasDict && PySem.HandSPX.refsVE bm
    | _, _ => false)
  | _ => false
theorem oxB_ok {K : Kf} {C : Addr} (h : oxB K C = true) : ∃ nm q N bs bm sn sub ab col dd k0 k1 k2 k3 k5, K.lookup C = some (excClassObj nm q C N bs bm true sn sub ab col dd k0 k1 k2 k3 k5 "ValueError.__new__") ∧ PySem.HandSPX.refsVE bm = true := by
  unfold oxB at h
  split at h
  · rename_i dd cd sl ho
    split at h
    · rename_i C' bm k0 k1 k2 k3 n k5 hm hs
      simp only [Bool.and_eq_true, beq_iff_eq, Bool.not_eq_true'] at h
      obtain ⟨⟨⟨⟨rfl, rfl⟩, hdel⟩, hdi⟩, ht⟩ := h
      obtain ⟨nm, bs, mro, ns, qn, hd, sn, sub, ab, col, del⟩ := cd
      dsimp only at hm hdel hdi
      subst hm hdel hdi
      have hsl : sl = #[k0, k1, k2, k3, some (.builtin "ValueError.__new__"), k5] := by
        obtain ⟨l⟩ := sl
        simp only at hs
        rw [hs]
      subst hsl
      exact ⟨nm, qn, ns, bs, bm, sn, sub, ab, col, dd, k0, k1, k2, k3, k5, ho, ht⟩
    · cases h
  · cases h
def ocB (K : Kf) (C : Addr) : Bool := oxB K C && (He.eqO (PySem.W.findIn K (.ref C) "__setattr__") (some (some (.builtin "object.__setattr__"))) && (decide (PySem.W.subIn K (.ref C) (.type "BaseException") = some true) && (decide (PySem.W.typeIn K (.ref C) = some (.type "type")) && PySem.W.keepIn K (.ref C))))
theorem ocB_ok {K : Kf} {C : Addr} (h : ocB K C = true) : OexC K C := by
  obtain ⟨h1, h⟩ := He.ba h
  obtain ⟨h2, h⟩ := He.ba h
  obtain ⟨h3, h⟩ := He.ba h
  obtain ⟨h4, h5⟩ := He.ba h
  exact ⟨oxB_ok h1, He.eqO_ok h2, of_decide_eq_true h3, of_decide_eq_true h4, h5⟩
def ecB (K : Kf) (D : Addr) : Bool := He.eqO (PySem.W.findIn K (.ref D) "__getattribute__") (some (some (.builtin "BaseException.__getattribute__"))) && (He.eqO (PySem.W.findIn K (.ref D) "__getattr__") (some none) && (decide (PySem.W.subIn K (.ref D) (.type "BaseException") = some true) &&
  (PySem.W.hasDictIn K D && (He.eqO (PySem.W.findIn K (.ref D) "__class__") (some (some (.builtin "object.__class__"))) && (decide (PySem.W.specialIn K (.builtin "object.__class__") "__get__" = some (some (.builtin "getset_descriptor.__get__"))) &&
  (decide (PySem.W.takesIn K (.builtin "object.__class__") = some true) && decide (PySem.W.mroIn K D (.type "object") = some true)))))))
theorem ecB_ok {K : Kf} {D : Addr} (h : ecB K D = true) : ExcC K D := by
  obtain ⟨h1, h⟩ := He.ba h
  obtain ⟨h2, h⟩ := He.ba h
  obtain ⟨h3, h⟩ := He.ba h
  obtain ⟨h4, h⟩ := He.ba h
  obtain ⟨h5, h⟩ := He.ba h
  obtain ⟨h6, h⟩ := He.ba h
  obtain ⟨h7, h8⟩ := He.ba h
  exact ⟨He.eqO_ok h1, He.eqO_ok h2, of_decide_eq_true h3, h4, He.eqO_ok h5, of_decide_eq_true h6, of_decide_eq_true h7, of_decide_eq_true h8⟩
/-- an own exception class with an own __init__ that stores its value -/
def exB (K : Kf) (c : Str) : Bool := ocB K (He.ga K c) && (ecB K (He.ga K c) && (He.eqO (PySem.W.findIn K (.ref (He.ga K c)) "value") (some none) && (He.eqO (PySem.W.findIn K (.ref (He.ga K c)) "__init__") (some (some (.ref (He.ma K (He.ga K c) "__init__")))) &&
  (decide (PySem.W.typeIn K (.ref (He.ma K (He.ga K c) "__init__")) = some (.type "function")) && PySem.W.hasDictIn K (He.ga K c)))))
/-- a table of classes, told whether they are below the class c -/
def exmT (K : Kf) (c : Str) (tab : List (Str × Bool)) : Bool := tab.all fun p => decide (PySem.W.exmOne K (.ref (He.ga K p.1)) (.ref (He.ga K c)) = some p.2)
def kitT (K : Kf) (c : Str) (tab : List (Str × Bool)) : Bool := tab.all fun p => decide (PySem.W.kitOne K (.ref (He.ga K p.1)) (.ref (He.ga K c)) = some p.2)
theorem lookup_mem {α β : Type} [BEq α] [LawfulBEq α] {c : α} {b : β} : ∀ {l : List (α × β)}, l.lookup c = some b → (c, b) ∈ l
  | [], h => nomatch h
  | (x, y) :: l, h => by
    unfold List.lookup at h
    split at h
    · rename_i e
      cases h
      rw [beq_iff_eq.mp e]
      exact List.mem_cons_self
    · exact List.mem_cons_of_mem _ (lookup_mem h)
theorem exmT_ok {K : Kf} {c x : Str} {tab : List (Str × Bool)} {b : Bool} (h : exmT K c tab = true) (e : tab.lookup x = some b) : PySem.W.exmOne K (.ref (He.ga K x)) (.ref (He.ga K c)) = some b :=
  of_decide_eq_true (List.all_eq_true.mp h _ (lookup_mem e))
theorem kitT_ok {K : Kf} {c x : Str} {tab : List (Str × Bool)} {b : Bool} (h : kitT K c tab = true) (e : tab.lookup x = some b) : PySem.W.kitOne K (.ref (He.ga K x)) (.ref (He.ga K c)) = some b :=
  of_decide_eq_true (List.all_eq_true.mp h _ (lookup_mem e))

/-! ### __init__ -/
def spI (K : Kf) : Sp := fun vs H Q _ => ∃ (a C : Addr) (v : V), vs = [.ref a, v] ∧ OexC K C ∧ PySem.W.findIn K (.ref C) "value" = some none ∧ H a = some (exo a C none) ∧
  ∀ dx, H dx = none → dx ≠ a → Q .non (upd (upd H dx (exd dx [("value", v)])) a (exo a C (some dx)))
structure ExS (P : Program) (w : World) (K : Kf) (mg : Str → Option Value) (base : Heap) (k : Nat) (c : Str) : Prop where
  ox : OexC K (He.ga K c)
  ec : ExcC K (He.ga K c)
  mgc : mg c = some (.ref (He.ga K c))
  no : PySem.W.findIn K (.ref (He.ga K c)) "value" = some none
  ini : ∃ fI fd ps, PySem.W.findIn K (.ref (He.ga K c)) "__init__" = some (some (.ref fI)) ∧ PySem.W.typeIn K (.ref fI) = some (.type "function") ∧ FnOk P w K mg base (L2.CX P w) k fI fd ps (spI K) ∧ Binds K fd ps []
section
variable {fa : List He.Fa} {fn : List He.DefD} {ex : Kf → Bool} {K : Kf} {mg : Str → Option Value} {P : Program} {w : World} {base : Heap} {d : He.DefD} {c : Str} {k : Nat}
theorem Md.exc (M : Md fa fn ex K mg) (i : Nat) (hd : fn[i]? = some d) (hat : d.at_ = (c, some ("__init__" : Str))) (hx : exB K c = true) (hm : mg c = some (.ref (He.ga K c))) (S : FnScope ["self", "value"] ["self", "value"] d.scope)
    (hb : ∀ fd, FunD K d.name d.qual d.params d.body d.scope (d.dvs K) (d.kws K) (He.fAd K d.at_) fd → BindD K fd ["self", "value"] [])
    (hbody : ∀ (X : Cx), Cn X P w K mg base ["self", "value"] d.scope (fun _ => true) k → PSs X d.body (tOst X.K "value" (tVar 0) (tVar 1))) : ExS P w K mg base (k + 1) c := by
  obtain ⟨fd, F⟩ := M.d.def_ i hd
  obtain ⟨h1, h⟩ := He.ba hx
  obtain ⟨h2, h⟩ := He.ba h
  obtain ⟨h3, h⟩ := He.ba h
  obtain ⟨h4, h⟩ := He.ba h
  obtain ⟨h5, h6⟩ := He.ba h
  have e : He.fAd K d.at_ = He.ma K (He.ga K c) "__init__" := by rw [hat] <;> rfl
  obtain ⟨ds, dvs, b1, b2, b3⟩ := hb fd F
  have e0 : dvs = [] := by cases b3 ⟨fun _ => False, fun _ => 0, 0⟩ (fun _ => none); rfl
  subst e0
  cases b2
  rw [e] at F
  refine ⟨ocB_ok h1, ecB_ok h2, hm, He.eqO_ok h3, _, fd, _, He.eqO_ok h4, of_decide_eq_true h5, ?_, b1⟩
  refine FunD.ok F S (fun vs H Q E ⟨a, C, v, e, _⟩ => by rw [e]; rfl) fun cdv A outer s H vs Q E hr h => ?_
  refine ⟨_, hbody (cxOf (L2.CX P w) P w K mg base ["self", "value"] d.qual d.scope (He.ma K (He.ga K c) "__init__") cdv A outer s H E) ⟨rfl, rfl, rfl, rfl, rfl, rfl, rfl, rfl, fun _ _ => rfl, hr, S.nd⟩, ?_⟩
  obtain ⟨a, C, v, rfl, T, hno, ha, q⟩ := h
  exact ⟨v, rfl, .ref a, rfl, a, C, rfl, T, hno, .inl ⟨ha, fun dx n ne => q dx n ne⟩⟩
theorem ExS.mono {j : Nat} (E : ExS P w K mg base j c) (l : j ≤ k) : ExS P w K mg base k c := by
  obtain ⟨fI, fd, ps, a, b, f, g⟩ := E.ini
  exact ⟨E.ox, E.ec, E.mgc, E.no, fI, fd, ps, a, b, f.mono l, g⟩
end

/-! ### raise -/
def raiseS (c : Str) (f : EM) : SM := bindS f fun m σ h => .ex c m σ h
section
variable {X : Cx} {P : Program} {w : World} {K : Kf} {mg : Str → Option Value} {base : Heap} {N : List Str} {sc : Scope} {own : Str → Bool} {k j : Nat} {W : WX} {c : Str} {e : Expr} {p pos pos1 : Pos}
theorem rd_raise {K : Kf} {C : Addr} (hC : C = He.ga K c) (T : OexC K C) (hno : PySem.W.findIn K (.ref C) "value" = some none) {f : EM} (D : Ends) (σ : L2.St) (H : Hp) (h : rdS K W (raiseS c f) D σ H) :
    tMkO C (spI K) [] (tCons (rdE K W f) tNil) σ H fun cls d H' => W cls d σ H' := by
  obtain ⟨B, g, hm, σm, s, p⟩ := h
  refine ⟨g, σm, hm, s.rel, s.en, Post.toE (k := fun m h => .ex c m σm h) s _ rfl p fun m g' hm' H' e q v rv => ?_⟩
  refine ⟨by simp, fun a ha => ⟨a, C, v, rfl, T, hno, upd_same, fun dx hdx ne => ⟨rfl, dx, [("value", v)], upd_same, by rw [upd_ne ne]; exact upd_same, ?_, ?_⟩⟩⟩
  · rw [upd_ne ne] at hdx; exact hdx
  · have hdx' : H' dx = none := by rw [upd_ne ne] at hdx; exact hdx
    have eh : upd (del (upd (upd (upd H' a (exo a C none)) dx (exd dx [("value", v)])) a (exo a C (some dx))) a) dx (.xd [("value", v)]) = upd H' dx (.xd [("value", v)]) := by
      funext b
      by_cases hb : b = dx
      · rw [hb, upd_same, upd_same]
      · rw [upd_ne hb, upd_ne hb]
        by_cases hba : b = a
        · rw [hba, del_same, ha]
        · rw [del_ne hba, upd_ne hba, upd_ne hb, upd_ne hba]
    rw [eh]
    have e2 := Ext.fz e.rel (p := dx) (o := .xd [("value", v)]) hdx'
    exact q (g'.fz dx) _ σ (.ref C) (some dx) ((s.ext e).ext e2) ⟨by rw [hC], .inl ⟨dx, v, rfl, .inr rfl, upd_same, rv.up (e2.up e.rel)⟩⟩
theorem ss_raise {f : EM} (J : Cn X P w K mg base N sc own k) (tk : Takes X W) (E : ExS P w K mg base j c) (hj : j + 1 ≤ k) (g : NmG X c) (ha : PE X e (rdE X.K W f))
    (he : starEach [e] X.env = (false, eval e X.env) :: starEach [] X.env := by rfl) (hpl : (backTo pos1 (starEach [] X.env)).any (·.1) = false := by rfl) :
    PS X (.Raise (some (.Call (.Name c p) [e] [] pos1)) none pos) (rdS X.K W (raiseS c f)) := by
  obtain ⟨fI, fd, ps, a, b, F, B⟩ := E.ini
  have hK := J.eK
  have F' : FnOk X.prog X.w X.K X.mg X.base (L2.CX X.prog X.w) j fI fd ps (spI X.K) := by rw [J.ep, J.ew, J.eK, J.em, J.eb]; exact F
  have T' : OexC X.K (He.ga K c) := by rw [hK]; exact E.ox
  refine imp_s (ps_raise J.calm tk (pmk_oex (ds := []) (dvs := []) T' (by rw [hK]; exact a) (by rw [hK]; exact b) F' (J.room.mono hj) (by rw [hK]; exact B) .nil (passes_call tk fun _ _ _ _ z => z.elim) g.gl (by rw [J.em]; exact E.mgc) (pa_cons ha pa_nil he) g.db he hpl)) fun D σ H h => ?_
  exact rd_raise (by rw [hK]) T' (by rw [hK]; exact E.no) D σ H h
end

/-! ### try .. except C as n: m = n -/
structure Frm (X : Cx) : Prop where
  stk : X.stack = X.env :: X.outer
  frm : X.env.frame = some X.env.locals
def tryS (tab : List (Str × Bool)) (i j : Nat) (b : SM) : SM := fun σ h => match b σ h with
  | .ex c v σ' h' => (match tab.lookup c with
    | some true => if i < σ'.length then .nx ((σ'.set j (.val (.exc c v))).set i .un) h' else .no
    | some false => .ex c v σ' h'
    | none => .no)
  | r => r
section
variable {X : Cx} {P : Program} {w : World} {K : Kf} {mg : Str → Option Value} {base : Heap} {N : List Str} {sc : Scope} {own : Str → Bool} {k i j : Nat} {W : WX} {c n m : Str} {np p1 p2 p3 pos pos' : Pos} {body : List Stmt} {b : SM}
theorem Cn.tr (J : Cn X P w K mg base N sc own k) (pn : List (Addr × Obj)) (xe : Value → Shared → Prop) : Cn (X.tr pn xe) P w K mg base N sc own k := ⟨J.ep, J.ew, J.eK, J.em, J.eb, J.eN, J.es, J.calm, J.fn, J.room, J.nd⟩
theorem rd_try {tab : List (Str × Bool)} (hne : i ≠ j) (ht : exmT K c tab = true) (D : Ends) (σ : L2.St) (H : Hp) (h : rdS K W (tryS tab i j b) D σ H) :
    rdS K (Xc.wKp K (.ref (He.ga K c)) i (fun a cls d D σ H => ∃ v, σ[i]? = some (some v) ∧ D.nx (σ.set j (some v)) H) W D) b D σ H := by
  obtain ⟨B, g, hm, σm, s, p⟩ := h
  refine ⟨B, g, hm, σm, s, ?_⟩
  unfold tryS at p
  cases q : b σm hm with
  | nx σ1 h1 => rw [q] at p; exact p
  | rt v h1 => rw [q] at p; exact p
  | bk σ1 h1 => rw [q] at p; exact p
  | ct σ1 h1 => rw [q] at p; exact p
  | no => rw [q] at p; exact p
  | ex c1 v σ1 h1 =>
    rw [q] at p
    simp only at p
    intro g1 H1 σ2 cls d s1 x
    cases t : tab.lookup c1 with
    | none => rw [t] at p; exact p.elim
    | some bb =>
      rw [t] at p
      obtain ⟨rfl, x⟩ := x
      refine ⟨bb, exmT_ok ht t, fun hb a ha => ?_, fun hb => ?_⟩
      · subst hb
        simp only at p
        by_cases hi' : i < σ1.length
        · rw [if_pos hi'] at p
          have hi : i < σ2.length := by rw [← s1.en.len]; exact hi'
          refine ⟨.ref a, List.getElem?_set_self hi, ha, ?_⟩
          have e2 := Ext.fz s1.rel (p := a) (o := Xc.xc (.ref (He.ga K c1)) a d) ha
          have s2 := s1.ext e2
          have rv : RV K (g1.fz a) (upd H1 a (Xc.xc (.ref (He.ga K c1)) a d)) (.exc c1 v) (.ref a) := by
            rcases x with ⟨dd, u, rfl, f, hd, r⟩ | ⟨rfl, rfl⟩
            · exact .exc (.inr rfl) upd_same (.inl f) (by rw [upd_ne (ne_of_none hd ha)]; exact hd) (r.up (e2.up s1.rel))
            · exact .exc0 (.inr rfl) upd_same
          have s3 := (s2.set_val j rv).set_un i none
          have es : ((σ2.set i (some (V.ref a))).set j (some (V.ref a))).set i none = (σ2.set j (some (V.ref a))).set i none := by
            rw [List.set_comm _ _ hne, List.set_set]
          rw [es]
          exact p _ _ _ s3
        · rw [if_neg hi'] at p
          exact p.elim
      · subst hb
        exact p g1 H1 σ2 _ d s1 ⟨rfl, x⟩
end
end Mi
end P_M22
section P_M23
set_option Elab.async false
set_option linter.all false
set_option maxRecDepth 100000
set_option maxHeartbeats 4000000
/-! M23: try with the exception kept; isinstance of an own class; e.value; methods of built-in types, also those that change an object -/
namespace Mi
open PySem PySem.Spec PyProof.Rows L2
section
variable {X : Cx} {P : Program} {w : World} {K : Kf} {mg : Str → Option Value} {base : Heap} {N : List Str} {sc : Scope} {own : Str → Bool} {k i j : Nat} {W : WX} {c n m : Str} {np p1 p2 p3 pos pos' : Pos} {body : List Stmt} {b : SM}
theorem ss_try {tab : List (Str × Bool)} (F : Frm X) (J : Cn X P w K mg base N sc own k) (tk : Takes X W) (hne : i ≠ j) (nn : NmA X n i) (nv : NmV X n i) (hln : sc.names.lookup n = some .local) (nm : NmA X m j) (hlm : sc.names.lookup m = some .local) (g : NmG X c) (hmc : mg c = some (.ref (He.ga K c))) (ht : exmT K c tab = true)
    (hb : ∀ X' : Cx, Cn X' P w K mg base N sc own k → PassesOwn (model X'.prog X'.w) X'.A X'.env X'.xe → ∀ W', Takes X' W' → PSs X' body (rdS X'.K W' b))
    (hs : swapsWith (.Name n p2) (some (.Name m p1)) p3.line X.env = pure false := by rfl) :
    PS X (.Try body [.ExceptHandler (some (.Name c np)) (some n) [.Assign [.Name m p1] (.Name n p2) p3] pos'] [] [] pos) (rdS X.K W (tryS tab i j b)) := by
  have hK := J.eK
  have hl : X.env.kindOf n = some .local := by
    have := J.es
    show X.env.scope.names.lookup n = some .local
    rw [this]; exact hln
  have hlm' : X.env.scope.names.lookup m = some .local := by rw [J.es]; exact hlm
  refine imp_s (Xc.ps_try_keep (tb := fun W' => rdS X.K W' b) (ts := fun a cls d D σ H => ∃ v, σ[i]? = some (some v) ∧ D.nx (σ.set j (some v)) H) (c := .ref (He.ga K c)) F.stk F.frm nn.nd nn.ix hl
    ⟨g.gl, g.db, .inl (by rw [J.em]; exact hmc)⟩ tk (fun W' pn xe tk' hp => hb (X.tr pn xe) (J.tr pn xe) hp W' tk') (fun a oe cls d pn hz hf => ?_)) fun D σ H h => ?_
  · exact pss_one (ps_set (X := X.suite a ((a, oe) :: pn)) nm.nd nm.ix nm.loc (pe_var (X := X.suite a ((a, oe) :: pn)) nv.ix nv.vis nv.d1 nv.d2) hs (.inr hlm'))
  · have z := rd_try (K := X.K) hne (by rw [hK]; exact ht) D σ H h
    rw [hK] at z ⊢
    exact z
end

/-! ### isinstance(x, C), C an own class -/
inductive TyY (K : Kf) (H : Hp) : V → Value → Prop where
  | base {x : V} {t : Value} (h : TyZ K H x t) : TyY K H x t
  | exc {a D : Addr} {d : Option Addr} (e : H a = some (Xc.xc (.ref D) a d)) (hd : ∀ dd, d = some dd → ∃ fs, H dd = some (.xd fs)) (c : ExcC K D) : TyY K H (.ref a) (.ref D)
theorem inst_xc {X : Cx} {pins : List (Addr × Obj)} {σ : L2.St} {H : Hp} {s : Shared} {a D : Addr} {d : Option Addr} (I : Inv X pins σ H s) (e : H a = some (Xc.xc (.ref D) a d)) (hd : ∀ dd, d = some dd → ∃ fs, H dd = some (.xd fs)) :
    ∃ oe od, PySem.W.InstAt s.heap a oe D od ∧ oe.dict = d := by
  obtain ⟨oe, h1, h2, h3, vs, h4⟩ := Xc.xc_at I.hok e
  obtain ⟨oc, od, oda, osl⟩ := oe
  dsimp only at h2 h3 h4
  subst h2 h3 h4
  cases od with
  | none => exact ⟨_, none, ⟨h1, rfl, rfl, trivial⟩, rfl⟩
  | some dd =>
    obtain ⟨fs, hx⟩ := hd dd rfl
    obtain ⟨mA, ⟨o, es, ep, e1, e2⟩, _⟩ := (show ObjOk X.prog X.w H s.heap dd (.xd fs) from I.hok dd _ hx)
    exact ⟨_, some o, ⟨h1, rfl, rfl, e1⟩, rfl⟩
def rIsY (K : Kf) : List V → Hp → VK → Prop := fun xs H Q => ∃ (x c : V) (t u : Value) (b : Bool), xs = [x, c] ∧ (∀ v, RelV c v → v = u) ∧ TyY K H x t ∧ PySem.W.kitOne K t u = some b ∧ Q (.bl b) H
theorem call_isY {X : Cx} : CallR X (.builtin "isinstance") (rIsY X.K) := by
  intro pins s σ H xs us Q I r h
  obtain ⟨x, c, t, u, b, rfl, hc, ty, e, q⟩ := h
  obtain ⟨u1, u2, rfl, r1, r2⟩ := vals2 r
  have e2 := hc _ r2
  subst e2
  cases ty with
  | base ty =>
    obtain ⟨P, Z, p, hx⟩ := kit_ofZ I r1 ty
    exact PySem.W.kia_one Z I.kIn p e hx fun tk => ⟨.bl b, H, I.tok tk, rfl, q⟩
  | exc ea hd C =>
    rename_i a D d
    cases (show u1 = Value.ref a from r1)
    obtain ⟨oe, od, J, _⟩ := inst_xc I ea hd
    have hcl : (PySem.W.clsIn X.K D).isSome = true := by
      have := C.hd
      unfold PySem.W.hasDictIn at this
      cases q : PySem.W.clsIn X.K D with
      | none => rw [q] at this; cases this
      | some cd => rfl
    exact PySem.W.kia_one (PySem.W.kitx_exc hcl C.hg C.hk C.hs C.ha C.hn C.ht C.hm) I.kIn J e (fun z => nomatch z) fun tk => ⟨.bl b, H, I.tok tk, rfl, q⟩
/-- an own class's instances may be asked for their class -/
def clB (K : Kf) (c : Str) : Bool := PySem.W.plainGet K (He.ga K c) Str.empty && (PySem.W.hasDictIn K (He.ga K c) && (PySem.W.plainOver K (He.ga K c) && (He.eqO (PySem.W.findIn K (.ref (He.ga K c)) "__setattr__") (some (some (.builtin "object.__setattr__"))) &&
  (He.eqO (PySem.W.findIn K (.ref (He.ga K c)) "__class__") (some (some (.builtin "object.__class__"))) && (decide (PySem.W.specialIn K (.builtin "object.__class__") "__get__" = some (some (.builtin "getset_descriptor.__get__"))) &&
  (decide (PySem.W.takesIn K (.builtin "object.__class__") = some true) && decide (PySem.W.mroIn K (He.ga K c) (.type "object") = some true)))))))
/-- what isinstance(x, c) asks: the classes whose instances may come, and the answer for each; the built-in types: never -/
structure IsT (K : Kf) (c : Str) (ex ins : List (Str × Bool)) : Prop where
  ty : ∀ t : Ty, PySem.W.kitOne K (.type t.s) (.ref (He.ga K c)) = some false
  ex : ∀ d b, ex.lookup d = some b → ExcC K (He.ga K d) ∧ PySem.W.kitOne K (.ref (He.ga K d)) (.ref (He.ga K c)) = some b
  ins : ∀ d b, ins.lookup d = some b → clB K d = true ∧ PySem.W.kitOne K (.ref (He.ga K d)) (.ref (He.ga K c)) = some b
def isTB (K : Kf) (c : Str) (ex ins : List (Str × Bool)) : Bool := ([.non, .bool, .int, .str, .tuple, .list, .dict] : List Ty).all (fun t => decide (PySem.W.kitOne K (.type t.s) (.ref (He.ga K c)) = some false)) &&
  ((ex.all fun p => ecB K (He.ga K p.1) && decide (PySem.W.kitOne K (.ref (He.ga K p.1)) (.ref (He.ga K c)) = some p.2)) && ins.all fun p => clB K p.1 && decide (PySem.W.kitOne K (.ref (He.ga K p.1)) (.ref (He.ga K c)) = some p.2))
theorem isTB_ok {K : Kf} {c : Str} {ex ins : List (Str × Bool)} (h : isTB K c ex ins = true) : IsT K c ex ins := by
  obtain ⟨h1, h⟩ := He.ba h
  obtain ⟨h2, h3⟩ := He.ba h
  refine ⟨fun t => of_decide_eq_true (List.all_eq_true.mp h1 t (by cases t <;> simp)), fun d b e => ?_, fun d b e => ?_⟩
  · obtain ⟨a1, a2⟩ := He.ba (List.all_eq_true.mp h2 _ (lookup_mem e))
    exact ⟨ecB_ok a1, of_decide_eq_true a2⟩
  · obtain ⟨a1, a2⟩ := He.ba (List.all_eq_true.mp h3 _ (lookup_mem e))
    exact ⟨a1, of_decide_eq_true a2⟩
def isCM (ex ins : List (Str × Bool)) : MH → MV → Option MV := fun hm x => match x with
  | .exc d _ => (ex.lookup d).map .bl
  | x => (match tyM hm x with
    | some _ => some (.bl false)
    | none => (match x with
      | .ref n => (match hm.get n with
        | some (.ins d _) => (ins.lookup d).map .bl
        | _ => none)
      | _ => none))
theorem tyY_of {K : Kf} {g : Gh} {hm : MH} {H : Hp} {c : Str} {ex ins : List (Str × Bool)} {x m : MV} {v : V} (T : IsT K c ex ins) (rl : Rel K g hm H) (r : RP K g hm H x v) (e : isCM ex ins hm x = some m) :
    ∃ t b, TyY K H v t ∧ PySem.W.kitOne K t (.ref (He.ga K c)) = some b ∧ m = .bl b := by
  unfold isCM at e
  split at e
  · rename_i d y
    obtain ⟨b, h1, rfl⟩ := map_some e
    obtain ⟨a1, a2⟩ := T.ex d b h1
    refine ⟨.ref (He.ga K d), b, ?_, a2, rfl⟩
    cases r with
    | of r => cases r with
      | exc f h f2 h2 rs => exact .exc h (fun dd e => by cases e; exact ⟨_, h2⟩) a1
      | exc0 f h => exact .exc h (fun dd e => by cases e) a1
  · split at e
    · rename_i t ht
      cases e
      exact ⟨.type t.s, false, .base (tyX_of rl r ht), T.ty t, rfl⟩
    · split at e
      · split at e
        · rename_i d fs hg
          obtain ⟨b, h1, rfl⟩ := map_some e
          obtain ⟨a1, a2⟩ := T.ins d b h1
          obtain ⟨c1, a1⟩ := He.ba a1
          obtain ⟨c2, a1⟩ := He.ba a1
          obtain ⟨c3, a1⟩ := He.ba a1
          obtain ⟨c4, a1⟩ := He.ba a1
          obtain ⟨c5, a1⟩ := He.ba a1
          obtain ⟨c6, a1⟩ := He.ba a1
          obtain ⟨c7, c8⟩ := He.ba a1
          obtain ⟨dx, vs, h2, _⟩ := rl.ob _ _ hg
          refine ⟨.ref (He.ga K d), b, ?_, a2, rfl⟩
          rw [r.ref_inv]
          exact .base (.base (.base (.ins h2 ⟨c1, c2, c3, He.eqO_ok c4⟩ (He.eqO_ok c5) (of_decide_eq_true c6) (of_decide_eq_true c7) (of_decide_eq_true c8))))
        · cases e
      · cases e
section
variable {X : Cx} {W : WX} {a : Expr} {x c : Str} {p pp pos : Pos} {ex ins : List (Str × Bool)} {fa : EM}
theorem se_isC (n : NmB X x (.builtin "isinstance")) (g : NmG X c) (hm : X.mg c = some (.ref (He.ga X.K c))) (T : IsT X.K c ex ins) (ha : PE X a (rdP X.K W fa))
    (hs : starEach [a, .Name c pp] X.env = (false, eval a X.env) :: starEach [.Name c pp] X.env := by rfl) :
    PE X (.Call (.Name x p) [a, .Name c pp] [] pos) (rdE X.K W (un1 (isCM ex ins) fa)) := by
  have h2 : PE X (.Name c pp) (tC (.ref (He.ga X.K c))) := pe_glob g.gl hm rfl g.db
  refine imp_e (pe_callB call_isY n.gl n.mg n.bt (pa_cons ha (pa_cons h2 pa_nil) hs) n.nn n.db hs) fun σ H Q h =>
    rdP_mono (Mid.start h).step fun vx H1 ⟨x, c0⟩ => ?_
  obtain ⟨g', σm, hm', rl, R, ps, p⟩ := c0
  cases ps with
  | cons px ps =>
    have p : Post X.K W g' hm' σ H1 (optR (isCM ex ins hm' x) hm') fun m g' _ H' => ∀ v, RV X.K g' H' m v → Q v H' := p
    cases e : isCM ex ins hm' x with
    | none => rw [e] at p; exact p.elim
    | some m =>
      rw [e] at p
      obtain ⟨t, b, ty, hk, rfl⟩ := tyY_of T rl px e
      exact ⟨vx, .ref (He.ga X.K c), t, _, b, rfl, fun v r => r, ty, hk, p g' H1 (.refl rl) _ (.bl _)⟩
end
end Mi
end P_M23
section P_M24
set_option Elab.async false
set_option linter.all false
set_option maxRecDepth 100000
set_option maxHeartbeats 4000000
/-! M24: objects of the small heap put and pushed; e.value; methods of built-in types -/
namespace Mi
open PySem PySem.Spec PyProof.Rows L2
section
variable {K : Kf} {g g' : Gh} {hm hm' : MH} {H H' : Hp} {a : Addr}
/-- an object is changed -/
theorem Ext.putO (rl : Rel K g hm H) {n : Nat} {o o1 : MO} {ho : HO} (c : hm.get n = some o) (new : RO K g (upd H (g.ρ n) ho) (g.ρ n) o1) : Ext K g hm H g (hm.put n o1) (upd H (g.ρ n) ho) := by
  have hn : hm.get n ≠ none := by rw [c]; exact fun z => nomatch z
  have old : ∀ k, (hm.put n o1).get k ≠ none → hm.get k ≠ none := fun k q => by
    by_cases e : k = n
    · rw [e]; exact hn
    · have q : (if k = n then some o1 else hm.get k) ≠ none := q
      rw [if_neg e] at q
      exact q
  have nf := rl.nf n hn
  have u : Up g H g (upd H (g.ρ n) ho) := Up.wr nf
  have rel : Rel K g (hm.put n o1) (upd H (g.ρ n) ho) := by
    refine ⟨rl.nx, fun k q => rl.lt k (old k q), fun k m q1 q2 => rl.inj k m (old k q1) (old m q2), fun k q => rl.nf k (old k q), fun k o' q => ?_, fun b f => ?_⟩
    · have q : (if k = n then some o1 else hm.get k) = some o' := q
      by_cases e : k = n
      · rw [if_pos e] at q
        cases q
        subst e
        exact new
      · rw [if_neg e] at q
        refine RO.up u (fun w q2 => ?_) (rl.ob k o' q)
        rw [upd_ne (fun z => e (rl.inj k n (by rw [q]; exact fun z => nomatch z) hn z))]
        exact q2
    · rw [upd_ne (fun z => nf (by rw [← z]; exact f))]
      exact rl.fs b f
  refine ⟨Nat.le_refl _, fun _ _ => rfl, fun _ f => f, fun _ f => .inl f, fun b w q l => ?_, fun b q => ?_, fun k h1 h2 => absurd (Nat.lt_of_lt_of_le h2 h1) (Nat.lt_irrefl _), fun k _ q => old k q, rel⟩
  · rw [upd_ne (fun z => l ⟨n, hn, z.symm⟩)]; exact q
  · by_cases c2 : b = g.ρ n
    · rw [c2, upd_same]; intro z; cases z
    · rw [upd_ne c2]; exact q
/-- a new object -/
theorem Ext.pushO (rl : Rel K g hm H) (e : Ext K g hm H g' hm' H') {o1 : MO} (h0 : H a = none) (new : RO K g' H' a o1) (nf : ¬ g'.F a) (nl : ¬ Live g' hm' a) :
    Ext K g hm H (g'.push a) (hm'.push o1) H' ∧ RV K (g'.push a) H' (.ref hm'.nx) (.ref a) := by
  have nx := e.rel.nx
  have ne : hm'.get hm'.nx = none := by
    cases c : hm'.get hm'.nx with
    | none => rfl
    | some o => exact absurd (e.rel.lt _ (by rw [c]; exact fun z => nomatch z)) (Nat.lt_irrefl _)
  have rho : ∀ k, k < g'.N → (g'.push a).ρ k = g'.ρ k := fun k hk => by
    show (if k = g'.N then a else g'.ρ k) = _
    rw [if_neg (by omega)]
  have rhoN : (g'.push a).ρ hm'.nx = a := by
    show (if hm'.nx = g'.N then a else g'.ρ hm'.nx) = _
    rw [if_pos nx.symm]
  have u : Up g' H' (g'.push a) H' := ⟨Nat.le_succ _, rho, fun _ f => f, fun _ _ _ q => q⟩
  have gt : ∀ k o, (hm'.push o1).get k = some o → (k = hm'.nx ∧ o = o1) ∨ (k ≠ hm'.nx ∧ hm'.get k = some o) := fun k o q => by
    have q : (if k = hm'.nx then some o1 else hm'.get k) = some o := q
    by_cases c : k = hm'.nx
    · rw [if_pos c] at q
      cases q
      exact .inl ⟨c, rfl⟩
    · rw [if_neg c] at q
      exact .inr ⟨c, q⟩
  have gn : ∀ k, (hm'.push o1).get k ≠ none → (k = hm'.nx ∧ (g'.push a).ρ k = a) ∨ (k < g'.N ∧ hm'.get k ≠ none ∧ (g'.push a).ρ k = g'.ρ k) := fun k q => by
    cases c : (hm'.push o1).get k with
    | none => exact absurd c q
    | some o =>
      rcases gt k o c with ⟨h1, _⟩ | ⟨h1, h2⟩
      · exact .inl ⟨h1, by rw [h1]; exact rhoN⟩
      · have hk : hm'.get k ≠ none := by rw [h2]; exact fun z => nomatch z
        have lt := e.rel.lt k hk
        rw [← nx] at lt
        exact .inr ⟨lt, hk, rho k lt⟩
  have rel : Rel K (g'.push a) (hm'.push o1) H' := by
    refine ⟨by show g'.N + 1 = hm'.nx + 1; rw [nx], fun k q => ?_, fun k m q1 q2 eq => ?_, fun k q f => ?_, fun k o q => ?_, fun b f => e.rel.fs b f⟩
    · show k < hm'.nx + 1
      rcases gn k q with ⟨h, _⟩ | ⟨h, _⟩
      · omega
      · omega
    · rcases gn k q1 with ⟨e1, r1⟩ | ⟨l1, e1, r1⟩
      · rcases gn m q2 with ⟨e2, r2⟩ | ⟨l2, e2, r2⟩
        · rw [e1, e2]
        · rw [r1, r2] at eq
          exact absurd ⟨m, e2, eq.symm⟩ nl
      · rcases gn m q2 with ⟨e2, r2⟩ | ⟨l2, e2, r2⟩
        · rw [r1, r2] at eq
          exact absurd ⟨k, e1, eq⟩ nl
        · rw [r1, r2] at eq
          exact e.rel.inj k m e1 e2 eq
    · rcases gn k q with ⟨e1, r1⟩ | ⟨l1, e1, r1⟩
      · rw [r1] at f
        exact nf f
      · rw [r1] at f
        exact e.rel.nf k e1 f
    · rcases gt k o q with ⟨e1, rfl⟩ | ⟨e1, e2⟩
      · rw [e1, rhoN]
        exact RO.up u (fun _ q => q) new
      · have hk : hm'.get k ≠ none := by rw [e2]; exact fun z => nomatch z
        have lt := e.rel.lt k hk
        rw [← nx] at lt
        rw [rho k lt]
        exact RO.up u (fun _ q => q) (e.rel.ob k o e2)
  refine ⟨⟨Nat.le_trans e.n (Nat.le_succ _), fun k hk => (rho k (Nat.lt_of_lt_of_le hk e.n)).trans (e.rho k hk), e.f1, e.f2, e.keep, e.stay, fun k h1 h2 => ?_, fun k hk q => ?_, rel⟩, ?_⟩
  · by_cases c : k < g'.N
    · rw [rho k c]; exact e.fresh k h1 c
    · have ek : k = hm'.nx := by
        have h2 : k < g'.N + 1 := h2
        omega
      rw [ek, rhoN]; exact h0
  · rcases gn k q with ⟨e1, _⟩ | ⟨_, e1, _⟩
    · have := e.n
      omega
    · exact e.live k hk e1
  · have z : RV K (g'.push a) H' (.ref hm'.nx) (.ref ((g'.push a).ρ hm'.nx)) := .ref _ (by show hm'.nx < g'.N + 1; omega)
    rw [rhoN] at z
    exact z
end

/-! ### e.value of an own exception -/
def isNoV : MV → Bool
  | .exc c .non => c == Str.empty
  | _ => false
def xvalM (cs : List Str) : MH → MV → Option MV := fun _ x => match x with
  | .exc c m => if cs.contains c = true ∧ isNoV m = false then some m else none
  | _ => none
def xvB (K : Kf) (cs : List Str) : Bool := cs.all fun c => xfB K (He.ga K c) && He.eqO (PySem.W.findIn K (.ref (He.ga K c)) "value") (some none)
section
variable {X : Cx} {W : WX} {e : Expr} {pos : Pos} {fe : EM}
def tXv (K : Kf) (n : Str) (te : TE) : TE := fun σ H Q => te σ H fun x H1 => ∃ (a C dd : Addr) (fs : List (Str × V)) (v : V), x = .ref a ∧ H1 a = some (Xc.xc (.ref C) a (some dd)) ∧ H1 dd = some (.xd fs) ∧ XfC K C ∧ PySem.W.findIn K (.ref C) n = some none ∧ fs.lookup n = some v ∧ Q v H1
theorem pe_xv {te : TE} {n : Str} (he : PE X e te) (hb : attributeBase e n X.env (eval e X.env) = eval e X.env := by rfl) : PE X (.Attribute e n pos) (tXv X.K n te) := by
  refine ⟨fun pins s σ H Q I h => ?_⟩
  refine attr_of hb (thn (he.run pins s σ H _ I h) fun u s1 hh => ?_)
  obtain ⟨x, H1, I1, rx, a, C, dd, fs, v, ex, ea, ed, T, hno, l, q⟩ := hh
  subst ex
  obtain rfl : u = Value.ref a := rx
  obtain ⟨oe, h1, h2, h3, vs, h4⟩ := Xc.xc_at I1.hok ea
  have hx : ObjOk X.prog X.w H1 s1.heap dd (.xd fs) := I1.hok dd _ ed
  obtain ⟨mA, hns, hr⟩ := hx
  obtain ⟨od, ho, hl⟩ := lookIn_ns hns
  obtain ⟨u, hu, ru⟩ := RelO.some_of (v := v) (o := mA n) (by rw [← l]; exact hr n)
  have J : PySem.W.InstAt s1.heap a oe C (some od) := ⟨h1, h2, by unfold PySem.W.notCls; rw [h4] <;> rfl, by rw [h3]; exact ho⟩
  exact HandSPX.exc_get I1.kIn J T.ga T.gg T.exC (PySem.W.findObj_own T.hdC hno rfl (by rw [hl, hu])) (handed_of ru) ⟨v, H1, I1.tok _, ru, q⟩
theorem se_xv {cs : List Str} (ht : xvB X.K cs = true) (he : PE X e (rdE X.K W fe)) (hb : attributeBase e "value" X.env (eval e X.env) = eval e X.env := by rfl) : PE X (.Attribute e "value" pos) (rdE X.K W (un1 (xvalM cs) fe)) :=
  imp_e (pe_xv he hb) fun σ H Q h => by
    obtain ⟨g, σm, hm, rl, R, p⟩ := h
    refine ⟨g, σm, hm, rl, R, (Post.bind rl p).mono fun m g' hm' H' ex q v rv => ?_⟩
    have q2 : Post X.K W g' hm' σ H' (optR (xvalM cs hm' m) hm') fun m g' _ H' => ∀ v, RV X.K g' H' m v → Q v H' := q
    clear q
    cases e1 : xvalM cs hm' m with
    | none => rw [e1] at q2; exact q2.elim
    | some y =>
      rw [e1] at q2
      unfold xvalM at e1
      split at e1
      · rename_i c y'
        split at e1
        · rename_i hc
          cases e1
          obtain ⟨h1, h2⟩ := He.ba (List.all_eq_true.mp ht c (by simpa using hc.1))
          cases rv with
          | exc f h f2 h2' rs =>
            exact ⟨_, _, _, _, _, rfl, h, h2', xfB_ok h1, He.eqO_ok h2, rfl, q2 g' H' (.refl ex.rel) _ rs⟩
          | exc0 f h => cases hc.2
        · cases e1
      · cases e1
end

/-! ### methods of built-in types -/
/-- a value's type, told dicts too -/
def tyG (K : Kf) (T : String) (x : V) (H : Hp) : Prop := tyV K T x H ∨ (T = "dict" ∧ ∃ (p : Addr) (xs : DI.XS), x = .ref p ∧ H p = some (DI.dicO xs p)) ∨ (T = "dict" ∧ ∃ (p : Addr) (o : Obj), x = .ref p ∧ ((∃ kvs, H p = some (.frz o (.dK kvs))) ∨ ∃ kvs, H p = some (.frz o (.dT kvs))))
section
variable {X : Cx} {pins : List (Addr × Obj)} {σ : L2.St} {H : Hp} {s : Shared}
theorem dic_at {P : Program} {w : World} {h : Heap} {p : Addr} {xs : DI.XS} (ok : HOk P w H h) (e : H p = some (DI.dicO xs p)) : DI.DicT xs p h := by
  have x : ObjOk P w H h p (.ext (DI.DicT xs p)) := ok p _ e
  exact x.1
theorem tyG_is {T : String} {x : V} {v : Value} (I : Inv X pins σ H s) (r : RelV x v) (ty : tyG X.K T x H) : s.TypeIs v T ∧ ∀ a, v = .ref a → ∃ ob, s.heap.get? a = some ob ∧ ob.dict = none := by
  rcases ty with ty | ⟨rfl, p, xs, rfl, e⟩ | ⟨rfl, p, o, rfl, ⟨kvs, e⟩ | ⟨kvs, e⟩⟩
  · exact tyV_is I r ty
  · cases (show v = Value.ref p from r)
    obtain ⟨o, es, ep, h1, h2, h3, _⟩ := dic_at I.hok e
    exact ⟨⟨o, h1, h2.1⟩, fun a ea => by cases ea; exact ⟨o, h1, h2.2.1⟩⟩
  · cases (show v = Value.ref p from r)
    obtain ⟨_, _, _, vs, _, o, es, ep, h1, h2, _⟩ := (show ObjOk X.prog X.w H s.heap p (.frz o (.dK kvs)) from I.hok p _ e)
    exact ⟨⟨o, h1, h2.1⟩, fun a ea => by cases ea; exact ⟨o, h1, h2.2.1⟩⟩
  · cases (show v = Value.ref p from r)
    obtain ⟨_, _, _, xs, _, o, es, ep, h1, h2, _⟩ := (show ObjOk X.prog X.w H s.heap p (.frz o (.dT kvs)) from I.hok p _ e)
    exact ⟨⟨o, h1, h2.1⟩, fun a ea => by cases ea; exact ⟨o, h1, h2.2.1⟩⟩
def tBG0 (K : Kf) (T : String) (r : V → List V → Hp → VK → Prop) (to : TE) : TE := fun σ H Q => to σ H fun x H1 => tyG K T x H1 ∧ r x [] H1 Q
def tBG (K : Kf) (T : String) (r : V → List V → Hp → VK → Prop) (to : TE) (t : TA) : TE := fun σ H Q => to σ H fun x H1 => tyG K T x H1 ∧ t σ H1 fun xs H2 => r x xs H2 Q
variable {o e : Expr} {es : List Expr} {to : TE} {t : TA} {name : Str} {apos cpos : Pos} {T id : String} {r : V → List V → Hp → VK → Prop}
theorem pe_bg0 (pa : PlainAttrs T) (slot : Slot T name id) (hty : typeOf (.builtin id) = pure (.type "method_descriptor")) (hm : MtR X id r) (ho : PE X o to)
    (hbase : attributeBase o name X.env (eval o X.env) = eval o X.env := by rfl) (hline : (apos.endLine == cpos.line) = true := by rfl) : PE X (.Call (.Attribute o name apos) [] [] cpos) (tBG0 X.K T r to) := by
  refine ⟨fun pins s σ H Q I h => ?_⟩
  refine wpAny_Call_method0_late hbase hline (thn (ho.run pins s σ H _ I h) fun v s1 ⟨x, H1, I1, r1, ty, q1⟩ => ?_)
  obtain ⟨h1, h2⟩ := tyG_is I1 r1 ty
  exact ⟨T, id, pa, slot, hty, h1, h2, Calls.callWith_builtin rfl (PySem.evalArgs_none (hm pins s1 σ H1 x [] v [] Q I1 r1 .nil q1))⟩
theorem pe_bg (pa : PlainAttrs T) (slot : Slot T name id) (hty : typeOf (.builtin id) = pure (.type "method_descriptor")) (hm : MtR X id r) (ho : PE X o to) (ha : PA X (e :: es) t)
    (hbase : attributeBase o name X.env (eval o X.env) = eval o X.env := by rfl)
    (hfew : ((backTo cpos (starEach (e :: es) X.env)).all (fun x => !x.1) && (backToKw cpos (keywordEach [] X.env)).all (fun x => x.1.isSome)
      && decide ((e :: es).length + ([] : List Keyword).length + (if ([] : List Keyword).isEmpty then 0 else 1) < 30)) = true := by rfl)
    (hline : (apos.endLine == cpos.line) = true := by rfl) (hs : starEach (e :: es) X.env = (false, eval e X.env) :: starEach es X.env := by rfl) (hplain : (backTo cpos (starEach es X.env)).any (·.1) = false := by rfl) :
    PE X (.Call (.Attribute o name apos) (e :: es) [] cpos) (tBG X.K T r to t) := by
  refine ⟨fun pins s σ H Q I h => ?_⟩
  refine wpAny_Call_method_late hbase hfew hline rfl (thn (ho.run pins s σ H _ I h) fun v s1 ⟨x, H1, I1, r1, ty, q1⟩ => ?_)
  obtain ⟨h1, h2⟩ := tyG_is I1 r1 ty
  refine ⟨T, id, pa, slot, hty, h1, h2, ?_⟩
  have hA := ha.run cpos pins s1 σ H1 _ I1 q1
  rw [hs] at hA ⊢
  refine Calls.callWith_builtin (by show (false || (backTo cpos (starEach es X.env)).any (·.1)) = false; rw [hplain] <;> rfl) (Calls.evalArgs_plain ?_)
  exact thn hA fun us s2 ⟨vs, H2, I2, r2, q2⟩ => hm pins s2 σ H2 x vs v us Q I2 r1 r2 q2
end
/-- the type of the value that a method is asked of -/
def tyT (hm : MH) : MV → Option String
  | .str _ => some "str"
  | .int _ => some "int"
  | .lst _ => some "list"
  | .scr _ => some "list"
  | .dic _ => some "dict"
  | .dit _ => some "dict"
  | .ref n => (match hm.get n with
    | some (.lst _) => some "list"
    | some (.dic _) => some "dict"
    | some (.dit _) => some "dict"
    | some (.cel _) => some "dict"
    | _ => none)
  | _ => none
theorem tyT_ok {K : Kf} {g : Gh} {hm : MH} {H : Hp} {m : MV} {v : V} {T : String} (rl : Rel K g hm H) (r : RP K g hm H m v) (e : tyT hm m = some T) : tyG K T v H := by
  cases r with
  | own z h rs nl => cases e; exact .inl (.inl ⟨rfl, _, SqL.of h⟩)
  | of r =>
    cases r with
    | str s => cases e; exact .inl (show "str" = "str" from rfl)
    | int i => cases e; exact .inl (show "int" = "int" from rfl)
    | lst f h z rs => cases e; exact .inl (.inl ⟨rfl, _, SqL.of h⟩)
    | scr h z rs =>
      cases e
      rcases h with ⟨f, o, h⟩ | h
      · exact .inl (.inl ⟨rfl, _, .inl (.inr ⟨o, h⟩)⟩)
      · exact .inl (.inl ⟨rfl, _, .inr h⟩)
    | dic f h rs => cases e; exact .inr (.inr ⟨rfl, _, _, rfl, .inl ⟨_, h⟩⟩)
    | dit f h q rs => cases e; exact .inr (.inr ⟨rfl, _, _, rfl, .inr ⟨_, h⟩⟩)
    | ref n hn =>
      unfold tyT at e
      dsimp only at e
      split at e
      · rename_i c
        cases e
        obtain ⟨z, vs, h, rs⟩ := rl.ob n _ c
        exact .inl (.inl ⟨rfl, _, SqL.of h⟩)
      · rename_i c
        cases e
        obtain ⟨vs, h, rs⟩ := rl.ob n _ c
        exact .inl (.inr (.inr (.inl ⟨rfl, .inl ⟨_, h⟩⟩)))
      · rename_i c
        cases e
        obtain ⟨vs, h, rs⟩ := rl.ob n _ c
        exact .inl (.inr (.inr (.inl ⟨rfl, .inr ⟨_, h⟩⟩)))
      · rename_i c
        cases e
        obtain ⟨z, b, xs, h, rs⟩ := rl.ob n _ c
        exact .inr (.inl ⟨rfl, _, xs, rfl, h⟩)
      · cases e
    | _ => cases e
abbrev MOp := MH → MV → List MV → Option (MV × MH)
def VMt (K : Kf) (r : V → List V → Hp → VK → Prop) (op : MOp) : Prop := ∀ (g : Gh) (hm : MH) (H : Hp) (x : MV) (vx : V) (xs : List MV) (vs : List V) (m : MV) (hm' : MH) (Q : VK), Rel K g hm H → RP K g hm H x vx → RVs K g H xs vs → op hm x xs = some (m, hm') →
  (∀ g' H' v, Ext K g hm H g' hm' H' → RV K g' H' m v → Q v H') → r vx vs H Q
def opR (o : Option (MV × MH)) : Res MV := match o with
  | some (m, h) => .ok m h
  | none => .no
def methE (T : String) (op : MOp) (fo : EM) (fs : OM) : EM := bindE fo fun x σ h => if tyT h x = some T then bindE fs (fun xs _ h => opR (op h x xs)) σ h else .no
def meth0E (T : String) (op : MOp) (fo : EM) : EM := bindE fo fun x _ h => if tyT h x = some T then opR (op h x []) else .no
section
variable {X : Cx} {W : WX} {o e : Expr} {es : List Expr} {name : Str} {apos cpos : Pos} {T id : String} {r : V → List V → Hp → VK → Prop} {op : MOp} {fo : EM} {fs : OM}
theorem rd_meth {K : Kf} (hv : VMt K r op) (σ : L2.St) (H : Hp) (Q : VK) (h : rdE K W (methE T op fo fs) σ H Q) : tBG K T r (rdP K W fo) (rdA K W fs) σ H Q := by
  obtain ⟨g, σm, hm, rl, R, p⟩ := h
  refine ⟨g, σm, hm, rl, R, (Post.bind rl p).mono fun x g1 hm1 H1 e1 p1 vx rx => ?_⟩
  have p1 : Post K W g1 hm1 σ H1 (if tyT hm1 x = some T then bindE fs (fun xs _ h => opR (op h x xs)) σm hm1 else .no) fun m g' _ H' => ∀ v, RV K g' H' m v → Q v H' := p1
  by_cases c : tyT hm1 x = some T
  · rw [if_pos c] at p1
    refine ⟨tyT_ok e1.rel rx c, g1, σm, hm1, e1.rel, R.ext rl e1, (Post.bind e1.rel p1).mono fun xs g2 hm2 H2 e2 p2 vs rs => ?_⟩
    have p2 : Post K W g2 hm2 σ H2 (opR (op hm2 x xs)) fun m g' _ H' => ∀ v, RV K g' H' m v → Q v H' := p2
    cases q : op hm2 x xs with
    | none => rw [q] at p2; exact p2.elim
    | some z =>
      obtain ⟨m, hm3⟩ := z
      rw [q] at p2
      exact hv g2 hm2 H2 x vx xs vs m hm3 Q e2.rel (rx.ext e1.rel e2) rs q fun g' H' v e3 rv => p2 g' H' e3 v rv
  · rw [if_neg c] at p1
    exact p1.elim
theorem rd_meth0 {K : Kf} (hv : VMt K r op) (σ : L2.St) (H : Hp) (Q : VK) (h : rdE K W (meth0E T op fo) σ H Q) : tBG0 K T r (rdP K W fo) σ H Q := by
  obtain ⟨g, σm, hm, rl, R, p⟩ := h
  refine ⟨g, σm, hm, rl, R, (Post.bind rl p).mono fun x g1 hm1 H1 e1 p1 vx rx => ?_⟩
  have p1 : Post K W g1 hm1 σ H1 (if tyT hm1 x = some T then opR (op hm1 x []) else .no) fun m g' _ H' => ∀ v, RV K g' H' m v → Q v H' := p1
  by_cases c : tyT hm1 x = some T
  · rw [if_pos c] at p1
    refine ⟨tyT_ok e1.rel rx c, ?_⟩
    cases q : op hm1 x [] with
    | none => rw [q] at p1; exact p1.elim
    | some z =>
      obtain ⟨m, hm3⟩ := z
      rw [q] at p1
      exact hv g1 hm1 H1 x vx [] [] m hm3 Q e1.rel rx .nil q fun g' H' v e3 rv => p1 g' H' e3 v rv
  · rw [if_neg c] at p1
    exact p1.elim
theorem se_meth (pa : PlainAttrs T) (slot : Slot T name id) (hty : typeOf (.builtin id) = pure (.type "method_descriptor")) (hm : MtR X id r) (hv : VMt X.K r op) (ho : PE X o (rdP X.K W fo)) (ha : PA X (e :: es) (rdA X.K W fs))
    (hbase : attributeBase o name X.env (eval o X.env) = eval o X.env := by rfl)
    (hfew : ((backTo cpos (starEach (e :: es) X.env)).all (fun x => !x.1) && (backToKw cpos (keywordEach [] X.env)).all (fun x => x.1.isSome)
      && decide ((e :: es).length + ([] : List Keyword).length + (if ([] : List Keyword).isEmpty then 0 else 1) < 30)) = true := by rfl)
    (hline : (apos.endLine == cpos.line) = true := by rfl) (hs : starEach (e :: es) X.env = (false, eval e X.env) :: starEach es X.env := by rfl) (hplain : (backTo cpos (starEach es X.env)).any (·.1) = false := by rfl) :
    PE X (.Call (.Attribute o name apos) (e :: es) [] cpos) (rdE X.K W (methE T op fo fs)) := imp_e (pe_bg pa slot hty hm ho ha hbase hfew hline hs hplain) (rd_meth hv)
theorem se_meth0 (pa : PlainAttrs T) (slot : Slot T name id) (hty : typeOf (.builtin id) = pure (.type "method_descriptor")) (hm : MtR X id r) (hv : VMt X.K r op) (ho : PE X o (rdP X.K W fo))
    (hbase : attributeBase o name X.env (eval o X.env) = eval o X.env := by rfl) (hline : (apos.endLine == cpos.line) = true := by rfl) :
    PE X (.Call (.Attribute o name apos) [] [] cpos) (rdE X.K W (meth0E T op fo)) := imp_e (pe_bg0 pa slot hty hm ho hbase hline) (rd_meth0 hv)
end
end Mi
end P_M24
section P_H83b
set_option Elab.async false
set_option linter.all false
set_option maxRecDepth 100000
set_option maxHeartbeats 0
namespace K83
open PySem PySem.Spec PyProof.Rows L2
def top (i : Nat) : Stmt := PySem.Challenge.pw_seenfromwithin_k83_whole_floors_drawn.main.body.getD i (.Pass ⟨0, 0, 0, 0⟩)
def d_is_whole : He.DefD := ⟨("is_whole", none), "is_whole", "is_whole", defArgs (top 1), defBody (top 1), defScope (top 1), [], []⟩
def d_is_count : He.DefD := ⟨("is_count", none), "is_count", "is_count", defArgs (top 2), defBody (top 2), defScope (top 2), [.int (0)], []⟩
def d_is_tuple_of : He.DefD := ⟨("is_tuple_of", none), "is_tuple_of", "is_tuple_of", defArgs (top 3), defBody (top 3), defScope (top 3), [], []⟩
def d_InvalidFloor___init__ : He.DefD := ⟨("InvalidFloor", some "__init__"), "__init__", "InvalidFloor.__init__", defArgs (inClass (top 6) 0), defBody (inClass (top 6) 0), defScope (inClass (top 6) 0), [.non], []⟩
def d_is_cell : He.DefD := ⟨("is_cell", none), "is_cell", "is_cell", defArgs (top 8), defBody (top 8), defScope (top 8), [], []⟩
def d_beside : He.DefD := ⟨("beside", none), "beside", "beside", defArgs (top 9), defBody (top 9), defScope (top 9), [], []⟩
def d_parts_there : He.DefD := ⟨("parts_there", none), "parts_there", "parts_there", defArgs (top 10), defBody (top 10), defScope (top 10), [], []⟩
def d_is_floor : He.DefD := ⟨("is_floor", none), "is_floor", "is_floor", defArgs (top 11), defBody (top 11), defScope (top 11), [], []⟩
def d_check_floor : He.DefD := ⟨("check_floor", none), "check_floor", "check_floor", defArgs (top 12), defBody (top 12), defScope (top 12), [], []⟩
def d_InvalidText___init__ : He.DefD := ⟨("InvalidText", some "__init__"), "__init__", "InvalidText.__init__", defArgs (inClass (top 14) 0), defBody (inClass (top 14) 0), defScope (inClass (top 14) 0), [.non], []⟩
def d_NotDrawn___init__ : He.DefD := ⟨("NotDrawn", some "__init__"), "__init__", "NotDrawn.__init__", defArgs (inClass (top 15) 0), defBody (inClass (top 15) 0), defScope (inClass (top 15) 0), [.non], []⟩
def d_check_rows : He.DefD := ⟨("check_rows", none), "check_rows", "check_rows", defArgs (top 17), defBody (top 17), defScope (top 17), [], []⟩
def d_drawn : He.DefD := ⟨("drawn", none), "drawn", "drawn", defArgs (top 19), defBody (top 19), defScope (top 19), [], []⟩
def d_floor_drawing : He.DefD := ⟨("floor_drawing", none), "floor_drawing", "floor_drawing", defArgs (top 20), defBody (top 20), defScope (top 20), [], []⟩
def d_read_floor : He.DefD := ⟨("read_floor", none), "read_floor", "read_floor", defArgs (top 21), defBody (top 21), defScope (top 21), [], []⟩
def d__law_purse : He.DefD := ⟨("_law_purse", none), "_law_purse", "_law_purse", defArgs (top 23), defBody (top 23), defScope (top 23), [], []⟩
def d__law_mixed : He.DefD := ⟨("_law_mixed", none), "_law_mixed", "_law_mixed", defArgs (top 24), defBody (top 24), defScope (top 24), [], []⟩
def d__law_draw : He.DefD := ⟨("_law_draw", none), "_law_draw", "_law_draw", defArgs (top 25), defBody (top 25), defScope (top 25), [], []⟩
def d__law_purses : He.DefD := ⟨("_law_purses", none), "_law_purses", "_law_purses", defArgs (top 26), defBody (top 26), defScope (top 26), [], []⟩
def d__law_one_of : He.DefD := ⟨("_law_one_of", none), "_law_one_of", "_law_one_of", defArgs (top 27), defBody (top 27), defScope (top 27), [], []⟩
def d__law_exact : He.DefD := ⟨("_law_exact", none), "_law_exact", "_law_exact", defArgs (top 28), defBody (top 28), defScope (top 28), [], []⟩
def d__law_of_signs : He.DefD := ⟨("_law_of_signs", none), "_law_of_signs", "_law_of_signs", defArgs (top 29), defBody (top 29), defScope (top 29), [], []⟩
def d__law_is_floor : He.DefD := ⟨("_law_is_floor", none), "_law_is_floor", "_law_is_floor", defArgs (top 30), defBody (top 30), defScope (top 30), [], []⟩
def d__law_grown_floor : He.DefD := ⟨("_law_grown_floor", none), "_law_grown_floor", "_law_grown_floor", defArgs (top 31), defBody (top 31), defScope (top 31), [], []⟩
def d__law_drawn : He.DefD := ⟨("_law_drawn", none), "_law_drawn", "_law_drawn", defArgs (top 32), defBody (top 32), defScope (top 32), [], []⟩
def d__law_due : He.DefD := ⟨("_law_due", none), "_law_due", "_law_due", defArgs (top 33), defBody (top 33), defScope (top 33), [], []⟩
def d__law_heard : He.DefD := ⟨("_law_heard", none), "_law_heard", "_law_heard", defArgs (top 34), defBody (top 34), defScope (top 34), [], []⟩
def d__law_right : He.DefD := ⟨("_law_right", none), "_law_right", "_law_right", defArgs (top 35), defBody (top 35), defScope (top 35), [], []⟩
def d_law : He.DefD := ⟨("law", none), "law", "law", defArgs (top 36), defBody (top 36), defScope (top 36), [], []⟩
def fn : List He.DefD := ([d_is_whole, d_is_count, d_is_tuple_of, d_InvalidFloor___init__, d_is_cell, d_beside, d_parts_there, d_is_floor, d_check_floor, d_InvalidText___init__, d_NotDrawn___init__, d_check_rows, d_drawn, d_floor_drawing, d_read_floor, d__law_purse, d__law_mixed, d__law_draw, d__law_purses, d__law_one_of, d__law_exact, d__law_of_signs, d__law_is_floor, d__law_grown_floor, d__law_drawn, d__law_due, d__law_heard, d__law_right, d_law] : List He.DefD)
def fa : List He.Fa := ([.glo "is_whole", .glo "is_count", .glo "is_tuple_of", .glo "is_cell", .glo "beside", .glo "parts_there", .glo "is_floor", .glo "check_floor", .glo "check_rows", .glo "drawn", .glo "floor_drawing", .glo "read_floor", .glo "_law_purse", .glo "_law_mixed", .glo "_law_draw", .glo "_law_purses", .glo "_law_one_of", .glo "_law_exact", .glo "_law_of_signs", .glo "_law_is_floor", .glo "_law_grown_floor", .glo "_law_drawn", .glo "_law_due", .glo "_law_heard", .glo "_law_right", .glo "law", .free "ValueError", .free "abs", .free "all", .free "bool"] : List He.Fa) ++ ([.free "dict", .free "enumerate", .free "int", .free "isinstance", .free "len", .free "list", .free "max", .free "min", .free "range", .free "sorted", .free "str", .free "sum", .free "tuple", .free "zip", .glo "InvalidFloor", .glo "InvalidText", .glo "NotDrawn", .glo "SightError"] : List He.Fa)
def ex (K : PySem.W.Frag) : Bool := (Mi.exB K "InvalidFloor" && (Mi.exB K "InvalidText" && (Mi.exB K "NotDrawn" && (Mi.exmT K "SightError" [("InvalidFloor", true), ("InvalidText", true), ("NotDrawn", true)] && (Mi.isTB K "InvalidFloor" [("InvalidFloor", true), ("InvalidText", false), ("NotDrawn", false)] [] && (Mi.isTB K "InvalidText" [("InvalidFloor", false), ("InvalidText", true), ("NotDrawn", false)] [] && (Mi.isTB K "NotDrawn" [("InvalidFloor", false), ("InvalidText", false), ("NotDrawn", true)] [] && (Mi.xvB K ["InvalidFloor", "InvalidText", "NotDrawn"] && true))))))))
abbrev R : PySem.W.OpenRow := PySem.W.OpenLaw.row PySem.Challenge.rw_seenfromwithin_k83_whole_floors_drawn
end K83
end P_H83b
section P_R83b
set_option Elab.async false
set_option linter.all false
set_option maxRecDepth 100000
set_option maxHeartbeats 0
namespace K83
open PySem PySem.Spec PyProof.Rows L2
def loose : List PySem.Str := (["__name__", "is_whole", "is_count", "is_tuple_of", "SightError", "InvalidFloor", "is_cell", "beside", "parts_there", "is_floor", "check_floor", "InvalidText", "NotDrawn", "check_rows", "drawn", "floor_drawing", "read_floor", "_law_purse", "_law_mixed", "_law_draw", "_law_purses", "_law_one_of", "_law_exact", "_law_of_signs", "_law_is_floor", "_law_grown_floor", "_law_drawn", "_law_due", "_law_heard", "_law_right"] : List PySem.Str)
abbrev hk : PySem.W.Hook := Mi.hookR 1200 fa fn ex
def ob (s : PySem.W.SharedT) : He.AlX := Mi.obsR 1200 fa fn ex (HeadRun.getT s)
theorem ob_eq (s : PySem.W.SharedT) : ob s = hk.obs s.abs := Mi.obsR_eq (HeadRun.getT_eq s)
theorem run1 (w : World) : (HeadRun.wholeF (fun p => HeadRun.stepQ (HeadRun.denQ HeadRun.tabQ) p w) HeadRun.fenceQ 9000 R.prog).map (fun x => (HeadRun.looksF R.prog x.1.heap x.2.abs, HeadRun.seenQ (PySem.W.view R.prog [36]) loose (PySem.importedModules R.prog.main.body) (fun s => PySem.W.xlAt (PySem.W.view R.prog [36]) [] s && PySem.W.recOk R.toRowW.records s) x.2.abs)) = some (true, PySem.W.openGood (PySem.W.view R.prog [36]) loose) := by
  kernel_rfl
theorem run2 (w : World) : (HeadRun.wholeF (fun p => HeadRun.stepQ (HeadRun.denQ HeadRun.tabQ) p w) HeadRun.fenceQ 9000 R.prog).map (fun x => ob x.2) = some (hk.val w) := by
  kernel_rfl
theorem run (w : World) : HeadRun.RunEqI R (PySem.W.view R.prog [36]) hk ob 9000 loose w := Mi.run_parts (run1 w) (run2 w)
end K83
end P_R83b
section P_M25
set_option Elab.async false
set_option linter.all false
set_option maxRecDepth 100000
set_option maxHeartbeats 4000000
/-! M25: lists changed through their objects; pop; index, count; pairs in order; dicts of told entries -/
namespace Mi
open PySem PySem.Spec PyProof.Rows L2
/-! ### lists through their objects -/
def lstR (f : List MV → List MV → Option (List MV)) : MOp := fun hm x xs => match x with
  | .ref n => (match hm.get n with
    | some (.lst ys) => (f ys xs).map fun zs => (.non, hm.put n (.lst zs))
    | _ => none)
  | _ => none
theorem vt_lst {K : Kf} {r : V → List V → Hp → VK → Prop} {f : List MV → List MV → Option (List MV)} (hv : VMu K r f) : VMt K r (lstR f) := by
  intro g hm H x vx xs vs m hm' Q rl rx rs e k
  unfold lstR at e
  split at e
  · rename_i n
    split at e
    · rename_i ys c
      obtain ⟨zs, e1, e2⟩ := map_some e
      injection e2 with e3 e4
      subst e3 e4
      obtain ⟨z, ws, h, rv⟩ := rl.ob n _ c
      obtain ⟨ws', q1, q2, q3⟩ := hv g H (g.ρ n) ys xs zs ws vs h rv rs z e1
      rw [rx.ref_inv]
      have nf := rl.nf n (some_ne c)
      exact q3 Q (k g _ .non (Ext.putO rl c ⟨q2, ws', upd_same, q1.up (Up.wr nf)⟩) .non)
    · cases e
  · cases e
def popR : MOp := fun hm x xs => match x, xs with
  | .ref n, [] => (match hm.get n with
    | some (.lst ys) => ys.getLast?.map fun y => (y, hm.put n (.lst ys.dropLast))
    | _ => none)
  | _, _ => none
theorem RVs.dropLast {K : Kf} {g : Gh} {H : Hp} : ∀ {xs : List MV} {vs : List V}, RVs K g H xs vs → RVs K g H xs.dropLast vs.dropLast
  | [], _, r => by cases r; exact .nil
  | [_], _, r => by cases r with | cons _ r => cases r; exact .nil
  | x :: y :: xs, _, r => by
    cases r with
    | cons r1 r =>
      cases r with
      | cons r2 r =>
        exact .cons r1 (RVs.dropLast (.cons r2 r))
theorem RVs.last {K : Kf} {g : Gh} {H : Hp} {xs : List MV} {vs : List V} {y : MV} (r : RVs K g H xs vs) (e : xs.getLast? = some y) : ∃ v, vs[vs.length - 1]? = some v ∧ RV K g H y v := by
  rw [List.getLast?_eq_getElem?] at e
  obtain ⟨v, h1, h2⟩ := r.get e
  exact ⟨v, by rw [← r.length]; exact h1, h2⟩
theorem vt_pop {K : Kf} : VMt K rPop popR := by
  intro g hm H x vx xs vs m hm' Q rl rx rs e k
  unfold popR at e
  split at e
  · rename_i n
    cases rs
    split at e
    · rename_i ys c
      obtain ⟨y, e1, e2⟩ := map_some e
      injection e2 with e3 e4
      subst e3 e4
      obtain ⟨z, ws, h, rv⟩ := rl.ob n _ c
      obtain ⟨v, hv, r1⟩ := rv.last e1
      rw [rx.ref_inv]
      have nf := rl.nf n (some_ne c)
      have u : Up g H g (upd H (g.ρ n) (.lst ws.dropLast)) := Up.wr nf
      exact ⟨_, ws, v, rfl, rfl, h, hv, k g _ v (Ext.putO rl c ⟨by rw [List.length_dropLast]; omega, _, upd_same, rv.dropLast.up u⟩) (r1.up u)⟩
    · cases e
  · cases e
/-- j = i.pop(), i a slot's own list -/
def popS (j i : Nat) : SM := fun σ h => match σ[i]? with
  | some (.own xs) => (match xs.getLast? with
    | some y => .nx ((σ.set i (.own xs.dropLast)).set j (.val y)) h
    | none => .no)
  | _ => .no
section
variable {X : Cx} {W : WX} {x y : Str} {i j : Nat} {p p' apos cpos pos : Pos}
theorem rd_popS {K : Kf} (D : Ends) (σ : L2.St) (H : Hp) (h : rdS K W (popS j i) D σ H) : tAsg (tBM0 K "list" rPop (tVar i)) (gName j) D σ H := by
  obtain ⟨B, g, hm, σm, s, p⟩ := h
  unfold popS at p
  cases c : σm[i]? with
  | none => rw [c] at p; exact p.elim
  | some t =>
    cases t with
    | un => rw [c] at p; exact p.elim
    | val m => rw [c] at p; exact p.elim
    | own y0 =>
      rw [c] at p
      simp only at p
      cases e : y0.getLast? with
      | none => rw [e] at p; exact p.elim
      | some y =>
        rw [e] at p
        obtain ⟨a, vs, h1, z, h2, h3, nf, nl⟩ := s.en.own c
        obtain ⟨v, hv, r1⟩ := h3.last e
        refine ⟨_, h1, .inl ⟨rfl, vs, SqL.of h2⟩, a, vs, v, rfl, rfl, h2, hv, ?_⟩
        have s2 := s.mut_own c h1 h2 nf nl (by rw [List.length_dropLast]; omega) h3.dropLast
        exact p g _ _ (s2.set_val j (r1.up (Up.wr nf)))
theorem ss_popS (n : NmA X y j) (nv : NmV X x i) (hs : swapsWith (.Call (.Attribute (.Name x p) "pop" apos) [] [] cpos) (some (.Name y p')) pos.line X.env = pure false := by rfl)
    (hbase : attributeBase (.Name x p) "pop" X.env (eval (.Name x p) X.env) = eval (.Name x p) X.env := by rfl) (hline : (apos.endLine == cpos.line) = true := by rfl) :
    PS X (.Assign [.Name y p'] (.Call (.Attribute (.Name x p) "pop" apos) [] [] cpos) pos) (rdS X.K W (popS j i)) :=
  imp_s (ps_set n.nd n.ix n.loc (pe_bm0 PySem.F.plainAttrs_list PySem.F.slot_list_pop PySem.F.type_list_pop mt_pop nv.raw hbase hline) hs n.fn) rd_popS
end

/-! ### index, count of Booleans -/
def idxL (x : MV) : List MV → Nat → Option Nat
  | [], _ => none
  | y :: ys, i => if meq y x = true then some i else idxL x ys (i + 1)
def indexM : MOp := fun hm x xs => match xs with
  | [y] => (match seqM hm x with
    | some ys => if okD y = true ∧ okV 40 (.lst ys) = true then (idxL y ys 0).map fun i => (.int (i : Nat), hm) else none
    | none => none)
  | _ => none
theorem idxL_ok {x : MV} : ∀ {ys : List MV} {i j : Nat}, idxL x ys i = some j → ∃ k z, j = i + k ∧ ys[k]? = some z ∧ meq z x = true ∧ ∀ (m : Nat) (w : MV), m < k → ys[m]? = some w → meq w x = false
  | [], _, _, e => nomatch e
  | y :: ys, i, j, e => by
    unfold idxL at e
    by_cases c : meq y x = true
    · rw [if_pos c] at e
      cases e
      exact ⟨0, y, rfl, rfl, c, fun m w h => absurd h (Nat.not_lt_zero _)⟩
    · rw [if_neg c] at e
      obtain ⟨k, z, h1, h2, h3, h4⟩ := idxL_ok e
      refine ⟨k + 1, z, by omega, by simpa using h2, h3, fun m w hm hw => ?_⟩
      cases m with
      | zero =>
        simp at hw
        subst hw
        simpa using c
      | succ m => exact h4 m w (by omega) (by simpa using hw)
theorem toDs_get : ∀ {ys : List MV} {k : Nat}, (toDs ys)[k]? = ys[k]?.map toD
  | [], k => by simp [toDs]
  | y :: ys, 0 => by simp [toDs]
  | y :: ys, k + 1 => by simp [toDs, toDs_get (ys := ys) (k := k)]
theorem RP.seqD {K : Kf} {g : Gh} {hm : MH} {H : Hp} {m : MV} {v : V} {xs : List MV} (rl : Rel K g hm H) (r : RP K g hm H m v) (e : seqM hm m = some xs) (ok : xs.all (okV 39) = true) : ∃ a, v = .ref a ∧ Dp K H (.ref a) (.list (toDs xs)) := by
  obtain ⟨a, vs, rfl, h1, rs, z⟩ := r.seq rl e
  exact ⟨a, rfl, .lst h1 (dps_of 39 xs vs ok rs)⟩
theorem vt_index {K : Kf} : VMt K (rIndexD K) indexM := by
  intro g hm H x vx xs vs m hm' Q rl rx rs e k
  unfold indexM at e
  split at e
  · rename_i y
    cases rs with
    | cons r1 rs =>
      cases rs
      rename_i vy
      split at e
      · rename_i ys c
        split at e
        · rename_i ok
          obtain ⟨ok1, ok2⟩ := ok
          obtain ⟨j, e1, e2⟩ := map_some e
          injection e2 with e3 e4
          subst e3 e4
          obtain ⟨a, rfl, hd⟩ := rx.seqD rl c ok2
          obtain ⟨kk, z, h1, h2, h3, h4⟩ := idxL_ok e1
          have okz : ∀ (m : Nat) (w : MV), ys[m]? = some w → okV 40 w = true := fun m w hw => okV_up _ _ (List.all_eq_true.mp ok2 w (List.mem_of_getElem? hw))
          refine ⟨a, vy, toD y, toDs ys, kk, toD z, rfl, rfl, hd, dp_of 40 _ _ ok1 r1, ?_, shaped_of ok1, by rw [toDs_get, h2]; rfl, ?_, fun m' z' hm hz => ?_, ?_⟩
          · exact shaped_of (m := .lst ys) ok2
          · rw [eqv_meq 40 z y (okz kk z h2) ok1]; exact h3
          · rw [toDs_get] at hz
            obtain ⟨w, hw, rfl⟩ := map_some hz
            rw [eqv_meq 40 w y (okz m' w hw) ok1]; exact h4 m' w hm hw
          · have e0 : j = kk := by omega
            rw [← e0]
            exact k g H _ (.refl rl) (.int _)
        · cases e
      · cases e
  · cases e
def cntB (b : Bool) (bs : List Bool) : Nat := bs.count b
def rCntB (K : Kf) : V → List V → Hp → VK → Prop := fun x xs H Q => ∃ (p : Addr) (ns : List Bool) (k : Bool), x = .ref p ∧ xs = [.bl k] ∧ SqL K H p (ns.map V.bl) ∧ Q (.int (ns.count k : Nat)) H
def eqb (k : Bool) (v : Value) : Bool := match v with
  | .bool n => n == k
  | _ => false
theorem bools_of : ∀ {bs : List Bool} {us : List Value}, Vals (bs.map V.bl) us → us = bs.map Value.bool
  | [], us, r => by cases r; rfl
  | b :: bs, us, r => by
    cases r with
    | cons h t =>
      cases (show _ = Value.bool b from h)
      rw [List.map_cons, ← bools_of t]
theorem eqb_count (k : Bool) : ∀ bs : List Bool, (bs.map Value.bool).countP (eqb k) = bs.count k
  | [] => rfl
  | b :: bs => by
    rw [List.map_cons, List.countP_cons, List.count_cons, eqb_count k bs]
    rfl
theorem mt_bcount {X : Cx} : MtR X "list.count" (rCntB X.K) := by
  intro pins s σ H x xs v us Q I rx rxs h
  obtain ⟨p, ns, k, rfl, rfl, hs, q⟩ := h
  cases rx
  obtain ⟨u, rfl, ru⟩ := rxs.one
  cases (show u = Value.bool k from ru)
  obtain ⟨its, rv, ⟨⟨cls, dd, data, sl⟩, n, ho, hc, hdn, hd⟩, hlen⟩ := I.list hs
  simp only at hc hd
  subst hc hd
  have hi := bools_of rv
  subst hi
  refine call_meets PySem.F.slot_list_count ⟨_, ho, rfl⟩ PySem.F.entry_list_count (PySem.F.args_list_count_2 _ _)
    (SeqAt.list_countAt p (ns.map Value.bool).toArray n dd sl (.bool k) (eqb k)) ⟨ho, fun y hy => ?_, ?_⟩
  · have hy : y ∈ ns.map Value.bool := by simpa using hy
    obtain ⟨b, _, rfl⟩ := List.mem_map.mp hy
    exact SeqAt.EqAt.bool_bool b k
  · refine ⟨.int (ns.count k : Nat), H, I.tok _, ⟨s.toks, ?_⟩, q⟩
    show Value.int (((ns.map Value.bool).toArray.toList.countP (eqb k) : Nat) : Int) s.toks = Value.int ((ns.count k : Nat) : Int) s.toks
    rw [show (ns.map Value.bool).toArray.toList = ns.map Value.bool from rfl, eqb_count]
def countM : MOp := fun hm x xs => match xs with
  | [.bl b] => (match seqM hm x with
    | some ys => (allM unBl ys).map fun bs => (.int (bs.count b : Nat), hm)
    | none => none)
  | _ => none
theorem vt_count {K : Kf} : VMt K (rCntB K) countM := by
  intro g hm H x vx xs vs m hm' Q rl rx rs e k
  unfold countM at e
  split at e
  · rename_i b
    cases rs with
    | cons r1 rs =>
      cases rs
      cases r1
      split at e
      · rename_i ys c
        obtain ⟨bs, e1, e2⟩ := map_some e
        injection e2 with e3 e4
        subst e3 e4
        obtain ⟨a, vs, rfl, h1, rs, z⟩ := rx.seq rl c
        have ey := allM_bl e1
        subst ey
        have ev := rs.bls_inv
        subst ev
        exact ⟨a, bs, b, rfl, rfl, h1, k g H _ (.refl rl) (.int _)⟩
      · cases e
  · cases e
end Mi
end P_M25
section P_M26
set_option Elab.async false
set_option linter.all false
set_option maxRecDepth 100000
set_option maxHeartbeats 4000000
/-! M26: tuples of ints in order; min, max of pairs; dicts told by their entries -/
namespace Mi
open PySem PySem.Spec PyProof.Rows L2
theorem OpR.or {X : Cx} {f : Value → Value → Sem Value} {r r' : R2} (h : OpR X f r) (h' : OpR X f r') : OpR X f fun x y H Q => r x y H Q ∨ r' x y H Q :=
  fun pins s σ H x y v u Q I rx ry q => q.elim (h pins s σ H x y v u Q I rx ry) (h' pins s σ H x y v u Q I rx ry)
def ltTM : MH → MV → MV → Option MV := fun _ x y => match x, y with
  | .tup xs, .tup ys => (match allM unInt xs, allM unInt ys with
    | some ns, some ms => some (.bl (HT.lexLt ns ms))
    | _, _ => none)
  | _, _ => none
theorem vp_ltT {K : Kf} : VP2 K (rLtT K) ltTM := by
  intro g hm H x y vx vy m Q rl px py e k
  unfold ltTM at e
  split at e
  · rename_i xs ys
    split at e
    · rename_i ns ms c1 c2
      cases e
      have e1 := allM_int c1
      have e2 := allM_int c2
      subst e1 e2
      obtain ⟨a, vs, rfl, h1, rs⟩ := px.tup_inv
      obtain ⟨b, ws, rfl, h2, rs2⟩ := py.tup_inv
      have i1 := rs.ints_inv
      have i2 := rs2.ints_inv
      subst i1 i2
      exact ⟨a, b, ns, ms, rfl, rfl, h1, h2, k g H _ (.refl rl) (.bl _)⟩
    · cases e
  · cases e
section
variable {X : Cx} {P : Program} {w : World} {K : Kf} {mg : Str → Option Value} {base : Heap} {N : List Str} {sc : Scope} {own : Str → Bool} {k : Nat}
theorem Cn.opLtT (J : Cn X P w K mg base N sc own k) : OpR X (compareOp .Lt) (rLtT X.K) := op_ltT (Nat.lt_of_le_of_lt (Nat.le_add_right _ 65) J.units)
end
/-! ### min, max of two pairs -/
def ltPM (p q : Int × Int) : Bool := DI.ltPB p q
def minPM : MH → List MV → Option MV := fun _ xs => match xs with
  | [x, y] => (match unP x, unP y with
    | some p, some q => some (if DI.ltPB q p = true then y else x)
    | _, _ => none)
  | _ => none
def maxPM : MH → List MV → Option MV := fun _ xs => match xs with
  | [x, y] => (match unP x, unP y with
    | some p, some q => some (if DI.ltPB p q = true then y else x)
    | _, _ => none)
  | _ => none
theorem unP_eq {x : MV} {p : Int × Int} (h : unP x = some p) : x = pairM p := by
  unfold unP at h
  split at h
  · cases h; rfl
  · cases h
theorem RP.pair {K : Kf} {g : Gh} {hm : MH} {H : Hp} {p : Int × Int} {v : V} (r : RP K g hm H (pairM p) v) : DI.PairV K H v p ∧ RV K g H (pairM p) v := by
  obtain ⟨a, vs, rfl, h1, rs⟩ := r.tup_inv
  have rv : RV K g H (pairM p) (.ref a) := by cases r with | of r => exact r
  cases rs with
  | cons r1 rs =>
    cases rs with
    | cons r2 rs =>
      cases rs
      cases r1
      cases r2
      exact ⟨⟨a, rfl, h1⟩, rv⟩
theorem vp_minP {K : Kf} : VPn K (DI.rMinPP K) minPM := by
  intro g hm H xs vs m Q rl ps e k
  unfold minPM at e
  split at e
  · rename_i x y
    obtain ⟨v, w, rfl, p1, p2⟩ := ps.two
    split at e
    · rename_i p q c1 c2
      cases e
      have e1 := unP_eq c1
      have e2 := unP_eq c2
      subst e1 e2
      obtain ⟨h1, r1⟩ := p1.pair
      obtain ⟨h2, r2⟩ := p2.pair
      refine ⟨v, w, p, q, rfl, h1, h2, k g H _ (.refl rl) ?_⟩
      by_cases c : DI.ltPB q p = true
      · rw [if_pos c, if_pos c]; exact r2
      · rw [if_neg c, if_neg c]; exact r1
    · cases e
  · cases e
theorem vp_maxP {K : Kf} : VPn K (DI.rMaxPP K) maxPM := by
  intro g hm H xs vs m Q rl ps e k
  unfold maxPM at e
  split at e
  · rename_i x y
    obtain ⟨v, w, rfl, p1, p2⟩ := ps.two
    split at e
    · rename_i p q c1 c2
      cases e
      have e1 := unP_eq c1
      have e2 := unP_eq c2
      subst e1 e2
      obtain ⟨h1, r1⟩ := p1.pair
      obtain ⟨h2, r2⟩ := p2.pair
      refine ⟨v, w, p, q, rfl, h1, h2, k g H _ (.refl rl) ?_⟩
      by_cases c : DI.ltPB p q = true
      · rw [if_pos c, if_pos c]; exact r2
      · rw [if_neg c, if_neg c]; exact r1
    · cases e
  · cases e
section
variable {X : Cx} {P : Program} {w : World} {K : Kf} {mg : Str → Option Value} {base : Heap} {N : List Str} {sc : Scope} {own : Str → Bool} {k : Nat}
theorem Cn.minP (J : Cn X P w K mg base N sc own k) : CallR X (.builtin "min") (DI.rMinPP X.K) := DI.cr_minPP J.calm (by have := J.units; omega)
theorem Cn.maxP (J : Cn X P w K mg base N sc own k) : CallR X (.builtin "max") (DI.rMaxPP X.K) := DI.cr_maxPP J.calm (by have := J.units; omega)
end
/-! ### (p, q) not in {} -/
def notIn0M : MH → MV → MV → Option MV := fun _ x y => match x, y with
  | .tup [a, b], .dic [] => (match unP a, unP b with
    | some _, some _ => some (.bl true)
    | _, _ => none)
  | _, _ => none
theorem vp_notIn0 {K : Kf} : VP2 K (DI.rNotIn0 K) notIn0M := by
  intro g hm H x y vx vy m Q rl px py e k
  unfold notIn0M at e
  split at e
  · rename_i a b
    split at e
    · rename_i p q c1 c2
      cases e
      have e1 := unP_eq c1
      have e2 := unP_eq c2
      subst e1 e2
      obtain ⟨t, vs, rfl, h1, rs⟩ := px.tup_inv
      cases rs with
      | cons r1 rs =>
        cases rs with
        | cons r2 rs =>
          cases rs
          cases py with
          | of py =>
            cases py with
            | dic f h rk =>
              cases rk
              exact ⟨t, _, _, _, p, q, rfl, rfl, h1, (RP.pair (hm := hm) (.of r1)).1, (RP.pair (hm := hm) (.of r2)).1, .inr ⟨_, h⟩, k g H _ (.refl rl) (.bl _)⟩
    · cases e
  · cases e
/-! ### a dict told by its entries -/
theorem atKey_isSome {xs : DI.XS} {k : List Int} : (atKey xs k).isSome = decide (k ∈ xs.map (·.1)) := by
  unfold atKey
  rw [Option.isSome_map, Bool.eq_iff_iff, List.find?_isSome]
  simp
theorem CelX.keys {K : Kf} {g : Gh} {H : Hp} {ks : List (List Int)} {xs : DI.XS} (h : CelX K g H ks xs) : DI.Keys K H xs := fun x hx => by
  obtain ⟨a, vs, e, h1, rs⟩ := (RP.of (hm := ⟨0, fun _ => none⟩) (h.2 x hx).2).tup_inv
  cases e
  have i1 := rs.ints_inv
  subst i1
  exact h1
def rInCel (K : Kf) : R2 := fun x y H Q => ∃ (b a : Addr) (xs : DI.XS) (ns : List Int), x = .ref b ∧ y = .ref a ∧ (a == sysModules) = false ∧ H a = some (DI.dicO xs a) ∧ DI.Keys K H xs ∧ SqT K H b (ns.map V.int) ∧ Q (.bl (atKey xs ns).isSome) H
theorem op_inCel {X : Cx} (hu : X.A.units + 1 < cLine) : OpR X (compareOp .In) (rInCel X.K) := by
  intro pins s σ H x y v u Q I rx ry h
  obtain ⟨b, a, xs, ns, rfl, rfl, hd, e, k, hb, q⟩ := h
  cases rx
  cases ry
  exact DI.d_inI hu I hd e k hb fun s' I' => ⟨.bl _, H, I', rfl, q⟩
def inCelM : MH → MV → MV → Option MV := fun hm x y => match x, y with
  | .tup ks, .ref n => (match allM unInt ks, hm.get n with
    | some ns, some (.cel xs) => some (.bl (decide (ns ∈ xs)))
    | _, _ => none)
  | _, _ => none
theorem vp_inCel {K : Kf} : VP2 K (rInCel K) inCelM := by
  intro g hm H x y vx vy m Q rl px py e k
  unfold inCelM at e
  split at e
  · rename_i ks n
    split at e
    · rename_i ns xs c1 c2
      cases e
      have e1 := allM_int c1
      subst e1
      obtain ⟨b, vs, rfl, h1, rs⟩ := px.tup_inv
      have i1 := rs.ints_inv
      subst i1
      obtain ⟨z, hd, es, h2, cx⟩ := rl.ob n _ c2
      refine ⟨b, _, es, ns, rfl, py.ref_inv, hd, h2, cx.keys, h1, ?_⟩
      rw [atKey_isSome, cx.1]
      exact k g H _ (.refl rl) (.bl _)
    · cases e
  · cases e
def celPopM : MOp := fun hm x xs => match x, xs with
  | .ref n, [.tup ks] => (match allM unInt ks, hm.get n with
    | some ns, some (.cel es) => if ns ∈ es then some (.bl true, hm.put n (.cel (es.filter fun k => decide (k ≠ ns)))) else none
    | _, _ => none)
  | _, _ => none
theorem vt_celPop {K : Kf} : VMt K (DI.rPop1 K) celPopM := by
  intro g hm H x vx xs vs m hm' Q rl rx rs e k
  unfold celPopM at e
  split at e
  · rename_i n ks
    split at e
    · rename_i ns es c1 c2
      split at e
      · rename_i hin
        injection e with e
        injection e with e3 e4
        subst e3 e4
        have e1 := allM_int c1
        subst e1
        cases rs with
        | cons r1 rs =>
          cases rs
          obtain ⟨b, ws, rfl, h1, rs⟩ := (RP.of (hm := hm) r1).tup_inv
          have i1 := rs.ints_inv
          subst i1
          obtain ⟨z, hd, xs, h2, cx⟩ := rl.ob n _ c2
          rw [rx.ref_inv]
          have hl : xs.length = es.length := by rw [← cx.1, List.length_map]
          have nf := rl.nf n (some_ne c2)
          have u : Up g H g (upd H (g.ρ n) (DI.dicO (DT.dropH xs ns) (g.ρ n))) := Up.wr nf
          refine ⟨g.ρ n, b, xs, ns, rfl, rfl, hd, h2, cx.keys, by rw [hl]; exact z, fun x hx => (cx.2 x hx).1, h1, by rw [atKey_isSome, cx.1]; exact decide_eq_true hin, ?_⟩
          refine k g _ _ (Ext.putO rl c2 ⟨?_, hd, _, upd_same, ?_, fun x hx => ?_⟩) (.bl _)
          · exact Nat.le_trans (List.length_filter_le _ _) z
          · unfold DT.dropH
            rw [← cx.1, List.filter_map]
            rfl
          · have hx' : x ∈ xs := (List.mem_filter.mp hx).1
            exact ⟨(cx.2 x hx').1, (cx.2 x hx').2.up u⟩
      · cases e
    · cases e
  · cases e

/-! ### calls that make a new object of the small heap -/
def VNn (K : Kf) (r : RN) (op : MH → List MV → Option MO) : Prop := ∀ (g : Gh) (hm : MH) (H : Hp) (xs : List MV) (vs : List V) (o : MO) (Q : VK), Rel K g hm H → RPs K g hm H xs vs → op hm xs = some o →
  (∀ g' H' a, Ext K g hm H g' hm H' → H a = none → RO K g' H' a o → ¬ g'.F a → ¬ Live g' hm a → Q (.ref a) H') → r vs H Q
def callNew (op : MH → List MV → Option MO) (fs : OM) : EM := bindE fs fun xs => fun _ h => match op h xs with
  | some o => .ok (.ref h.nx) (h.push o)
  | none => .no
section
variable {X : Cx} {W : WX} {e : Expr} {es : List Expr} {pos p : Pos} {r : RN} {x : Str} {op : MH → List MV → Option MO} {fs : OM}
theorem rd_callNew {K : Kf} (hv : VNn K r op) (σ : L2.St) (H : Hp) (Q : VK) (h : rdE K W (callNew op fs) σ H Q) : tCB r (rdPA K W fs) σ H Q := by
  obtain ⟨g, σm, hm, rl, R, p⟩ := h
  refine ⟨g, σm, hm, rl, R, (Post.bind rl p).mono fun xs g' hm' H' e1 p1 vs rs => ?_⟩
  have p1 : Post K W g' hm' σ H' (match op hm' xs with
    | some o => .ok (.ref hm'.nx) (hm'.push o)
    | none => .no) fun m g' _ H' => ∀ v, RV K g' H' m v → Q v H' := p1
  cases q : op hm' xs with
  | none => rw [q] at p1; exact p1.elim
  | some o =>
    rw [q] at p1
    refine hv g' hm' H' xs vs o Q e1.rel rs q fun g2 H2 a e2 h0 ro nf nl => ?_
    obtain ⟨e3, rv⟩ := Ext.pushO e1.rel e2 h0 ro nf nl
    exact p1 _ _ e3 _ rv
theorem se_newT {id : String} (hc : CallR X (.type id) r) (hv : VNn X.K r op) (n : NmB X x (.type id)) (ha : PA X (e :: es) (rdPA X.K W fs))
    (he : starEach (e :: es) X.env = (false, eval e X.env) :: starEach es X.env := by rfl) (hpl : (backTo pos (starEach es X.env)).any (·.1) = false := by rfl) :
    PE X (.Call (.Name x p) (e :: es) [] pos) (rdE X.K W (callNew op fs)) := by
  exact imp_e (pe_callTy hc n.gl n.mg n.bt ha n.nn n.db he hpl) (rd_callNew hv)
end
/-- dict(pairs), each (tuple of ints, True), no key twice -/
def unCel : MV → Option (List Int)
  | .tup [.tup ks, .bl true] => allM unInt ks
  | _ => none
def newCelM : MH → List MV → Option MO := fun hm xs => match xs with
  | [x] => (match seqM hm x with
    | some ys => (match allM unCel ys with
      | some ks => if ks.Nodup then some (.cel ks) else none
      | none => none)
    | none => none)
  | _ => none
abbrev rDictI (K : Kf) : RN := fun vs H Q => ∃ (a : Addr) (ps : List Addr) (xs : DI.XS), vs = [.ref a] ∧ SqL K H a (ps.map V.ref) ∧ DI.Prs K H ps xs ∧ ∀ d, H d = none → (d == sysModules) = false → Q (.ref d) (upd H d (DI.dicO (storedAllH [] xs) d))
theorem storedAll_nodup : ∀ {xs acc : DI.XS}, ((acc ++ xs).map (·.1)).Nodup → storedAllH acc xs = acc ++ xs
  | [], acc, _ => by simp [storedAllH]
  | x :: xs, acc, h => by
    have hn : atKey acc x.1 = none := by
      cases c : atKey acc x.1 with
      | none => rfl
      | some p =>
        have hs : (atKey acc x.1).isSome = true := by rw [c]; rfl
        rw [atKey_isSome] at hs
        have hm : x.1 ∈ acc.map (·.1) := of_decide_eq_true hs
        rw [List.map_append, List.map_cons] at h
        have := (List.nodup_append.mp h).2.2 x.1 hm x.1 List.mem_cons_self
        exact absurd rfl this
    have e : storedAllH acc (x :: xs) = storedAllH (storedH acc x.1 x.2.1 x.2.2) xs := rfl
    rw [e, storedH_new hn, storedAll_nodup (by simpa using h)]
    simp
theorem prs_of {K : Kf} {g : Gh} {H : Hp} : ∀ {ys : List MV} {ks : List (List Int)} {vs : List V}, RVs K g H ys vs → allM unCel ys = some ks → ∃ (ps : List Addr) (xs : DI.XS), vs = ps.map V.ref ∧ DI.Prs K H ps xs ∧ xs.map (·.1) = ks ∧ ∀ x ∈ xs, x.2.2 = .bool true ∧ RV K g H (.tup (x.1.map .int)) (.ref x.2.1)
  | [], _, _, r, e => by
    cases r
    cases e
    exact ⟨[], [], rfl, .nil, rfl, fun x hx => (List.not_mem_nil hx).elim⟩
  | y :: ys, _, _, r, e => by
    obtain ⟨k, ks, h1, h2, rfl⟩ := allM_cons e
    cases r with
    | cons r1 rs =>
      obtain ⟨ps, xs, rfl, h3, h4, h5⟩ := prs_of rs h2
      unfold unCel at h1
      split at h1
      · rename_i zs
        have e1 := allM_int h1
        subst e1
        obtain ⟨a, ws, rfl, q1, q2⟩ := (RP.of (hm := ⟨0, fun _ => none⟩) r1).tup_inv
        cases q2 with
        | cons t1 q2 =>
          cases q2 with
          | cons t2 q2 =>
            cases q2
            cases t2
            obtain ⟨b, us, rfl, q3, q4⟩ := (RP.of (hm := ⟨0, fun _ => none⟩) t1).tup_inv
            have i1 := q4.ints_inv
            subst i1
            refine ⟨a :: ps, (k, b, .bool true) :: xs, rfl, .cons q1 q3 h3, by rw [List.map_cons, h4], fun x hx => ?_⟩
            rcases List.mem_cons.mp hx with rfl | hx
            · exact ⟨rfl, t1⟩
            · exact h5 x hx
      · cases h1
theorem vn_cel {K : Kf} : VNn K (rDictI K) newCelM := by
  intro g hm H xs vs o Q rl ps e k
  unfold newCelM at e
  split at e
  · rename_i x
    obtain ⟨v, rfl, px⟩ := ps.one
    split at e
    · rename_i ys c1
      split at e
      · rename_i ks c2
        split at e
        · rename_i nd
          cases e
          obtain ⟨a, vs, rfl, h1, rs, z⟩ := px.seq rl c1
          obtain ⟨as, es, rfl, h2, h3, h4⟩ := prs_of rs c2
          refine ⟨a, as, es, rfl, h1, h2, fun d hd hs => ?_⟩
          have ee : storedAllH [] es = es := by
            rw [storedAll_nodup (by rw [List.nil_append, h3]; exact nd), List.nil_append]
          rw [ee]
          have e2 := Ext.lay rl (p := d) (o := DI.dicO es d) hd
          have hl : ks.length ≤ sizeLine := by rw [allM_length c2]; exact z
          exact k g _ d e2 hd ⟨hl, hs, es, upd_same, h3, fun x hx => ⟨(h4 x hx).1, (h4 x hx).2.up (e2.up rl)⟩⟩ (rl.new_nf hd) (rl.new_nl hd)
        · cases e
      · cases e
    · cases e
  · cases e
section
variable {X : Cx} {P : Program} {w : World} {K : Kf} {mg : Str → Option Value} {base : Heap} {N : List Str} {sc : Scope} {own : Str → Bool} {k : Nat}
theorem Cn.dictI (J : Cn X P w K mg base N sc own k) : CallR X (.type "dict") (rDictI X.K) := DI.call_dictI J.calm (by have := J.units; omega)
theorem Cn.opInCel (J : Cn X P w K mg base N sc own k) : OpR X (compareOp .In) (rInCel X.K) := op_inCel (by have := J.units; omega)
theorem Cn.opNotIn0 (J : Cn X P w K mg base N sc own k) : OpR X (compareOp .NotIn) (DI.rNotIn0 X.K) := DI.op_notIn0 (by have := J.units; omega)
theorem Cn.mtPop1 (J : Cn X P w K mg base N sc own k) : MtR X "dict.pop" (DI.rPop1 X.K) := DI.mt_pop1 (by have := J.units; omega)
theorem Cn.mtIndex (J : Cn X P w K mg base N sc own k) : MtR X "list.index" (rIndexD X.K) := mt_indexD J.units
end
end Mi
end P_M26
section P_X2
set_option Elab.async false
set_option linter.all false
set_option maxRecDepth 100000
set_option maxHeartbeats 4000000
/-! X2: xs[::e], e being -1, of a list or a text -/
namespace Xc
open PySem PySem.Spec PyProof.Rows L2
theorem picked_rev (x : Str) (u : Tok) : (slicePicked x none none (some (-1, u))).filterMap (x.cps[·]?) = x.cps.toList.reverse := by
  show (sliceRange ((x.length : Int) - 1) (-1) (-1)).filterMap (x.cps[·]?) = _
  rw [PySem.W.krv_sliceRange, PySem.W.krv_range, List.filterMap_reverse]
  exact congrArg List.reverse (PySem.W.krv_all x.cps)
def tRevG (K : PySem.W.Frag) (te : TE) : TE := fun σ H Q => te σ H fun x H1 => (∃ a xs, x = .ref a ∧ SqL K H1 a xs ∧ ∀ p, H1 p = none → Q (.ref p) (upd H1 p (.lst xs.reverse))) ∨ ∃ z : Str, x = .str z ∧ z.length ≤ sizeLine ∧ Q (.str ⟨z.cps.toList.reverse.toArray⟩) H1
section
variable {X : Cx} {e st : Expr} {te ts : TE} {p3 pos : Pos}
theorem pe_revG (he : PE X e te) (hs : PE X st ts) (h1 : ∀ σ H (Q : VK), Q (.int (-1)) H → ts σ H Q) : PE X (.Subscript e (.Slice none none (some st) p3) pos) (tRevG X.K te) := by
  refine ⟨fun pins s σ H Q I h => ?_⟩
  refine Subscript_ (thn (he.run pins s σ H _ I h) fun v s1 ⟨x, H1, I1, r1, q1⟩ => ?_)
  have hst : PO X (some st) (tPart ts) := po_some hs
  refine wpAny_Slice (thn (po_none.run pins s1 σ H1 (fun o H2 => o = none ∧ H2 = H1) I1 ⟨rfl, rfl⟩) fun vl s2 ⟨l, H2, I2, pl, el, e2⟩ => ?_)
  subst el e2
  refine thn (po_none.run pins s2 σ H2 (fun o H3 => o = none ∧ H3 = H2) I2 ⟨rfl, rfl⟩) fun vu s3 ⟨u, H3, I3, pu, eu, e3⟩ => ?_
  subst eu e3
  refine thn (hst.run pins s3 σ H3 (fun o H4 => o = some (-1) ∧ H4 = H3) I3 (h1 _ _ _ ⟨-1, rfl, rfl, rfl⟩)) fun vs s4 ⟨o, H4, I4, ps, eo, e4⟩ => ?_
  subst eo e4
  have I5 : Inv X pins σ H4 { s4 with heap := s4.heap.push { cls := .type "slice", data := .fields #[vl, vu, vs] } } := I4.kept (t' := s4.toks) fun b ob q => Heap.get?_push_of_some _ q
  rcases q1 with ⟨a, xs, ex, hx, q⟩ | ⟨z, ex, hz, q⟩
  · subst ex
    cases r1
    obtain ⟨its, r, ht, hz⟩ := I5.list hx
    have hlen := r.length
    show wpAny (model X.prog X.w) X.A (subscriptTail e (.Slice none none (some st) p3) (.ref a) (.ref s4.heap.objs.size)) (EP X pins σ Q) X.xe { s4 with heap := s4.heap.push { cls := .type "slice", data := .fields #[vl, vu, vs] } }
    refine tail_any (ops := [.ref a, .ref s4.heap.objs.size]) ht.isList.typeIs (PySem.slot_list_getitem.lookup) ?_ (by with_unfolding_all rfl)
    refine wpAny_getItem_list_slice ht.isList (Heap.IsSliceOf.new _ vl vu vs) pl pu ps (by decide) ?_ (by rw [List.size_toArray]; omega)
    rw [PySem.W.krv_pick]
    refine ⟨.ref _, _, I5.laid (t' := s4.toks) (o := .lst xs.reverse) (fun b ob q => Heap.get?_push_of_some _ q) (Nat.le_refl _) ?_, rfl, q _ (I5.hok.fresh (Nat.le_refl _))⟩
    exact ⟨by rw [List.length_reverse]; exact hz, _, 0, r.reverse, Heap.get?_push_size _ rfl⟩
  · subst ex
    obtain ⟨t, rfl⟩ := r1
    cases pl
    cases pu
    cases ps with
    | int _ uk =>
      show wpAny (model X.prog X.w) X.A (subscriptTail e (.Slice none none (some st) p3) (.str z t) (.ref s4.heap.objs.size)) (EP X pins σ Q) X.xe { s4 with heap := s4.heap.push { cls := .type "slice", data := .fields #[.none, .none, .int (-1) uk] } }
      refine tail_of_ItemOn ⟨"str", _, F.slot_str_getitem.lookup, typeIs_str _ _ _, wpAny_getItem_str_slice (l := none) (u := none) (st := some (-1, uk)) ⟨_, Heap.get?_push_size _ rfl, rfl, rfl⟩ (show ((-1 : Int) == 0) = false by decide)
        (post_val_or_str ⟨Nat.le_trans (Txt.sliceBy_le z none none (-1, uk) (show (-1 : Int) ≠ 0 by decide)) hz, fun t' c => ?_⟩)⟩ (ops := [.str z t, .ref s4.heap.objs.size]) (by with_unfolding_all rfl) (by intro _; cases e <;> rfl)
      refine ⟨.str ⟨z.cps.toList.reverse.toArray⟩, H4, I5.tok c, ⟨t', ?_⟩, q⟩
      have hc : (((some ((-1 : Int), uk)).map (·.1)).getD 1 == 1 && (slicePicked z none none (some (-1, uk))).length == z.length) = false := by
        show ((-1 : Int) == 1 && _) = false
        rw [show ((-1 : Int) == 1) = false by decide, Bool.false_and]
      rw [if_neg (by rw [hc]; exact Bool.false_ne_true), picked_rev]
end
end Xc
end P_X2
section P_M27
set_option Elab.async false
set_option linter.all false
set_option maxRecDepth 100000
set_option maxHeartbeats 4000000
/-! M27: x[::0 - 1] of a list or a text; a slot's own list handed out as an object; defs with their frame told -/
namespace Mi
open PySem PySem.Spec PyProof.Rows L2
def revVM : MH → MV → Option MV := fun hm x => match x with
  | .str s => if s.length ≤ zl then some (.str s.reverse) else none
  | x => (seqM hm x).map fun xs => .lst xs.reverse
section
variable {X : Cx} {W : WX} {e st : Expr} {ts : TE} {p3 pos p1 p2 p4 : Pos} {j k : Nat} {fe : EM}
theorem se_revG (he : PE X e (rdP X.K W fe)) (hs : PE X st ts) (h1 : ∀ σ H (Q : VK), Q (.int (-1)) H → ts σ H Q) : PE X (.Subscript e (.Slice none none (some st) p3) pos) (rdE X.K W (un1 revVM fe)) :=
  imp_e (Xc.pe_revG he hs h1) fun σ H Q h => by
    obtain ⟨g, σm, hm, rl, R, p⟩ := h
    refine ⟨g, σm, hm, rl, R, (Post.bind rl p).mono fun x g1 hm1 H1 e1 p1 v px => ?_⟩
    have p1 : Post X.K W g1 hm1 σ H1 (optR (revVM hm1 x) hm1) fun m g' _ H' => ∀ v, RV X.K g' H' m v → Q v H' := p1
    cases c : revVM hm1 x with
    | none => rw [c] at p1; exact p1.elim
    | some m =>
      rw [c] at p1
      unfold revVM at c
      split at c
      · rename_i s
        split at c
        · rename_i hz
          cases c
          have ev := px.str_inv
          subst ev
          exact .inr ⟨_, rfl, by rw [str_len, zl_eq]; exact hz, p1 g1 H1 (.refl e1.rel) _ (.str _)⟩
        · cases c
      · obtain ⟨xs, c2, rfl⟩ := map_some c
        obtain ⟨a, ws, rfl, h1, rs, z⟩ := px.seq e1.rel c2
        refine .inl ⟨a, ws, rfl, h1, fun l hl => ?_⟩
        have e2 := Ext.fz e1.rel (p := l) (o := .lst ws.reverse) hl
        exact p1 _ _ e2 _ (.lst (.inr rfl) upd_same (by rw [List.length_reverse]; exact z) (rs.reverse.up (e2.up e1.rel)))
/-- the step is written 0 - 1 -/
theorem se_rev01 (he : PE X e (rdP X.K W fe)) : PE X (.Subscript e (.Slice none none (some (.BinOp (.Constant (.int 0) j p1) .Sub (.Constant (.int 1) k p2) p4)) p3) pos) (rdE X.K W (un1 revVM fe)) :=
  se_revG he (pe_op (ta := tC (.int 0)) (tb := tC (.int 1)) op_sub pe_int pe_int) fun σ H Q q => ⟨0, 1, rfl, rfl, q⟩
/-- the step is written -1 -/
theorem se_revU (he : PE X e (rdP X.K W fe)) : PE X (.Subscript e (.Slice none none (some (.UnaryOp .USub (.Constant (.int 1) k p1) p2)) p3) pos) (rdE X.K W (un1 revVM fe)) :=
  se_revG he (pe_un (ta := tC (.int 1)) un_neg pe_int) fun σ H Q q => ⟨1, rfl, q⟩
end
/-- a slot's own list, handed out as an object that may change -/
def ownO (i : Nat) : OM := fun σ h => match σ[i]? with
  | some (.own xs) => .ok xs h
  | _ => .no
def retOwnS (i : Nat) : SM := fun σ h => match σ[i]? with
  | some (.own xs) => .rt (.ref h.nx) (h.push (.lst xs))
  | _ => .no
section
variable {X : Cx} {W : WX} {x : Str} {i : Nat} {p pos : Pos}
theorem ss_retOwn (nv : NmV X x i) : PS X (.Return (some (.Name x p)) pos) (rdS X.K W (retOwnS i)) := imp_s (ps_ret nv.raw) fun D σ H h => by
  obtain ⟨B, g, hm, σm, s, p⟩ := h
  unfold retOwnS at p
  cases c : σm[i]? with
  | none => rw [c] at p; exact p.elim
  | some t =>
    cases t with
    | un => rw [c] at p; exact p.elim
    | val m => rw [c] at p; exact p.elim
    | own xs =>
      rw [c] at p
      obtain ⟨a, vs, h1, z, h2, h3, nf, nl⟩ := s.en.own c
      have h0 := s.ow i xs a c h1
      obtain ⟨e2, rv⟩ := Ext.pushO s.gr s.ex (a := a) (o1 := .lst xs) h0 ⟨z, vs, h2, h3⟩ nf nl
      exact ⟨_, h1, p _ H _ e2 rv⟩
end
/-! ### defs with their frame told -/
section
variable {fa : List He.Fa} {fn : List He.DefD} {ex : Kf → Bool} {K : Kf} {mg : Str → Option Value} {P : Program} {w : World} {base : Heap} {d : He.DefD} {x : Str} {N ps : List Str} {k n : Nat}
theorem fn_okX {x qual : Str} {params : Arguments} {body : List Stmt} {scope : Scope} {dvs : List V} {kws : List (Str × V)} {f : Addr} {fd : FuncData} {N ps : List Str} {k n : Nat} {b : SM}
    (Fd : FunD K x qual params body scope dvs kws f fd) (S : FnScope N ps scope) (hn : ps.length = n) (NN : Nat) (hN : N.length = NN)
    (hbody : ∀ (X : Cx), X.prog = P → X.w = w → X.K = K → X.mg = mg → X.base = base → X.N = N → X.env.scope = scope → X.calm = true → (∀ x, X.fn x = true) → Room k X.A → Frm X → PassesOwn (model X.prog X.w) X.A X.env X.xe → ∀ W, Takes X W → PSs X body (rdS X.K W b)) :
    FnOk P w K mg base (L2.CX P w) (k + 1) f fd ps (spM K n (bodyF NN n b)) := by
  refine FunD.ok Fd S (fun vs H Q E h => by rw [hn]; exact h.1) fun cdv A outer s H vs Q E hr h => ?_
  have tk : Takes (cxOf (L2.CX P w) P w K mg base N qual scope f cdv A outer s H E) (fun cls d _ H => E cls d H) := takes_of rfl rfl rfl rfl
  refine ⟨_, hbody (cxOf (L2.CX P w) P w K mg base N qual scope f cdv A outer s H E) rfl rfl rfl rfl rfl rfl rfl rfl (fun _ => rfl) hr ⟨rfl, rfl⟩ (passes_of rfl) _ tk, ?_⟩
  obtain ⟨hl, g, hm, ms, rl, rv, p⟩ := h
  have hN2 : NN - n = N.length - vs.length := by rw [hN, hl]
  have R : REnv K g hm H (ms.map .val ++ List.replicate (NN - n) .un) (L2.start N vs) := start_env rv _ (by omega)
  refine ⟨⟨g, hm, H, fun _ _ => True, fun _ _ _ _ _ _ => trivial⟩, g, hm, _, ⟨rl, .refl rl, R, fun i xs a h1 h2 => ?_, trivial⟩, ?_⟩
  · exfalso
    by_cases c : i < ms.length
    · rw [List.getElem?_append_left (by simpa using c), List.getElem?_map] at h1
      cases q : ms[i]? with
      | none => rw [q] at h1; cases h1
      | some m => rw [q] at h1; cases h1
    · rw [List.getElem?_append_right (by simp; omega), List.getElem?_replicate] at h1
      split at h1 <;> cases h1
  · have p : Post K _ g hm [] H (match b (ms.map .val ++ List.replicate (NN - n) .un) hm with
      | .rt m h' => .ok m h'
      | .nx _ h' => .ok .non h'
      | .ex c m _ h' => .ex c m h'
      | _ => .no) fun m g' _ H' => ∀ v, RV K g' H' m v → Q v H' := p
    cases c : b (ms.map .val ++ List.replicate (NN - n) .un) hm with
    | rt m h' => rw [c] at p; exact fun g' H' v e r => p g' H' e v r
    | nx σ' h' => rw [c] at p; exact fun g' H' σ'' s => p g' H' s.ex .non .non
    | ex c1 m σ' h' => rw [c] at p; exact fun g' H' σ'' cls d s x => p g' H' cls d s.ex x
    | bk σ' h' => rw [c] at p; exact p.elim
    | ct σ' h' => rw [c] at p; exact p.elim
    | no => rw [c] at p; exact p
theorem Md.fbX {b : SM} (M : Md fa fn ex K mg) (i : Nat) (hd : fn[i]? = some d) (hy : mg x = some (.ref (He.ga K x))) (hat : d.at_ = (x, none)) (S : FnScope N ps d.scope) (hn : ps.length = n)
    (hbody : ∀ (X : Cx), Cn X P w K mg base N d.scope (fun _ => true) k → Frm X → PassesOwn (model X.prog X.w) X.A X.env X.xe → ∀ W, Takes X W → PSs X d.body (rdS X.K W b)) : FnB P w K mg base (k + 1) x ps n d (bodyF N.length n b) := by
  obtain ⟨fd, F⟩ := M.d.def_ i hd
  have e : He.fAd K d.at_ = He.ga K x := by rw [hat] <;> rfl
  rw [e] at F
  exact ⟨fd, hy, F, fn_okX F S hn N.length rfl fun X e1 e2 e3 e4 e5 e6 e7 e8 e9 e10 e11 e12 W tk => hbody X ⟨e1, e2, e3, e4, e5, e6, e7, e8, fun x _ => e9 x, e10, S.nd⟩ e11 e12 W tk⟩
end
end Mi
end P_M27
section P_M28
set_option Elab.async false
set_option linter.all false
set_option maxRecDepth 100000
set_option maxHeartbeats 4000000
/-! M28: dicts whose keys are ints and texts, read: {}, len, in, [], walked -/
namespace Mi
open PySem PySem.Spec PyProof.Rows L2
def dicM (hm : MH) : MV → Option (List (Key × MV))
  | .dic ks => some ks
  | .ref n => (match hm.get n with
    | some (.dic ks) => some ks
    | _ => none)
  | _ => none
section
variable {K : Kf} {g : Gh} {hm : MH} {H : Hp}
theorem RP.dicR {m : MV} {v : V} {ks : List (Key × MV)} (rl : Rel K g hm H) (r : RP K g hm H m v) (e : dicM hm m = some ks) : ∃ a kvs, v = .ref a ∧ Rd H a (.dK kvs) ∧ RKs K g H ks kvs := by
  unfold dicM at e
  split at e
  · cases e
    cases r with
    | of r => cases r with
      | dic f h rs => exact ⟨_, _, rfl, .inr ⟨_, h⟩, rs⟩
  · split at e
    · rename_i n _ ks' c
      cases e
      obtain ⟨kvs, h, rs⟩ := rl.ob n _ c
      exact ⟨_, kvs, r.ref_inv, .inl h, rs⟩
    · cases e
  · cases e
/-! len -/
def rLenD : RN := fun xs H Q => ∃ a kvs, xs = [.ref a] ∧ Rd H a (.dK kvs) ∧ Q (.int (kvs.length : Nat)) H
theorem cr_lenD {X : Cx} : CallR X (.builtin "len") rLenD := by
  intro pins s σ H xs us Q I r h
  obtain ⟨a, kvs, rfl, e, q⟩ := h
  obtain ⟨u, rfl, rx⟩ := vals1 r
  cases rx
  exact d_len I e fun t s' I' => ⟨.int (kvs.length : Nat), H, I', ⟨t, rfl⟩, q⟩
theorem CallR.or {X : Cx} {f : Value} {r r' : RN} (h : CallR X f r) (h' : CallR X f r') : CallR X f fun xs H Q => r xs H Q ∨ r' xs H Q :=
  fun pins s σ H xs us Q I rx q => q.elim (h pins s σ H xs us Q I rx) (h' pins s σ H xs us Q I rx)
def lenDM : MH → List MV → Option MV := fun hm xs => match xs with
  | [x] => (match dicM hm x with
    | some ks => some (.int (ks.length : Nat))
    | none => lenM hm [x])
  | _ => none
theorem vp_lenD : VPn K (fun xs H Q => rLen' K xs H Q ∨ rLenD xs H Q) lenDM := by
  intro g hm H xs vs m Q rl ps e k
  unfold lenDM at e
  split at e
  · rename_i x
    split at e
    · rename_i ks c
      cases e
      obtain ⟨v, rfl, px⟩ := ps.one
      obtain ⟨a, kvs, rfl, h, rs⟩ := px.dicR rl c
      exact .inr ⟨a, kvs, rfl, h, by rw [← rs.length]; exact k g H _ (.refl rl) (.int _)⟩
    · exact .inl (vp_len g hm H [x] vs m Q rl ps e k)
  · cases e
/-! in -/
def rInDic (neg : Bool) : R2 := fun x y H Q => ∃ a o, y = .ref a ∧ DGet H a x o ∧ Q (.bl (if neg then !o.isSome else o.isSome)) H
theorem op_inDic {X : Cx} (hu : X.A.units + 1 < cLine) : OpR X (compareOp .In) (rInDic false) := by
  intro pins s σ H x y v u Q I rx ry h
  obtain ⟨a, o, rfl, g, q⟩ := h
  cases ry
  exact d_in hu I g rx fun s' I' => ⟨.bl o.isSome, H, I', rfl, q⟩
theorem op_notInDic {X : Cx} (hu : X.A.units + 1 < cLine) : OpR X (compareOp .NotIn) (rInDic true) := by
  intro pins s σ H x y v u Q I rx ry h
  obtain ⟨a, o, rfl, g, q⟩ := h
  cases ry
  exact d_notIn hu I g rx fun s' I' => ⟨.bl (!o.isSome), H, I', rfl, q⟩
def inDicB (hm : MH) (x y : MV) : Option Bool := match dicM hm y, keyM x with
  | some ks, some k => some (ks.any fun kv => decide (kv.1 = k))
  | _, _ => none
theorem RP.key {m : MV} {v : V} {k : Key} (r : RP K g hm H m v) (h : keyM m = some k) : v = kV k := by
  cases r with
  | of r => exact kV_of r h
  | own z ha rv nl => cases h
theorem vp_inDic (neg : Bool) : VP2 K (rInDic neg) fun hm x y => (inDicB hm x y).map fun b => .bl (if neg then !b else b) := by
  intro g hm H x y vx vy m Q rl px py e k
  obtain ⟨b, e1, rfl⟩ := map_some e
  unfold inDicB at e1
  split at e1
  · rename_i ks q c1 c2
    cases e1
    obtain ⟨a, kvs, rfl, h, rs⟩ := py.dicR rl c1
    refine ⟨a, valV kvs q, rfl, .inl ⟨kvs, q, h, px.key c2, rfl⟩, ?_⟩
    have ea : (ks.any fun kv => decide (kv.1 = q)) = (valV kvs q).isSome := by rw [rs.any, valV_any]
    rw [ea] at k
    exact k g H _ (.refl rl) (.bl _)
  · cases e1
def inDM : MH → MV → MV → Option MV := fun hm x y => (inM hm x y).or ((inDicB hm x y).map .bl)
def notInDM : MH → MV → MV → Option MV := fun hm x y => (notInM hm x y).or ((inDicB hm x y).map fun b => .bl (!b))
theorem vp_inD : VP2 K (fun x y H Q => rInM K x y H Q ∨ rInDic false x y H Q) inDM := VP2.or vp_in (vp_inDic false)
theorem vp_notInD : VP2 K (fun x y H Q => rNotInM K x y H Q ∨ rInDic true x y H Q) notInDM := VP2.or vp_notIn (vp_inDic true)
end
section
variable {X : Cx} {P : Program} {w : World} {K : Kf} {mg : Str → Option Value} {base : Heap} {N : List Str} {sc : Scope} {own : Str → Bool} {k : Nat}
theorem Cn.opInD (J : Cn X P w K mg base N sc own k) : OpR X (compareOp .In) (fun x y H Q => rInM X.K x y H Q ∨ rInDic false x y H Q) := OpR.or J.opIn (op_inDic (by have := J.units; omega))
theorem Cn.opNotInD (J : Cn X P w K mg base N sc own k) : OpR X (compareOp .NotIn) (fun x y H Q => rNotInM X.K x y H Q ∨ rInDic true x y H Q) := OpR.or J.opNotIn (op_notInDic (by have := J.units; omega))
theorem cr_lenDD : CallR X (.builtin "len") (fun xs H Q => rLen' X.K xs H Q ∨ rLenD xs H Q) := CallR.or call_len cr_lenD
theorem Cn.xv {W : WX} {e : Expr} {pos : Pos} {fe : EM} {cs : List Str} (J : Cn X P w K mg base N sc own k) (ht : xvB K cs = true) (he : PE X e (rdE X.K W fe)) (hb : attributeBase e "value" X.env (eval e X.env) = eval e X.env := by rfl) :
    PE X (.Attribute e "value" pos) (rdE X.K W (un1 (xvalM cs) fe)) := se_xv (by rw [J.eK]; exact ht) he hb
theorem Cn.isC {W : WX} {a : Expr} {x c : Str} {p pp pos : Pos} {ex ins : List (Str × Bool)} {fa : EM} (J : Cn X P w K mg base N sc own k) (n : NmB X x (.builtin "isinstance")) (g : NmG X c) (hm : mg c = some (.ref (He.ga K c))) (T : isTB K c ex ins = true) (ha : PE X a (rdP X.K W fa))
    (hs : starEach [a, .Name c pp] X.env = (false, eval a X.env) :: starEach [.Name c pp] X.env := by rfl) : PE X (.Call (.Name x p) [a, .Name c pp] [] pos) (rdE X.K W (un1 (isCM ex ins) fa)) :=
  se_isC n g (by rw [J.em, J.eK]; exact hm) (by rw [J.eK]; exact isTB_ok T) ha hs
end
/-! {} -/
section
variable {X : Cx} {W : WX} {e : Expr} {pos : Pos} {f : EM}
theorem se_dnil : PE X (.Dict [] [] pos) (rdE X.K W (cE (.dic []))) := imp_e (Xc.pe_frz pe_dnewK) fun σ H Q q => by
  obtain ⟨g, σm, hm, rl, R, p⟩ := q
  intro p0 hp0
  refine ⟨p0, _, rfl, upd_same, trivial, fun od => ?_⟩
  rw [upd_upd]
  have e2 := Ext.fz rl (p := p0) (o := .frz od (.dK [])) hp0
  exact p _ _ e2 _ (.dic (.inr rfl) upd_same .nil)
end
/-! walked -/
def keyMV : Key → MV
  | .inl i => .int i
  | .inr s => .str s.cps.toList
theorem keyMV_rv {K : Kf} {g : Gh} {H : Hp} : ∀ k : Key, RV K g H (keyMV k) (kV k)
  | .inl i => .int i
  | .inr s => by
    have e : kV (.inr s : Key) = .str ⟨s.cps.toList.toArray⟩ := by
      show V.str s = _
      rw [toS_of]
    rw [e]
    exact .str _
def itemsD (m : MV) (h : MH) : Res (List MV) := match m with
  | .dic ks => .ok (ks.map fun p => keyMV p.1) h
  | m => itemsM m h
def itAnyD (f : EM) : OM := bindE f fun m _ h => itemsD m h
theorem RKs.get {K : Kf} {g : Gh} {H : Hp} : ∀ {ks : List (Key × MV)} {kvs : List (Key × V)} {i : Nat}, RKs K g H ks kvs → ∀ {k : Key} {m : MV}, ks[i]? = some (k, m) → ∃ v, kvs[i]? = some (k, v) ∧ RV K g H m v
  | _, _, i, .nil, _, _, e => by simp at e
  | _, _, 0, .cons r rs, _, _, e => by
    simp at e
    obtain ⟨rfl, rfl⟩ := e
    exact ⟨_, rfl, r⟩
  | _, _, i + 1, .cons r rs, _, _, e => by
    obtain ⟨v, h1, h2⟩ := RKs.get (i := i) rs (by simpa using e)
    exact ⟨v, by simpa using h1, h2⟩
section
variable {X : Cx} {W : WX} {tg e : Expr} {f : EM}
theorem it_dic {K : Kf} {g0 : Gh} {H0 : Hp} {a : Addr} {o : Obj} {ks : List (Key × MV)} {kvs : List (Key × V)} (F : g0.F a) (h : H0 a = some (.frz o (.dK kvs))) (rs : RKs K g0 H0 ks kvs) : ItOk K (fun g _ H => Up g0 H0 g H) (Itk a o kvs) (ks.map fun p => keyMV p.1) := fun g hm H rl u i => by
  have h1 := u.hp _ _ F h
  have rs1 := rs.up u
  refine ⟨fun m hm' => ?_, fun hi => ?_⟩
  · rw [List.getElem?_map] at hm'
    obtain ⟨⟨k, m0⟩, c, rfl⟩ := map_some hm'
    obtain ⟨v, hv, r⟩ := rs1.get c
    refine ⟨⟨h1, by rw [← rs.length]; exact (List.getElem?_eq_some_iff.mp c).1⟩, fun x H' y => ?_⟩
    obtain ⟨rfl, k', v', e1, rfl⟩ := y
    rw [hv] at e1
    cases e1
    exact ⟨g, .refl rl, keyMV_rv k⟩
  · rw [List.length_map] at hi
    exact ⟨h1, by rw [← rs.length]; exact hi⟩
theorem si_dic (he : PE X e (rdE X.K W f)) : PI X tg e (rdI X.K W (bindE f fun m _ h => match m with
    | .dic ks => .ok (ks.map fun p => keyMV p.1) h
    | _ => .no)) := imp_i (pi_keys he) fun σ H R h => by
  obtain ⟨g, σm, hm, rl, Rn, p⟩ := h
  refine ⟨g, σm, hm, rl, Rn, (Post.bind rl p).mono fun m g' hm' H' e q v rv => ?_⟩
  cases m with
  | dic ks =>
    cases rv with
    | dic F h rs => exact ⟨_, _, rfl, .inl ⟨_, h, q g' H' (.refl e.rel) _ (it_dic F h rs)⟩⟩
  | _ => exact False.elim q
theorem si_anyD (he : PE X e (rdE X.K W f)) : PI X tg e (rdI X.K W (itAnyD f)) :=
  imp_i (pi_or (si_any (W := W) he) (si_dic (W := W) he)) fun σ H R h => by
    obtain ⟨g, σm, hm, rl, Rn, p⟩ := h
    cases c : f σm hm with
    | ok m h' =>
      unfold itAnyD bindE at p
      rw [c] at p
      cases m with
      | dic xs => exact .inr ⟨g, σm, hm, rl, Rn, by unfold bindE; rw [c]; exact p⟩
      | _ => exact .inl ⟨g, σm, hm, rl, Rn, by unfold itAny bindE; rw [c]; exact p⟩
    | ex c1 m h' =>
      unfold itAnyD bindE at p
      rw [c] at p
      exact .inl ⟨g, σm, hm, rl, Rn, by unfold itAny bindE; rw [c]; exact p⟩
    | no =>
      unfold itAnyD bindE at p
      rw [c] at p
      exact p.elim
end
end Mi
end P_M28
section P_G83a
set_option Elab.async false
set_option linter.all false
set_option maxRecDepth 100000
set_option maxHeartbeats 0
/-! the defs: mirrors, derivations; printed by gen.py -/
namespace K83
open PySem PySem.Spec PyProof.Rows L2 Mi
-- levels: is_whole 1, is_count 2, is_tuple_of 1, is_cell 3, beside 1, parts_there 2, is_floor 4, check_floor 5, check_rows 3, drawn 1, floor_drawing 6, read_floor 5, _law_purse 1, _law_mixed 1, _law_draw 2, _law_purses 2, _law_one_of 3, _law_exact 13, _law_of_signs 4, _law_is_floor 1, _law_grown_floor 4, _law_drawn 1, _law_due 2, _law_heard 7, _law_right 14, law 15
section
variable {w : World} {K : Kf} {mg : Str → Option Value} {base : Heap}
theorem bt_abs : bootBuiltins "abs" = some (.builtin "abs") := by decide +kernel
theorem m_abs (M : Md fa fn ex K mg) : mg "abs" = none := M.free 27
theorem bt_all : bootBuiltins "all" = some (.builtin "all") := by decide +kernel
theorem m_all (M : Md fa fn ex K mg) : mg "all" = none := M.free 28
theorem bt_bool : bootBuiltins "bool" = some (.type "bool") := by decide +kernel
theorem m_bool (M : Md fa fn ex K mg) : mg "bool" = none := M.free 29
theorem bt_dict : bootBuiltins "dict" = some (.type "dict") := by decide +kernel
theorem m_dict (M : Md fa fn ex K mg) : mg "dict" = none := M.free 30
theorem bt_enumerate : bootBuiltins "enumerate" = some (.type "enumerate") := by decide +kernel
theorem m_enumerate (M : Md fa fn ex K mg) : mg "enumerate" = none := M.free 31
theorem bt_int : bootBuiltins "int" = some (.type "int") := by decide +kernel
theorem m_int (M : Md fa fn ex K mg) : mg "int" = none := M.free 32
theorem bt_isinstance : bootBuiltins "isinstance" = some (.builtin "isinstance") := by decide +kernel
theorem m_isinstance (M : Md fa fn ex K mg) : mg "isinstance" = none := M.free 33
theorem bt_len : bootBuiltins "len" = some (.builtin "len") := by decide +kernel
theorem m_len (M : Md fa fn ex K mg) : mg "len" = none := M.free 34
theorem bt_list : bootBuiltins "list" = some (.type "list") := by decide +kernel
theorem m_list (M : Md fa fn ex K mg) : mg "list" = none := M.free 35
theorem bt_max : bootBuiltins "max" = some (.builtin "max") := by decide +kernel
theorem m_max (M : Md fa fn ex K mg) : mg "max" = none := M.free 36
theorem bt_min : bootBuiltins "min" = some (.builtin "min") := by decide +kernel
theorem m_min (M : Md fa fn ex K mg) : mg "min" = none := M.free 37
theorem bt_range : bootBuiltins "range" = some (.type "range") := by decide +kernel
theorem m_range (M : Md fa fn ex K mg) : mg "range" = none := M.free 38
theorem bt_sorted : bootBuiltins "sorted" = some (.builtin "sorted") := by decide +kernel
theorem m_sorted (M : Md fa fn ex K mg) : mg "sorted" = none := M.free 39
theorem bt_str : bootBuiltins "str" = some (.type "str") := by decide +kernel
theorem m_str (M : Md fa fn ex K mg) : mg "str" = none := M.free 40
theorem bt_sum : bootBuiltins "sum" = some (.builtin "sum") := by decide +kernel
theorem m_sum (M : Md fa fn ex K mg) : mg "sum" = none := M.free 41
theorem bt_tuple : bootBuiltins "tuple" = some (.type "tuple") := by decide +kernel
theorem m_tuple (M : Md fa fn ex K mg) : mg "tuple" = none := M.free 42
theorem bt_zip : bootBuiltins "zip" = some (.type "zip") := by decide +kernel
theorem m_zip (M : Md fa fn ex K mg) : mg "zip" = none := M.free 43
theorem mc_InvalidFloor (M : Md fa fn ex K mg) : mg "InvalidFloor" = some (.ref (He.ga K "InvalidFloor")) := M.glo 44
theorem x_InvalidFloor (M : Md fa fn ex K mg) : ExS R.prog w K mg base 1 "InvalidFloor" := M.exc 3 (d := d_InvalidFloor___init__) rfl rfl (He.ba M.e).1 (mc_InvalidFloor M) ⟨rfl, rfl, rfl, by decide +kernel, rfl, by decide +kernel, by decide +kernel⟩ (fun fd F => Md.bind1 F 2 1 (List.cons_ne_nil _ _) rfl (fun _ _ => .nil) fun _ _ _ _ _ _ _ us its hl hi => match us, its, hl, hi with | [_, _], [_], _, _ => ⟨_, rfl, rfl⟩) fun X J => by
  have v_self : NmV _ "self" 0 := J.v (by decide +kernel)
  have v_value : NmV _ "value" 1 := J.v (by decide +kernel)
  exact pss_one (ps_ost v_self.raw v_value.raw)
theorem mc_InvalidText (M : Md fa fn ex K mg) : mg "InvalidText" = some (.ref (He.ga K "InvalidText")) := M.glo 45
theorem x_InvalidText (M : Md fa fn ex K mg) : ExS R.prog w K mg base 1 "InvalidText" := M.exc 9 (d := d_InvalidText___init__) rfl rfl (He.ba (He.ba M.e).2).1 (mc_InvalidText M) ⟨rfl, rfl, rfl, by decide +kernel, rfl, by decide +kernel, by decide +kernel⟩ (fun fd F => Md.bind1 F 2 1 (List.cons_ne_nil _ _) rfl (fun _ _ => .nil) fun _ _ _ _ _ _ _ us its hl hi => match us, its, hl, hi with | [_, _], [_], _, _ => ⟨_, rfl, rfl⟩) fun X J => by
  have v_self : NmV _ "self" 0 := J.v (by decide +kernel)
  have v_value : NmV _ "value" 1 := J.v (by decide +kernel)
  exact pss_one (ps_ost v_self.raw v_value.raw)
theorem mc_NotDrawn (M : Md fa fn ex K mg) : mg "NotDrawn" = some (.ref (He.ga K "NotDrawn")) := M.glo 46
theorem x_NotDrawn (M : Md fa fn ex K mg) : ExS R.prog w K mg base 1 "NotDrawn" := M.exc 10 (d := d_NotDrawn___init__) rfl rfl (He.ba (He.ba (He.ba M.e).2).2).1 (mc_NotDrawn M) ⟨rfl, rfl, rfl, by decide +kernel, rfl, by decide +kernel, by decide +kernel⟩ (fun fd F => Md.bind1 F 2 1 (List.cons_ne_nil _ _) rfl (fun _ _ => .nil) fun _ _ _ _ _ _ _ us its hl hi => match us, its, hl, hi with | [_, _], [_], _, _ => ⟨_, rfl, rfl⟩) fun X J => by
  have v_self : NmV _ "self" 0 := J.v (by decide +kernel)
  have v_value : NmV _ "value" 1 := J.v (by decide +kernel)
  exact pss_one (ps_ost v_self.raw v_value.raw)
theorem mc_SightError (M : Md fa fn ex K mg) : mg "SightError" = some (.ref (He.ga K "SightError")) := M.glo 47
def ht_SightError : List (Str × Bool) := [("InvalidFloor", true), ("InvalidText", true), ("NotDrawn", true)]
theorem ht_ok_SightError (M : Md fa fn ex K mg) : exmT K "SightError" ht_SightError = true := (He.ba (He.ba (He.ba (He.ba M.e).2).2).2).1
def is_InvalidFloor : List (Str × Bool) × List (Str × Bool) := ([("InvalidFloor", true), ("InvalidText", false), ("NotDrawn", false)], [])
theorem isc_InvalidFloor (M : Md fa fn ex K mg) : isTB K "InvalidFloor" is_InvalidFloor.1 is_InvalidFloor.2 = true := (He.ba (He.ba (He.ba (He.ba (He.ba M.e).2).2).2).2).1
def is_InvalidText : List (Str × Bool) × List (Str × Bool) := ([("InvalidFloor", false), ("InvalidText", true), ("NotDrawn", false)], [])
theorem isc_InvalidText (M : Md fa fn ex K mg) : isTB K "InvalidText" is_InvalidText.1 is_InvalidText.2 = true := (He.ba (He.ba (He.ba (He.ba (He.ba (He.ba M.e).2).2).2).2).2).1
def is_NotDrawn : List (Str × Bool) × List (Str × Bool) := ([("InvalidFloor", false), ("InvalidText", false), ("NotDrawn", true)], [])
theorem isc_NotDrawn (M : Md fa fn ex K mg) : isTB K "NotDrawn" is_NotDrawn.1 is_NotDrawn.2 = true := (He.ba (He.ba (He.ba (He.ba (He.ba (He.ba (He.ba M.e).2).2).2).2).2).2).1
def xvals : List Str := ["InvalidFloor", "InvalidText", "NotDrawn"]
theorem xv_ok (M : Md fa fn ex K mg) : xvB K xvals = true := (He.ba (He.ba (He.ba (He.ba (He.ba (He.ba (He.ba (He.ba M.e).2).2).2).2).2).2).2).1
def b_is_whole : SM := (retS (andE (un1 (isiM .int) (peekE 0)) (un1 notM (un1 (isiM .bool) (peekE 0)))))
def F_is_whole : List MV → MH → Res MV := bodyF 1 1 b_is_whole
theorem fb_is_whole (M : Md fa fn ex K mg) : FnB R.prog w K mg base 1 "is_whole" ["value"] 1 d_is_whole F_is_whole := by
  refine M.fb (N := ["value"]) (ps := ["value"]) 0 (d := d_is_whole) rfl (M.glo 0) rfl ⟨rfl, rfl, rfl, by decide +kernel, rfl, by decide +kernel, by decide +kernel⟩ rfl fun X J hp W tk => ?_
  have v_value : NmV _ "value" 0 := J.v (by decide +kernel)
  have b_isinstance : NmB _ "isinstance" (.builtin "isinstance") := J.b (m_isinstance M) bt_isinstance (by decide +kernel)
  have b_int : NmB _ "int" (.type "int") := J.b (m_int M) bt_int (by decide +kernel)
  have b_bool : NmB _ "bool" (.type "bool") := J.b (m_bool M) bt_bool (by decide +kernel)
  exact (ss_one (ss_ret (se_and (se_isi (b := .int) b_isinstance b_int (by decide) v_value.peek) (se_one (se_not (se_isi (b := .bool) b_isinstance b_bool (by decide) v_value.peek))))))
theorem f_is_whole (M : Md fa fn ex K mg) : FnS R.prog w K mg base 1 "is_whole" 1 [] F_is_whole := (fb_is_whole M).s (fun fd F => Md.bindN F fun _ _ _ _ _ _ us hl => match us, hl with | [_], _ => rfl)
def b_is_count : SM := (retS (andE (callE (callN 1 F_is_whole) [] (consA (varE 0) nilA)) (bin2 geM (peekE 0) (callB maxM (consA (peekE 1) (consA (cE (.int 0)) nilA))))))
def F_is_count : List MV → MH → Res MV := bodyF 2 2 b_is_count
theorem fb_is_count (M : Md fa fn ex K mg) : FnB R.prog w K mg base 2 "is_count" ["value", "least"] 2 d_is_count F_is_count := by
  refine M.fb (N := ["value", "least"]) (ps := ["value", "least"]) 1 (d := d_is_count) rfl (M.glo 1) rfl ⟨rfl, rfl, rfl, by decide +kernel, rfl, by decide +kernel, by decide +kernel⟩ rfl fun X J hp W tk => ?_
  have v_value : NmV _ "value" 0 := J.v (by decide +kernel)
  have g_is_whole : NmG _ "is_whole" := J.g (by decide +kernel)
  have v_least : NmV _ "least" 1 := J.v (by decide +kernel)
  have b_max : NmB _ "max" (.builtin "max") := J.b (m_max M) bt_max (by decide +kernel)
  exact (ss_one (ss_ret (se_and (J.call tk (f_is_whole M) (by decide) g_is_whole (sa_cons v_value.var sa_nil)) (se_one (se_cmp op_geM vp_ge (nomark _) v_value.peek (toP (se_callB (cr_maxM J.calm) vp_max b_max (spa_cons v_least.peek (spa_cons (toP se_int) spa_nil)))))))))
theorem f_is_count (M : Md fa fn ex K mg) : FnS R.prog w K mg base 2 "is_count" 2 [] F_is_count := (fb_is_count M).s (fun fd F => Md.bind1 F 2 1 (List.cons_ne_nil _ _) rfl (fun _ _ => .nil) fun _ _ _ _ _ _ _ us its hl hi => match us, its, hl, hi with | [_, _], [_], _, _ => ⟨_, rfl, rfl⟩)
theorem f_is_count_1 (M : Md fa fn ex K mg) : FnS R.prog w K mg base 2 "is_count" 2 [.int (0)] F_is_count := (fb_is_count M).s (fun fd F => Md.bind1 F 1 0 (List.cons_ne_nil _ _) rfl (fun _ _ => (.cons (.int (0)) .nil)) fun _ _ _ _ _ _ _ us its hl hi => match us, its, hl, hi with | [_], [_], _, _ => ⟨_, rfl, rfl⟩)
def b_is_tuple_of : SM := (retS (andE (un1 (isiM .tuple) (peekE 0)) (bin2 eqM (callB lenM (consA (peekE 0) nilA)) (peekE 1))))
def F_is_tuple_of : List MV → MH → Res MV := bodyF 2 2 b_is_tuple_of
theorem fb_is_tuple_of (M : Md fa fn ex K mg) : FnB R.prog w K mg base 1 "is_tuple_of" ["value", "size"] 2 d_is_tuple_of F_is_tuple_of := by
  refine M.fb (N := ["value", "size"]) (ps := ["value", "size"]) 2 (d := d_is_tuple_of) rfl (M.glo 2) rfl ⟨rfl, rfl, rfl, by decide +kernel, rfl, by decide +kernel, by decide +kernel⟩ rfl fun X J hp W tk => ?_
  have v_value : NmV _ "value" 0 := J.v (by decide +kernel)
  have b_isinstance : NmB _ "isinstance" (.builtin "isinstance") := J.b (m_isinstance M) bt_isinstance (by decide +kernel)
  have b_tuple : NmB _ "tuple" (.type "tuple") := J.b (m_tuple M) bt_tuple (by decide +kernel)
  have b_len : NmB _ "len" (.builtin "len") := J.b (m_len M) bt_len (by decide +kernel)
  have v_size : NmV _ "size" 1 := J.v (by decide +kernel)
  exact (ss_one (ss_ret (se_and (se_isi (b := .tuple) b_isinstance b_tuple (by decide) v_value.peek) (se_one (se_cmp J.opEq vp_eq (nomark _) (toP (se_callB call_len vp_len b_len (spa_cons v_value.peek spa_nil))) v_size.peek)))))
theorem f_is_tuple_of (M : Md fa fn ex K mg) : FnS R.prog w K mg base 1 "is_tuple_of" 2 [] F_is_tuple_of := (fb_is_tuple_of M).s (fun fd F => Md.bindN F fun _ _ _ _ _ _ us hl => match us, hl with | [_, _], _ => rfl)
def b_is_cell : SM := (retS (andE (callE (callN 2 F_is_tuple_of) [] (consA (varE 0) (consA (cE (.int 2)) nilA))) (andE (callE (callN 2 F_is_count) [.int (0)] (consA (bin2 ixDM (peekE 0) (cE (.int 0))) nilA)) (callE (callN 2 F_is_count) [.int (0)] (consA (bin2 ixDM (peekE 0) (cE (.int 1))) nilA)))))
def F_is_cell : List MV → MH → Res MV := bodyF 1 1 b_is_cell
theorem fb_is_cell (M : Md fa fn ex K mg) : FnB R.prog w K mg base 3 "is_cell" ["value"] 1 d_is_cell F_is_cell := by
  refine M.fb (N := ["value"]) (ps := ["value"]) 4 (d := d_is_cell) rfl (M.glo 3) rfl ⟨rfl, rfl, rfl, by decide +kernel, rfl, by decide +kernel, by decide +kernel⟩ rfl fun X J hp W tk => ?_
  have v_value : NmV _ "value" 0 := J.v (by decide +kernel)
  have g_is_tuple_of : NmG _ "is_tuple_of" := J.g (by decide +kernel)
  have g_is_count : NmG _ "is_count" := J.g (by decide +kernel)
  exact (ss_one (ss_ret (se_and (J.call tk (f_is_tuple_of M) (by decide) g_is_tuple_of (sa_cons v_value.var (sa_cons se_int sa_nil))) (se_and (J.call tk (f_is_count_1 M) (by decide) g_is_count (sa_cons (se_at J.units (fun _ _ => rfl) (fun _ _ => rfl) v_value.peek (toP se_int)) sa_nil)) (se_one (J.call tk (f_is_count_1 M) (by decide) g_is_count (sa_cons (se_at J.units (fun _ _ => rfl) (fun _ _ => rfl) v_value.peek (toP se_int)) sa_nil)))))))
theorem f_is_cell (M : Md fa fn ex K mg) : FnS R.prog w K mg base 3 "is_cell" 1 [] F_is_cell := (fb_is_cell M).s (fun fd F => Md.bindN F fun _ _ _ _ _ _ us hl => match us, hl with | [_], _ => rfl)
def b_beside : SM := (retS (wrapL (lstO (consA (tupE (consA (bin2 subM (bin2 ixDM (peekE 0) (cE (.int 0))) (cE (.int 1))) (consA (bin2 ixDM (peekE 0) (cE (.int 1))) nilA))) (consA (tupE (consA (bin2 ixDM (peekE 0) (cE (.int 0))) (consA (bin2 subM (bin2 ixDM (peekE 0) (cE (.int 1))) (cE (.int 1))) nilA))) (consA (tupE (consA (bin2 ixDM (peekE 0) (cE (.int 0))) (consA (bin2 addM (bin2 ixDM (peekE 0) (cE (.int 1))) (cE (.int 1))) nilA))) (consA (tupE (consA (bin2 addM (bin2 ixDM (peekE 0) (cE (.int 0))) (cE (.int 1))) (consA (bin2 ixDM (peekE 0) (cE (.int 1))) nilA))) nilA)))))))
def F_beside : List MV → MH → Res MV := bodyF 1 1 b_beside
theorem fb_beside (M : Md fa fn ex K mg) : FnB R.prog w K mg base 1 "beside" ["cell"] 1 d_beside F_beside := by
  refine M.fb (N := ["cell"]) (ps := ["cell"]) 5 (d := d_beside) rfl (M.glo 4) rfl ⟨rfl, rfl, rfl, by decide +kernel, rfl, by decide +kernel, by decide +kernel⟩ rfl fun X J hp W tk => ?_
  have v_cell : NmV _ "cell" 0 := J.v (by decide +kernel)
  exact (ss_one (ss_ret (ofO (so_lst (sa_cons (se_tup (sa_cons (se_bin op_subM vp_sub (toP (se_at J.units (fun _ _ => rfl) (fun _ _ => rfl) v_cell.peek (toP se_int))) (toP se_int)) (sa_cons (se_at J.units (fun _ _ => rfl) (fun _ _ => rfl) v_cell.peek (toP se_int)) sa_nil))) (sa_cons (se_tup (sa_cons (se_at J.units (fun _ _ => rfl) (fun _ _ => rfl) v_cell.peek (toP se_int)) (sa_cons (se_bin op_subM vp_sub (toP (se_at J.units (fun _ _ => rfl) (fun _ _ => rfl) v_cell.peek (toP se_int))) (toP se_int)) sa_nil))) (sa_cons (se_tup (sa_cons (se_at J.units (fun _ _ => rfl) (fun _ _ => rfl) v_cell.peek (toP se_int)) (sa_cons (se_bin op_addM vp_add (toP (se_at J.units (fun _ _ => rfl) (fun _ _ => rfl) v_cell.peek (toP se_int))) (toP se_int)) sa_nil))) (sa_cons (se_tup (sa_cons (se_bin op_addM vp_add (toP (se_at J.units (fun _ _ => rfl) (fun _ _ => rfl) v_cell.peek (toP se_int))) (toP se_int)) (sa_cons (se_at J.units (fun _ _ => rfl) (fun _ _ => rfl) v_cell.peek (toP se_int)) sa_nil))) sa_nil))))))))
theorem f_beside (M : Md fa fn ex K mg) : FnS R.prog w K mg base 1 "beside" 1 [] F_beside := (fb_beside M).s (fun fd F => Md.bindN F fun _ _ _ _ _ _ us hl => match us, hl with | [_], _ => rfl)
def b_parts_there : SM := (seqS (par2S 2 3 (.v (callNew newCelM (consA (wrapL (compO [4] (itAny (varE 0)) (nameT 4) yesT (tupE (consA (varE 4) (consA (cE (.bl true)) nilA))))) nilA))) (.o (lstO nilA))) (seqS (forS (nameT 4) (itAny (wrapL (callBO sortedPM (consA (peekE 0) nilA)))) (ifS (tstE (bin2 inCelM (peekE 4) (peekE 2))) (seqS (par2S 5 6 (.o (lstO nilA)) (.o (lstO (consA (varE 4) nilA)))) (seqS (exprS (methE "dict" celPopM (peekE 2) (consA (varE 4) nilA))) (seqS (whileL (tstE (bin2 neM (peekE 6) (wrapL (lstO nilA)))) (seqS (popS 7 6) (seqS (mutS 5 appendM (consA (varE 7) nilA)) (forS (nameT 8) (itAny (callE (callN 1 F_beside) [] (consA (varE 7) nilA))) (ifS (andT (tstE (bin2 inCelM (peekE 8) (peekE 2))) (tstE (bin2 notIn0M (tupE (consA (callB minPM (consA (peekE 7) (consA (peekE 8) nilA))) (consA (callB maxPM (consA (peekE 7) (consA (peekE 8) nilA))) nilA))) (peekE 1)))) (seqS (exprS (methE "dict" celPopM (peekE 2) (consA (varE 8) nilA))) (mutS 6 appendM (consA (varE 8) nilA))) nextS)))) 1000000) (mutS 3 appendM (consA (wrapL (callBO sortedPM (consA (peekE 5) nilA))) nilA))))) nextS)) (fzS 3 (retS (varE 3)))))
def F_parts_there : List MV → MH → Res MV := bodyF 9 2 b_parts_there
theorem fb_parts_there (M : Md fa fn ex K mg) : FnB R.prog w K mg base 2 "parts_there" ["cells", "walls"] 2 d_parts_there F_parts_there := by
  refine M.fb (N := ["cells", "walls", "left", "found", "cell", "part", "todo", "here", "late"]) (ps := ["cells", "walls"]) 6 (d := d_parts_there) rfl (M.glo 5) rfl ⟨rfl, rfl, rfl, by decide +kernel, rfl, by decide +kernel, by decide +kernel⟩ rfl fun X J hp W tk => ?_
  have a_left : NmA _ "left" 2 := J.a (by decide +kernel)
  have a_found : NmA _ "found" 3 := J.a (by decide +kernel)
  have v_cells : NmV _ "cells" 0 := J.v (by decide +kernel)
  have b_dict : NmB _ "dict" (.type "dict") := J.b (m_dict M) bt_dict (by decide +kernel)
  have b_sorted : NmB _ "sorted" (.builtin "sorted") := J.b (m_sorted M) bt_sorted (by decide +kernel)
  have a_cell : NmA _ "cell" 4 := J.a (by decide +kernel)
  have v_cell : NmV _ "cell" 4 := J.v (by decide +kernel)
  have v_left : NmV _ "left" 2 := J.v (by decide +kernel)
  have a_part : NmA _ "part" 5 := J.a (by decide +kernel)
  have a_todo : NmA _ "todo" 6 := J.a (by decide +kernel)
  have v_todo : NmV _ "todo" 6 := J.v (by decide +kernel)
  have a_here : NmA _ "here" 7 := J.a (by decide +kernel)
  have v_here : NmV _ "here" 7 := J.v (by decide +kernel)
  have v_part : NmV _ "part" 5 := J.v (by decide +kernel)
  have g_beside : NmG _ "beside" := J.g (by decide +kernel)
  have a_late : NmA _ "late" 8 := J.a (by decide +kernel)
  have v_late : NmV _ "late" 8 := J.v (by decide +kernel)
  have b_max : NmB _ "max" (.builtin "max") := J.b (m_max M) bt_max (by decide +kernel)
  have b_min : NmB _ "min" (.builtin "min") := J.b (m_min M) bt_min (by decide +kernel)
  have v_walls : NmV _ "walls" 1 := J.v (by decide +kernel)
  have v_found : NmV _ "found" 3 := J.v (by decide +kernel)
  exact (ss_cons (J.par2 (a := (.v (callNew newCelM (consA (wrapL (compO [4] (itAny (varE 0)) (nameT 4) yesT (tupE (consA (varE 4) (consA (cE (.bl true)) nilA))))) nilA)))) (b := (.o (lstO nilA))) a_left a_found (by decide) (by decide +kernel) (by decide +kernel) (se_newT J.dictI vn_cel b_dict (spa_cons (toP (ofO (J.compJ (vs := [("cell", 4)]) (toIP (si_any v_cells.var)) (by decide +kernel) (fun s H C cl fp J => by
  have a_cell : NmA _ "cell" 4 := J.a (by decide +kernel)
  exact a_cell.tg) (fun s H C cl fp J => sts_nil) (fun s H C cl fp J => by
  have v_cell : NmV _ "cell" 4 := J.v (by decide +kernel)
  exact (se_tup (sa_cons v_cell.var (sa_cons se_bl sa_nil)))) (by decide)))) spa_nil)) (so_lst sa_nil) (by rfl)) (ss_cons (ss_for hp J.calm (si_any (ofO (so_callB cr_sortedPM vo_sortedPM b_sorted (spa_cons v_cells.peek spa_nil)))) a_cell.tg (ss_one (ss_if (st_cmp J.opInCel vp_inCel (by rfl) v_cell.peek v_left.peek) (ss_cons (J.par2 (a := (.o (lstO nilA))) (b := (.o (lstO (consA (varE 4) nilA)))) a_part a_todo (by decide) (by decide +kernel) (by decide +kernel) (so_lst sa_nil) (so_lst (sa_cons v_cell.var sa_nil)) (by rfl)) (ss_cons (ss_expr (se_meth PySem.F.plainAttrs_dict PySem.F.slot_dict_pop PySem.F.type_dict_pop J.mtPop1 vt_celPop v_left.peek (sa_cons v_cell.var sa_nil))) (ss_cons (ss_while 1000000 hp (st_cmp J.opNe vp_ne (nomark _) v_todo.peek (toP (ofO (so_lst sa_nil)))) (ss_cons (ss_popS a_here v_todo) (ss_cons (ss_mut PySem.F.slot_list_append PySem.F.type_list_append mt_append vm_append v_part.raw (sa_cons v_here.var sa_nil)) (ss_one (ss_for hp J.calm (si_any (J.call tk (f_beside M) (by decide) g_beside (sa_cons v_here.var sa_nil))) a_late.tg (ss_one (ss_if (sw_and (st_cmp J.opInCel vp_inCel (by rfl) v_late.peek v_left.peek) (sw_and1 (st_cmp J.opNotIn0 vp_notIn0 (by rfl) (toP (se_tup (sa_cons (se_callB J.minP vp_minP b_min (spa_cons v_here.peek (spa_cons v_late.peek spa_nil))) (sa_cons (se_callB J.maxP vp_maxP b_max (spa_cons v_here.peek (spa_cons v_late.peek spa_nil))) sa_nil)))) v_walls.peek))).pt (ss_cons (ss_expr (se_meth PySem.F.plainAttrs_dict PySem.F.slot_dict_pop PySem.F.type_dict_pop J.mtPop1 vt_celPop v_left.peek (sa_cons v_late.var sa_nil))) (ss_one (ss_mut PySem.F.slot_list_append PySem.F.type_list_append mt_append vm_append v_todo.raw (sa_cons v_late.var sa_nil)))) ss_nil))))))) (ss_one (ss_mut PySem.F.slot_list_append PySem.F.type_list_append mt_append vm_append v_found.raw (sa_cons (ofO (so_callB cr_sortedPM vo_sortedPM b_sorted (spa_cons v_part.peek spa_nil))) sa_nil)))))) ss_nil))) (ss_fz 3 (ss_one (ss_ret v_found.var)))))
theorem f_parts_there (M : Md fa fn ex K mg) : FnS R.prog w K mg base 2 "parts_there" 2 [] F_parts_there := (fb_parts_there M).s (fun fd F => Md.bindN F fun _ _ _ _ _ _ us hl => match us, hl with | [_, _], _ => rfl)
def b_is_floor : SM := (seqS (ifS (orT (notT (tstE (un1 (isiM .list) (peekE 0)))) (orT (tstE (bin2 eqM (peekE 0) (wrapL (lstO nilA)))) (notT (tstE (callB allBM (consA (wrapL (compO [1] (itAny (varE 0)) (nameT 1) yesT (callE (callN 1 F_is_cell) [] (consA (varE 1) nilA)))) nilA)))))) (retS (cE (.bl false))) nextS) (retS (andE (callB allBM (consA (wrapL (compO [2, 3] (itB zipM (consA (varE 0) (consA (slV (peekE 0) (prtP (cE (.int 1))) noP) nilA))) (tupT 2 (consT (nameT 2) (consT (nameT 3) nilT))) yesT (bin2 ltTM (peekE 2) (peekE 3)))) nilA)) (bin2 eqM (callB lenM (consA (callE (callN 2 F_parts_there) [] (consA (varE 0) (consA (cE (.dic [])) nilA))) nilA)) (cE (.int 1))))))
def F_is_floor : List MV → MH → Res MV := bodyF 4 1 b_is_floor
theorem fb_is_floor (M : Md fa fn ex K mg) : FnB R.prog w K mg base 4 "is_floor" ["value"] 1 d_is_floor F_is_floor := by
  refine M.fb (N := ["value", "cell", "one", "late"]) (ps := ["value"]) 7 (d := d_is_floor) rfl (M.glo 6) rfl ⟨rfl, rfl, rfl, by decide +kernel, rfl, by decide +kernel, by decide +kernel⟩ rfl fun X J hp W tk => ?_
  have v_value : NmV _ "value" 0 := J.v (by decide +kernel)
  have b_isinstance : NmB _ "isinstance" (.builtin "isinstance") := J.b (m_isinstance M) bt_isinstance (by decide +kernel)
  have b_list : NmB _ "list" (.type "list") := J.b (m_list M) bt_list (by decide +kernel)
  have b_all : NmB _ "all" (.builtin "all") := J.b (m_all M) bt_all (by decide +kernel)
  have b_zip : NmB _ "zip" (.type "zip") := J.b (m_zip M) bt_zip (by decide +kernel)
  have g_parts_there : NmG _ "parts_there" := J.g (by decide +kernel)
  have b_len : NmB _ "len" (.builtin "len") := J.b (m_len M) bt_len (by decide +kernel)
  exact (ss_cons (ss_if (sw_or (st_not (st_val (se_isi (b := .list) b_isinstance b_list (by decide) v_value.peek))) (sw_or (st_cmp J.opEq vp_eq (nomark _) v_value.peek (toP (ofO (so_lst sa_nil)))) (sw_or1 (st_not (st_val (se_callB (cr_all J.calm) vp_all b_all (spa_cons (toP (ofO (J.compJ (vs := [("cell", 1)]) (toIP (si_any v_value.var)) (by decide +kernel) (fun s H C cl fp J => by
  have a_cell : NmA _ "cell" 1 := J.a (by decide +kernel)
  exact a_cell.tg) (fun s H C cl fp J => sts_nil) (fun s H C cl fp J => by
  have v_cell : NmV _ "cell" 1 := J.v (by decide +kernel)
  have g_is_cell : NmG _ "is_cell" := J.g (by decide +kernel)
  exact (J.call takes_no (f_is_cell M) (by decide) g_is_cell (sa_cons v_cell.var sa_nil))) (by decide)))) spa_nil))))))).pt (ss_one (ss_ret se_bl)) ss_nil) (ss_one (ss_ret (se_and (se_callB (cr_all J.calm) vp_all b_all (spa_cons (toP (ofO (J.compJ (vs := [("one", 2), ("late", 3)]) (toIP (si_zip b_zip (sa_cons v_value.var (sa_cons (se_slV v_value.peek (spo_some (toP se_int)) spo_none) sa_nil)))) (by decide +kernel) (fun s H C cl fp J => by
  have a_late : NmA _ "late" 3 := J.a (by decide +kernel)
  have a_one : NmA _ "one" 2 := J.a (by decide +kernel)
  exact (sg_tup J.calm (sgs_cons a_one.tg (sgs_cons a_late.tg sgs_nil)))) (fun s H C cl fp J => sts_nil) (fun s H C cl fp J => by
  have v_one : NmV _ "one" 2 := J.v (by decide +kernel)
  have v_late : NmV _ "late" 3 := J.v (by decide +kernel)
  exact (se_cmp J.opLtT vp_ltT (nomark _) v_one.peek v_late.peek)) (by decide)))) spa_nil)) (se_one (se_cmp J.opEq vp_eq (nomark _) (toP (se_callB call_len vp_len b_len (spa_cons (toP (J.call tk (f_parts_there M) (by decide) g_parts_there (sa_cons v_value.var (sa_cons se_dnil sa_nil)))) spa_nil))) (toP se_int)))))))
theorem f_is_floor (M : Md fa fn ex K mg) : FnS R.prog w K mg base 4 "is_floor" 1 [] F_is_floor := (fb_is_floor M).s (fun fd F => Md.bindN F fun _ _ _ _ _ _ us hl => match us, hl with | [_], _ => rfl)
def b_check_floor : SM := (ifS (notT (tstE (pureE 1 F_is_floor [] (consA (peekE 0) nilA)))) (raiseS "InvalidFloor" (varE 0)) nextS)
def F_check_floor : List MV → MH → Res MV := bodyF 1 1 b_check_floor
theorem fb_check_floor (M : Md fa fn ex K mg) : FnB R.prog w K mg base 5 "check_floor" ["value"] 1 d_check_floor F_check_floor := by
  refine M.fb (N := ["value"]) (ps := ["value"]) 8 (d := d_check_floor) rfl (M.glo 7) rfl ⟨rfl, rfl, rfl, by decide +kernel, rfl, by decide +kernel, by decide +kernel⟩ rfl fun X J hp W tk => ?_
  have v_value : NmV _ "value" 0 := J.v (by decide +kernel)
  have g_is_floor : NmG _ "is_floor" := J.g (by decide +kernel)
  have g_InvalidFloor : NmG _ "InvalidFloor" := J.g (by decide +kernel)
  exact (ss_one (ss_if (st_not (st_val (J.pure tk (f_is_floor M) (by decide) g_is_floor (spa_cons v_value.peek spa_nil)))) (ss_one (ss_raise J tk (x_InvalidFloor M) (by decide) g_InvalidFloor v_value.var)) ss_nil))
theorem f_check_floor (M : Md fa fn ex K mg) : FnS R.prog w K mg base 5 "check_floor" 1 [] F_check_floor := (fb_check_floor M).s (fun fd F => Md.bindN F fun _ _ _ _ _ _ us hl => match us, hl with | [_], _ => rfl)
def b_check_rows : SM := (ifS (orT (notT (tstE (un1 (isiM .str) (peekE 0)))) (notT (tstE (callB allBM (consA (wrapL (compO [1] (itAny (varE 0)) (nameT 1) yesT (orE (bin2 eqM (peekE 1) (cE (.str [10]))) (chainE leM leM (cE (.str [32])) (peekE 1) (cE (.str [126])))))) nilA))))) (raiseS "InvalidText" (varE 0)) nextS)
def F_check_rows : List MV → MH → Res MV := bodyF 2 1 b_check_rows
theorem fb_check_rows (M : Md fa fn ex K mg) : FnB R.prog w K mg base 3 "check_rows" ["text"] 1 d_check_rows F_check_rows := by
  refine M.fb (N := ["text", "sign"]) (ps := ["text"]) 11 (d := d_check_rows) rfl (M.glo 8) rfl ⟨rfl, rfl, rfl, by decide +kernel, rfl, by decide +kernel, by decide +kernel⟩ rfl fun X J hp W tk => ?_
  have v_text : NmV _ "text" 0 := J.v (by decide +kernel)
  have b_isinstance : NmB _ "isinstance" (.builtin "isinstance") := J.b (m_isinstance M) bt_isinstance (by decide +kernel)
  have b_str : NmB _ "str" (.type "str") := J.b (m_str M) bt_str (by decide +kernel)
  have b_all : NmB _ "all" (.builtin "all") := J.b (m_all M) bt_all (by decide +kernel)
  have g_InvalidText : NmG _ "InvalidText" := J.g (by decide +kernel)
  exact (ss_one (ss_if (sw_or (st_not (st_val (se_isi (b := .str) b_isinstance b_str (by decide) v_text.peek))) (sw_or1 (st_not (st_val (se_callB (cr_all J.calm) vp_all b_all (spa_cons (toP (ofO (J.compJ (vs := [("sign", 1)]) (toIP (si_any v_text.var)) (by decide +kernel) (fun s H C cl fp J => by
  have a_sign : NmA _ "sign" 1 := J.a (by decide +kernel)
  exact a_sign.tg) (fun s H C cl fp J => sts_nil) (fun s H C cl fp J => by
  have v_sign : NmV _ "sign" 1 := J.v (by decide +kernel)
  exact (se_or (se_cmp J.opEq vp_eq (nomark _) v_sign.peek (toP (se_str (by decide +kernel)))) (se_one (se_chain op_leM vp_le op_leM vp_le (toP (se_str (by decide +kernel))) v_sign.peek (toP (se_str (by decide +kernel))))))) (by decide)))) spa_nil)))))).pt (ss_one (ss_raise J tk (x_InvalidText M) (by decide) g_InvalidText v_text.var)) ss_nil))
theorem f_check_rows (M : Md fa fn ex K mg) : FnS R.prog w K mg base 3 "check_rows" 1 [] F_check_rows := (fb_check_rows M).s (fun fd F => Md.bindN F fun _ _ _ _ _ _ us hl => match us, hl with | [_], _ => rfl)
def b_drawn : SM := (seqS (par2S 1 2 (.v (bin2 addM (callB maxM (consA (wrapL (compO [4] (itAny (varE 0)) (nameT 4) yesT (bin2 ixDM (peekE 4) (cE (.int 0))))) nilA)) (cE (.int 1)))) (.v (bin2 addM (callB maxM (consA (wrapL (compO [4] (itAny (varE 0)) (nameT 4) yesT (bin2 ixDM (peekE 4) (cE (.int 1))))) nilA)) (cE (.int 1))))) (seqS (setS 3 (wrapL (compO [5] (itB rng1M (consA (varE 2) nilA)) (nameT 5) yesT (strE (cE (.str [])) fun s => un1 (fun h x => joinM s h [x]) (wrapL (compO [6] (itB rng1M (consA (varE 1) nilA)) (nameT 6) yesT (ifE (tstE (bin2 inM (tupE (consA (varE 6) (consA (varE 5) nilA))) (peekE 0))) (cE (.str [35])) (cE (.str [46]))))))))) (retS (strE (cE (.str [10])) fun s => un1 (fun h x => joinM s h [x]) (un1 revVM (peekE 3))))))
def F_drawn : List MV → MH → Res MV := bodyF 7 1 b_drawn
theorem fb_drawn (M : Md fa fn ex K mg) : FnB R.prog w K mg base 1 "drawn" ["floor"] 1 d_drawn F_drawn := by
  refine M.fb (N := ["floor", "wide", "high", "rows", "cell", "y", "x"]) (ps := ["floor"]) 12 (d := d_drawn) rfl (M.glo 9) rfl ⟨rfl, rfl, rfl, by decide +kernel, rfl, by decide +kernel, by decide +kernel⟩ rfl fun X J hp W tk => ?_
  have a_wide : NmA _ "wide" 1 := J.a (by decide +kernel)
  have a_high : NmA _ "high" 2 := J.a (by decide +kernel)
  have v_floor : NmV _ "floor" 0 := J.v (by decide +kernel)
  have b_max : NmB _ "max" (.builtin "max") := J.b (m_max M) bt_max (by decide +kernel)
  have v_high : NmV _ "high" 2 := J.v (by decide +kernel)
  have b_range : NmB _ "range" (.type "range") := J.b (m_range M) bt_range (by decide +kernel)
  have a_rows : NmA _ "rows" 3 := J.a (by decide +kernel)
  have v_rows : NmV _ "rows" 3 := J.v (by decide +kernel)
  exact (ss_cons (J.asg2 (a := (.v (bin2 addM (callB maxM (consA (wrapL (compO [4] (itAny (varE 0)) (nameT 4) yesT (bin2 ixDM (peekE 4) (cE (.int 0))))) nilA)) (cE (.int 1))))) (b := (.v (bin2 addM (callB maxM (consA (wrapL (compO [4] (itAny (varE 0)) (nameT 4) yesT (bin2 ixDM (peekE 4) (cE (.int 1))))) nilA)) (cE (.int 1))))) a_wide a_high (by decide) (se_bin op_addM vp_add (toP (se_callB (cr_maxM J.calm) vp_max b_max (spa_cons (toP (ofO (J.compJ (vs := [("cell", 4)]) (toIP (si_any v_floor.var)) (by decide +kernel) (fun s H C cl fp J => by
  have a_cell : NmA _ "cell" 4 := J.a (by decide +kernel)
  exact a_cell.tg) (fun s H C cl fp J => sts_nil) (fun s H C cl fp J => by
  have v_cell : NmV _ "cell" 4 := J.v (by decide +kernel)
  exact (se_at J.units (fun _ _ => rfl) (fun _ _ => rfl) v_cell.peek (toP se_int))) (by decide)))) spa_nil))) (toP se_int)) (se_bin op_addM vp_add (toP (se_callB (cr_maxM J.calm) vp_max b_max (spa_cons (toP (ofO (J.compJ (vs := [("cell", 4)]) (toIP (si_any v_floor.var)) (by decide +kernel) (fun s H C cl fp J => by
  have a_cell : NmA _ "cell" 4 := J.a (by decide +kernel)
  exact a_cell.tg) (fun s H C cl fp J => sts_nil) (fun s H C cl fp J => by
  have v_cell : NmV _ "cell" 4 := J.v (by decide +kernel)
  exact (se_at J.units (fun _ _ => rfl) (fun _ _ => rfl) v_cell.peek (toP se_int))) (by decide)))) spa_nil))) (toP se_int)) (by rfl)) (ss_cons (J.setLcJ a_rows (by decide +kernel) (by rfl) (vs := [("y", 5)]) (toIP (si_rng1 b_range (sa_cons v_high.var sa_nil))) (by decide +kernel) (fun s H C cl fp J => by
  have a_y : NmA _ "y" 5 := J.a (by decide +kernel)
  exact a_y.tg) (fun s H C cl fp J => sts_nil) (fun s H C cl fp J => by
  have v_wide : NmV _ "wide" 1 := J.v (by decide +kernel)
  have b_range : NmB _ "range" (.type "range") := J.b (m_range M) bt_range (by decide +kernel)
  exact (se_join (toP (se_str (by decide +kernel))) (toP (ofO (J.compJ (vs := [("x", 6)]) (toIP (si_rng1 b_range (sa_cons v_wide.var sa_nil))) (by decide +kernel) (fun s H C cl fp J => by
  have a_x : NmA _ "x" 6 := J.a (by decide +kernel)
  exact a_x.tg) (fun s H C cl fp J => sts_nil) (fun s H C cl fp J => by
  have v_y : NmV _ "y" 5 := J.v (by decide +kernel)
  have v_x : NmV _ "x" 6 := J.v (by decide +kernel)
  have v_floor : NmV _ "floor" 0 := J.v (by decide +kernel)
  exact (se_if (st_cmp J.opIn vp_in (by rfl) (toP (se_tup (sa_cons v_x.var (sa_cons v_y.var sa_nil)))) v_floor.peek) (se_str (by decide +kernel)) (se_str (by decide +kernel)))) (by decide)))))) (by decide)) (ss_one (ss_ret (se_join (toP (se_str (by decide +kernel))) (toP (se_revU v_rows.peek)))))))
theorem f_drawn (M : Md fa fn ex K mg) : FnS R.prog w K mg base 1 "drawn" 1 [] F_drawn := (fb_drawn M).s (fun fd F => Md.bindN F fun _ _ _ _ _ _ us hl => match us, hl with | [_], _ => rfl)
def b_floor_drawing : SM := (seqS (exprS (callE (callN 1 F_check_floor) [] (consA (varE 0) nilA))) (retS (pureE 1 F_drawn [] (consA (peekE 0) nilA))))
def F_floor_drawing : List MV → MH → Res MV := bodyF 1 1 b_floor_drawing
theorem fb_floor_drawing (M : Md fa fn ex K mg) : FnB R.prog w K mg base 6 "floor_drawing" ["floor"] 1 d_floor_drawing F_floor_drawing := by
  refine M.fb (N := ["floor"]) (ps := ["floor"]) 13 (d := d_floor_drawing) rfl (M.glo 10) rfl ⟨rfl, rfl, rfl, by decide +kernel, rfl, by decide +kernel, by decide +kernel⟩ rfl fun X J hp W tk => ?_
  have v_floor : NmV _ "floor" 0 := J.v (by decide +kernel)
  have g_check_floor : NmG _ "check_floor" := J.g (by decide +kernel)
  have g_drawn : NmG _ "drawn" := J.g (by decide +kernel)
  exact (ss_cons (ss_expr (J.call tk (f_check_floor M) (by decide) g_check_floor (sa_cons v_floor.var sa_nil))) (ss_one (ss_ret (J.pure tk (f_drawn M) (by decide) g_drawn (spa_cons v_floor.peek spa_nil)))))
theorem f_floor_drawing (M : Md fa fn ex K mg) : FnS R.prog w K mg base 6 "floor_drawing" 1 [] F_floor_drawing := (fb_floor_drawing M).s (fun fd F => Md.bindN F fun _ _ _ _ _ _ us hl => match us, hl with | [_], _ => rfl)
theorem fk_floor_drawing_0_floor (M : Md fa fn ex K mg) : FnSK R.prog w K mg base 6 "floor_drawing" 1 0 ["floor"] [0] F_floor_drawing := (fb_floor_drawing M).kw rfl rfl fun _ _ _ _ _ _ us ws h1 h2 => match us, ws, h1, h2 with | [], [_], _, _ => rfl
def b_read_floor : SM := (seqS (exprS (callE (callN 1 F_check_rows) [] (consA (varE 0) nilA))) (seqS (ownS 1 (lstO nilA)) (seqS (forS (tupT 2 (consT (nameT 2) (consT (nameT 3) nilT))) (itB enumM (consA (un1 revVM (wrapL (strO (peekE 0) fun s => bindE (cE (.str [10])) fun x _ h => optR (splitM s h [x]) h))) nilA)) (mutS 1 extendM (consA (wrapL (compO [4, 5] (itB enumM (consA (varE 3) nilA)) (tupT 2 (consT (nameT 4) (consT (nameT 5) nilT))) (tstE (bin2 eqM (peekE 5) (cE (.str [35])))) (tupE (consA (varE 4) (consA (varE 2) nilA))))) nilA))) (seqS (ownS 1 (callBO sortedPM (consA (peekE 1) nilA))) (seqS (ifS (orT (notT (tstE (pureE 1 F_is_floor [] (consA (peekE 1) nilA)))) (tstE (bin2 neM (pureE 1 F_drawn [] (consA (peekE 1) nilA)) (peekE 0)))) (raiseS "NotDrawn" (varE 0)) nextS) (retOwnS 1))))))
def F_read_floor : List MV → MH → Res MV := bodyF 6 1 b_read_floor
theorem fb_read_floor (M : Md fa fn ex K mg) : FnB R.prog w K mg base 5 "read_floor" ["text"] 1 d_read_floor F_read_floor := by
  refine M.fb (N := ["text", "floor", "y", "row", "x", "sign"]) (ps := ["text"]) 14 (d := d_read_floor) rfl (M.glo 11) rfl ⟨rfl, rfl, rfl, by decide +kernel, rfl, by decide +kernel, by decide +kernel⟩ rfl fun X J hp W tk => ?_
  have v_text : NmV _ "text" 0 := J.v (by decide +kernel)
  have g_check_rows : NmG _ "check_rows" := J.g (by decide +kernel)
  have a_floor : NmA _ "floor" 1 := J.a (by decide +kernel)
  have b_enumerate : NmB _ "enumerate" (.type "enumerate") := J.b (m_enumerate M) bt_enumerate (by decide +kernel)
  have a_row : NmA _ "row" 3 := J.a (by decide +kernel)
  have a_y : NmA _ "y" 2 := J.a (by decide +kernel)
  have v_row : NmV _ "row" 3 := J.v (by decide +kernel)
  have v_floor : NmV _ "floor" 1 := J.v (by decide +kernel)
  have b_sorted : NmB _ "sorted" (.builtin "sorted") := J.b (m_sorted M) bt_sorted (by decide +kernel)
  have g_is_floor : NmG _ "is_floor" := J.g (by decide +kernel)
  have g_drawn : NmG _ "drawn" := J.g (by decide +kernel)
  have g_NotDrawn : NmG _ "NotDrawn" := J.g (by decide +kernel)
  exact (ss_cons (ss_expr (J.call tk (f_check_rows M) (by decide) g_check_rows (sa_cons v_text.var sa_nil))) (ss_cons (a_floor.setO (so_lst sa_nil)) (ss_cons (ss_for hp J.calm (si_enum b_enumerate (sa_cons (se_revU (toP (ofO (so_split v_text.peek (toP (se_str (by decide +kernel))))))) sa_nil)) (sg_tup J.calm (sgs_cons a_y.tg (sgs_cons a_row.tg sgs_nil))) (ss_one (ss_mut PySem.F.slot_list_extend PySem.F.type_list_extend mt_extend vm_extend v_floor.raw (sa_cons (ofO (J.compJ (vs := [("x", 4), ("sign", 5)]) (toIP (si_enum b_enumerate (sa_cons v_row.var sa_nil))) (by decide +kernel) (fun s H C cl fp J => by
  have a_sign : NmA _ "sign" 5 := J.a (by decide +kernel)
  have a_x : NmA _ "x" 4 := J.a (by decide +kernel)
  exact (sg_tup J.calm (sgs_cons a_x.tg (sgs_cons a_sign.tg sgs_nil)))) (fun s H C cl fp J => by
  have v_sign : NmV _ "sign" 5 := J.v (by decide +kernel)
  exact (sts_one (st_cmp J.opEq vp_eq (nomark _) v_sign.peek (toP (se_str (by decide +kernel)))))) (fun s H C cl fp J => by
  have v_y : NmV _ "y" 2 := J.v (by decide +kernel)
  have v_x : NmV _ "x" 4 := J.v (by decide +kernel)
  exact (se_tup (sa_cons v_x.var (sa_cons v_y.var sa_nil)))) (by decide))) sa_nil)))) (ss_cons (a_floor.setO (so_callB cr_sortedPM vo_sortedPM b_sorted (spa_cons v_floor.peek spa_nil))) (ss_cons (ss_if (sw_or (st_not (st_val (J.pure tk (f_is_floor M) (by decide) g_is_floor (spa_cons v_floor.peek spa_nil)))) (sw_or1 (st_cmp J.opNe vp_ne (nomark _) (toP (J.pure tk (f_drawn M) (by decide) g_drawn (spa_cons v_floor.peek spa_nil))) v_text.peek))).pt (ss_one (ss_raise J tk (x_NotDrawn M) (by decide) g_NotDrawn v_text.var)) ss_nil) (ss_one (ss_retOwn v_floor)))))))
theorem f_read_floor (M : Md fa fn ex K mg) : FnS R.prog w K mg base 5 "read_floor" 1 [] F_read_floor := (fb_read_floor M).s (fun fd F => Md.bindN F fun _ _ _ _ _ _ us hl => match us, hl with | [_], _ => rfl)
theorem fk_read_floor_0_text (M : Md fa fn ex K mg) : FnSK R.prog w K mg base 5 "read_floor" 1 0 ["text"] [0] F_read_floor := (fb_read_floor M).kw rfl rfl fun _ _ _ _ _ _ us ws h1 h2 => match us, ws, h1, h2 with | [], [_], _, _ => rfl
def b__law_purse : SM := (seqS (setS 2 (callB sumM (consA (slV (peekE 0) (prtP (peekE 1)) (prtP (bin2 addM (peekE 1) (cE (.int 1))))) nilA))) (retS (newE (lstO (consA (bin2 modM (callB intM (consA (callB maxM (consA (bin2 subM (peekE 2) (bin2 powM (cE (.int 10)) (cE (.int 18)))) (consA (cE (.int 0)) nilA))) nilA)) (bin2 powM (bin2 powM (cE (.int 10)) (cE (.int 60))) (cE (.int 8)))) (consA (bin2 modM (callB intM (consA (peekE 2) nilA)) (cE (.int 2147483629))) (consA (cE (.int 0)) (consA (varE 1) nilA))))))))
def F__law_purse : List MV → MH → Res MV := bodyF 3 2 b__law_purse
theorem fb__law_purse (M : Md fa fn ex K mg) : FnB R.prog w K mg base 1 "_law_purse" ["script", "at"] 2 d__law_purse F__law_purse := by
  refine M.fb (N := ["script", "at", "seed"]) (ps := ["script", "at"]) 15 (d := d__law_purse) rfl (M.glo 12) rfl ⟨rfl, rfl, rfl, by decide +kernel, rfl, by decide +kernel, by decide +kernel⟩ rfl fun X J hp W tk => ?_
  have v_script : NmV _ "script" 0 := J.v (by decide +kernel)
  have v_at : NmV _ "at" 1 := J.v (by decide +kernel)
  have b_sum : NmB _ "sum" (.builtin "sum") := J.b (m_sum M) bt_sum (by decide +kernel)
  have a_seed : NmA _ "seed" 2 := J.a (by decide +kernel)
  have v_seed : NmV _ "seed" 2 := J.v (by decide +kernel)
  have b_int : NmB _ "int" (.type "int") := J.b (m_int M) bt_int (by decide +kernel)
  have b_max : NmB _ "max" (.builtin "max") := J.b (m_max M) bt_max (by decide +kernel)
  exact (ss_cons (a_seed.set (se_callB (cr_sum J.calm) vp_sum b_sum (spa_cons (toP (se_slV v_script.peek (spo_some v_at.peek) (spo_some (toP (se_bin op_addM vp_add v_at.peek (toP se_int)))))) spa_nil))) (ss_one (ss_ret (se_new (so_lst (sa_cons (se_bin op_modN vp_mod (toP (se_callT call_int1 vp_toInt b_int (spa_cons (toP (se_callB (cr_maxM J.calm) vp_max b_max (spa_cons (toP (se_bin op_subM vp_sub v_seed.peek (toP (se_bin op_powG vp_pow (toP se_int) (toP se_int))))) (spa_cons (toP se_int) spa_nil)))) spa_nil))) (toP (se_bin op_powG vp_pow (toP (se_bin op_powG vp_pow (toP se_int) (toP se_int))) (toP se_int)))) (sa_cons (se_bin op_modN vp_mod (toP (se_callT call_int1 vp_toInt b_int (spa_cons v_seed.peek spa_nil))) (toP se_int)) (sa_cons se_int (sa_cons v_at.var sa_nil)))))))))
theorem f__law_purse (M : Md fa fn ex K mg) : FnS R.prog w K mg base 1 "_law_purse" 2 [] F__law_purse := (fb__law_purse M).s (fun fd F => Md.bindN F fun _ _ _ _ _ _ us hl => match us, hl with | [_, _], _ => rfl)
def b__law_mixed : SM := (seqS (setS 3 (bin2 addM (bin2 mulM (peekE 0) (cE (.int 69069))) (bin2 mulM (bin2 mulM (cE (.int 104729)) (peekE 1)) (peekE 1)))) (seqS (setS 3 (bin2 modM (callB intM (consA (bin2 addM (bin2 addM (peekE 3) (bin2 mulM (cE (.int 7919)) (peekE 2))) (peekE 1)) nilA)) (cE (.int 2147483647)))) (seqS (setS 3 (bin2 modM (callB intM (consA (bin2 addM (bin2 mulM (peekE 3) (peekE 3)) (cE (.int 40503))) nilA)) (cE (.int 2147483629)))) (retS (bin2 modM (callB intM (consA (bin2 mulM (peekE 3) (cE (.int 48271))) nilA)) (cE (.int 2147483587)))))))
def F__law_mixed : List MV → MH → Res MV := bodyF 4 3 b__law_mixed
theorem fb__law_mixed (M : Md fa fn ex K mg) : FnB R.prog w K mg base 1 "_law_mixed" ["seed", "spin", "at"] 3 d__law_mixed F__law_mixed := by
  refine M.fb (N := ["seed", "spin", "at", "mixed"]) (ps := ["seed", "spin", "at"]) 16 (d := d__law_mixed) rfl (M.glo 13) rfl ⟨rfl, rfl, rfl, by decide +kernel, rfl, by decide +kernel, by decide +kernel⟩ rfl fun X J hp W tk => ?_
  have v_seed : NmV _ "seed" 0 := J.v (by decide +kernel)
  have v_spin : NmV _ "spin" 1 := J.v (by decide +kernel)
  have a_mixed : NmA _ "mixed" 3 := J.a (by decide +kernel)
  have v_mixed : NmV _ "mixed" 3 := J.v (by decide +kernel)
  have v_at : NmV _ "at" 2 := J.v (by decide +kernel)
  have b_int : NmB _ "int" (.type "int") := J.b (m_int M) bt_int (by decide +kernel)
  exact (ss_cons (a_mixed.set (se_bin op_addM vp_add (toP (se_bin op_mulM vp_mul v_seed.peek (toP se_int))) (toP (se_bin op_mulM vp_mul (toP (se_bin op_mulM vp_mul (toP se_int) v_spin.peek)) v_spin.peek)))) (ss_cons (a_mixed.set (se_bin op_modN vp_mod (toP (se_callT call_int1 vp_toInt b_int (spa_cons (toP (se_bin op_addM vp_add (toP (se_bin op_addM vp_add v_mixed.peek (toP (se_bin op_mulM vp_mul (toP se_int) v_at.peek)))) v_spin.peek)) spa_nil))) (toP se_int))) (ss_cons (a_mixed.set (se_bin op_modN vp_mod (toP (se_callT call_int1 vp_toInt b_int (spa_cons (toP (se_bin op_addM vp_add (toP (se_bin op_mulM vp_mul v_mixed.peek v_mixed.peek)) (toP se_int))) spa_nil))) (toP se_int))) (ss_one (ss_ret (se_bin op_modN vp_mod (toP (se_callT call_int1 vp_toInt b_int (spa_cons (toP (se_bin op_mulM vp_mul v_mixed.peek (toP se_int))) spa_nil))) (toP se_int)))))))
theorem f__law_mixed (M : Md fa fn ex K mg) : FnS R.prog w K mg base 1 "_law_mixed" 3 [] F__law_mixed := (fb__law_mixed M).s (fun fd F => Md.bindN F fun _ _ _ _ _ _ us hl => match us, hl with | [_, _, _], _ => rfl)
def b__law_draw : SM := (seqS (ifS (tstE (bin2 gtM (bin2 ixDM (peekE 0) (cE (.int 0))) (cE (.int 0)))) (seqS (setS 2 (bin2 modM (callB intM (consA (bin2 ixDM (peekE 0) (cE (.int 0))) nilA)) (peekE 1))) (seqS (setIxS (bin2 divM (bin2 ixDM (peekE 0) (cE (.int 0))) (peekE 1)) (varE 0) (cE (.int 0))) (retS (varE 2)))) nextS) (seqS (setS 3 (cE (.int 0))) (seqS (forS (nameT 4) (itB rng1M (consA (bin2 addM (cE (.int 1)) (bin2 divM (un1 bitsM (peekE 1)) (cE (.int 28)))) nilA)) (seqS (setIxS (bin2 addM (bin2 ixDM (peekE 0) (cE (.int 2))) (cE (.int 1))) (varE 0) (cE (.int 2))) (setS 3 (bin2 addM (bin2 mulM (peekE 3) (cE (.int 2147483587))) (callE (callN 3 F__law_mixed) [] (consA (bin2 ixDM (peekE 0) (cE (.int 1))) (consA (bin2 ixDM (peekE 0) (cE (.int 2))) (consA (bin2 ixDM (peekE 0) (cE (.int 3))) nilA)))))))) (retS (bin2 modM (callB intM (consA (peekE 3) nilA)) (peekE 1))))))
def F__law_draw : List MV → MH → Res MV := bodyF 5 2 b__law_draw
theorem fb__law_draw (M : Md fa fn ex K mg) : FnB R.prog w K mg base 2 "_law_draw" ["purse", "many"] 2 d__law_draw F__law_draw := by
  refine M.fb (N := ["purse", "many", "drawn_v", "found", "piece"]) (ps := ["purse", "many"]) 17 (d := d__law_draw) rfl (M.glo 14) rfl ⟨rfl, rfl, rfl, by decide +kernel, rfl, by decide +kernel, by decide +kernel⟩ rfl fun X J hp W tk => ?_
  have v_purse : NmV _ "purse" 0 := J.v (by decide +kernel)
  have b_int : NmB _ "int" (.type "int") := J.b (m_int M) bt_int (by decide +kernel)
  have v_many : NmV _ "many" 1 := J.v (by decide +kernel)
  have a_drawn_v : NmA _ "drawn_v" 2 := J.a (by decide +kernel)
  have v_drawn_v : NmV _ "drawn_v" 2 := J.v (by decide +kernel)
  have a_found : NmA _ "found" 3 := J.a (by decide +kernel)
  have b_range : NmB _ "range" (.type "range") := J.b (m_range M) bt_range (by decide +kernel)
  have a_piece : NmA _ "piece" 4 := J.a (by decide +kernel)
  have v_found : NmV _ "found" 3 := J.v (by decide +kernel)
  have g__law_mixed : NmG _ "_law_mixed" := J.g (by decide +kernel)
  exact (ss_cons (ss_if (st_cmp op_gtM vp_gt (nomark _) (toP (se_at J.units (fun _ _ => rfl) (fun _ _ => rfl) v_purse.peek (toP se_int))) (toP se_int)) (ss_cons (a_drawn_v.set (se_bin op_modN vp_mod (toP (se_callT call_int1 vp_toInt b_int (spa_cons (toP (se_at J.units (fun _ _ => rfl) (fun _ _ => rfl) v_purse.peek (toP se_int))) spa_nil))) v_many.peek)) (ss_cons (ss_setIx (se_bin op_fdivG vp_div (toP (se_at J.units (fun _ _ => rfl) (fun _ _ => rfl) v_purse.peek (toP se_int))) v_many.peek) v_purse.var se_int) (ss_one (ss_ret v_drawn_v.var)))) ss_nil) (ss_cons (a_found.set se_int) (ss_cons (ss_for hp J.calm (si_rng1 b_range (sa_cons (se_bin op_addM vp_add (toP se_int) (toP (se_bin op_fdivG vp_div (toP (se_bits v_many.peek)) (toP se_int)))) sa_nil)) a_piece.tg (ss_cons (ss_setIx (se_bin op_addM vp_add (toP (se_at J.units (fun _ _ => rfl) (fun _ _ => rfl) v_purse.peek (toP se_int))) (toP se_int)) v_purse.var se_int) (ss_one (a_found.set (se_bin op_addM vp_add (toP (se_bin op_mulM vp_mul v_found.peek (toP se_int))) (toP (J.call tk (f__law_mixed M) (by decide) g__law_mixed (sa_cons (se_at J.units (fun _ _ => rfl) (fun _ _ => rfl) v_purse.peek (toP se_int)) (sa_cons (se_at J.units (fun _ _ => rfl) (fun _ _ => rfl) v_purse.peek (toP se_int)) (sa_cons (se_at J.units (fun _ _ => rfl) (fun _ _ => rfl) v_purse.peek (toP se_int)) sa_nil)))))))))) (ss_one (ss_ret (se_bin op_modN vp_mod (toP (se_callT call_int1 vp_toInt b_int (spa_cons v_found.peek spa_nil))) v_many.peek))))))
theorem f__law_draw (M : Md fa fn ex K mg) : FnS R.prog w K mg base 2 "_law_draw" 2 [] F__law_draw := (fb__law_draw M).s (fun fd F => Md.bindN F fun _ _ _ _ _ _ us hl => match us, hl with | [_, _], _ => rfl)
def b__law_purses : SM := (retS (wrapL (compO [2] (itB rng1M (consA (callB maxM (consA (cE (.int 1)) (consA (callB minM (consA (peekE 1) (consA (callB lenM (consA (peekE 0) nilA)) nilA))) nilA))) nilA)) (nameT 2) yesT (callE (callN 2 F__law_purse) [] (consA (varE 0) (consA (varE 2) nilA))))))
def F__law_purses : List MV → MH → Res MV := bodyF 3 2 b__law_purses
theorem fb__law_purses (M : Md fa fn ex K mg) : FnB R.prog w K mg base 2 "_law_purses" ["script", "few"] 2 d__law_purses F__law_purses := by
  refine M.fb (N := ["script", "few", "at"]) (ps := ["script", "few"]) 18 (d := d__law_purses) rfl (M.glo 15) rfl ⟨rfl, rfl, rfl, by decide +kernel, rfl, by decide +kernel, by decide +kernel⟩ rfl fun X J hp W tk => ?_
  have v_script : NmV _ "script" 0 := J.v (by decide +kernel)
  have b_len : NmB _ "len" (.builtin "len") := J.b (m_len M) bt_len (by decide +kernel)
  have v_few : NmV _ "few" 1 := J.v (by decide +kernel)
  have b_min : NmB _ "min" (.builtin "min") := J.b (m_min M) bt_min (by decide +kernel)
  have b_max : NmB _ "max" (.builtin "max") := J.b (m_max M) bt_max (by decide +kernel)
  have b_range : NmB _ "range" (.type "range") := J.b (m_range M) bt_range (by decide +kernel)
  exact (ss_one (ss_ret (ofO (J.compJ (vs := [("at", 2)]) (toIP (si_rng1 b_range (sa_cons (se_callB (cr_maxM J.calm) vp_max b_max (spa_cons (toP se_int) (spa_cons (toP (se_callB (cr_minM J.calm) vp_min b_min (spa_cons v_few.peek (spa_cons (toP (se_callB call_len vp_len b_len (spa_cons v_script.peek spa_nil))) spa_nil)))) spa_nil))) sa_nil))) (by decide +kernel) (fun s H C cl fp J => by
  have a_at : NmA _ "at" 2 := J.a (by decide +kernel)
  exact a_at.tg) (fun s H C cl fp J => sts_nil) (fun s H C cl fp J => by
  have v_at : NmV _ "at" 2 := J.v (by decide +kernel)
  have v_script : NmV _ "script" 0 := J.v (by decide +kernel)
  have g__law_purse : NmG _ "_law_purse" := J.g (by decide +kernel)
  exact (J.call takes_no (f__law_purse M) (by decide) g__law_purse (sa_cons v_script.var (sa_cons v_at.var sa_nil)))) (by decide)))))
theorem f__law_purses (M : Md fa fn ex K mg) : FnS R.prog w K mg base 2 "_law_purses" 2 [] F__law_purses := (fb__law_purses M).s (fun fd F => Md.bindN F fun _ _ _ _ _ _ us hl => match us, hl with | [_, _], _ => rfl)
def b__law_one_of : SM := (retS (bin2 ixDM (peekE 1) (callE (callN 2 F__law_draw) [] (consA (varE 0) (consA (callB lenM (consA (peekE 1) nilA)) nilA)))))
def F__law_one_of : List MV → MH → Res MV := bodyF 2 2 b__law_one_of
theorem fb__law_one_of (M : Md fa fn ex K mg) : FnB R.prog w K mg base 3 "_law_one_of" ["purse", "some"] 2 d__law_one_of F__law_one_of := by
  refine M.fb (N := ["purse", "some"]) (ps := ["purse", "some"]) 19 (d := d__law_one_of) rfl (M.glo 16) rfl ⟨rfl, rfl, rfl, by decide +kernel, rfl, by decide +kernel, by decide +kernel⟩ rfl fun X J hp W tk => ?_
  have v_some : NmV _ "some" 1 := J.v (by decide +kernel)
  have b_len : NmB _ "len" (.builtin "len") := J.b (m_len M) bt_len (by decide +kernel)
  have v_purse : NmV _ "purse" 0 := J.v (by decide +kernel)
  have g__law_draw : NmG _ "_law_draw" := J.g (by decide +kernel)
  exact (ss_one (ss_ret (se_at J.units (fun _ _ => rfl) (fun _ _ => rfl) v_some.peek (toP (J.call tk (f__law_draw M) (by decide) g__law_draw (sa_cons v_purse.var (sa_cons (se_callB call_len vp_len b_len (spa_cons v_some.peek spa_nil)) sa_nil)))))))
theorem f__law_one_of (M : Md fa fn ex K mg) : FnS R.prog w K mg base 3 "_law_one_of" 2 [] F__law_one_of := (fb__law_one_of M).s (fun fd F => Md.bindN F fun _ _ _ _ _ _ us hl => match us, hl with | [_, _], _ => rfl)
def b__law_exact (R : List MV → MH → Res MV) : SM := (seqS (ifS (tstE (un1 (isiM .dict) (peekE 0))) (seqS (ifS (orT (notT (tstE (un1 (isiM .dict) (peekE 1)))) (tstE (bin2 neM (callB lenDM (consA (peekE 0) nilA)) (callB lenDM (consA (peekE 1) nilA))))) (retS (cE (.bl false))) nextS) (retS (callB allBM (consA (wrapL (compO [4] (itAnyD (varE 0)) (nameT 4) yesT (andE (bin2 inDM (peekE 4) (peekE 1)) (callE (callN 2 R) [] (consA (bin2 ixDM (peekE 0) (peekE 4)) (consA (bin2 ixDM (peekE 1) (peekE 4)) nilA)))))) nilA)))) nextS) (seqS (ifS (tstE (un1 (isiTM [.list, .tuple]) (peekE 0))) (seqS (setS 2 (bin2 eqM (un1 (isiM .list) (peekE 1)) (un1 (isiM .list) (peekE 0)))) (seqS (setS 3 (andE (varE 2) (bin2 eqM (un1 (isiM .tuple) (peekE 1)) (un1 (isiM .tuple) (peekE 0))))) (retS (andE (varE 3) (andE (bin2 eqM (callB lenDM (consA (peekE 0) nilA)) (callB lenDM (consA (peekE 1) nilA))) (callB allBM (consA (wrapL (compO [5, 6] (itB zipM (consA (varE 0) (consA (varE 1) nilA))) (tupT 2 (consT (nameT 5) (consT (nameT 6) nilT))) yesT (callE (callN 2 R) [] (consA (varE 5) (consA (varE 6) nilA))))) nilA))))))) nextS) (seqS (ifS (orT (tstE (un1 (isiTM [.list, .tuple, .dict]) (peekE 1))) (tstE (bin2 neM (un1 isNM (peekE 0)) (un1 isNM (peekE 1))))) (retS (cE (.bl false))) nextS) (seqS (setS 3 (andE (bin2 eqM (un1 (isiM .int) (peekE 0)) (un1 (isiM .int) (peekE 1))) (bin2 eqM (un1 (isiM .str) (peekE 0)) (un1 (isiM .str) (peekE 1))))) (retS (andE (varE 3) (andE (bin2 eqM (un1 (isiM .bool) (peekE 0)) (un1 (isiM .bool) (peekE 1))) (bin2 eqM (peekE 0) (peekE 1)))))))))
def F__law_exact_ : Nat → List MV → MH → Res MV
  | 0 => bodyF 7 2 noS
  | k + 1 => bodyF 7 2 (b__law_exact (F__law_exact_ k))
def F__law_exact : List MV → MH → Res MV := F__law_exact_ 12
theorem fb__law_exact_ (M : Md fa fn ex K mg) : ∀ j : Nat, FnB R.prog w K mg base (0 + j + 1) "_law_exact" ["mine", "theirs"] 2 d__law_exact (F__law_exact_ j)
  | 0 => by
    refine M.fb (N := ["mine", "theirs", "is_list", "is_like", "key", "a", "b"]) (ps := ["mine", "theirs"]) 20 (d := d__law_exact) rfl (M.glo 17) rfl ⟨rfl, rfl, rfl, by decide +kernel, rfl, by decide +kernel, by decide +kernel⟩ rfl fun X J hp W tk => ?_
    exact ss_none
  | j + 1 => by
    have G := (fb__law_exact_ M j).s (fun fd F => Md.bindN F fun _ _ _ _ _ _ us hl => match us, hl with | [_, _], _ => rfl)
    refine M.fb (N := ["mine", "theirs", "is_list", "is_like", "key", "a", "b"]) (ps := ["mine", "theirs"]) 20 (d := d__law_exact) rfl (M.glo 17) rfl ⟨rfl, rfl, rfl, by decide +kernel, rfl, by decide +kernel, by decide +kernel⟩ rfl fun X J hp W tk => ?_
    have v_mine : NmV _ "mine" 0 := J.v (by decide +kernel)
    have b_isinstance : NmB _ "isinstance" (.builtin "isinstance") := J.b (m_isinstance M) bt_isinstance (by decide +kernel)
    have b_dict : NmB _ "dict" (.type "dict") := J.b (m_dict M) bt_dict (by decide +kernel)
    have v_theirs : NmV _ "theirs" 1 := J.v (by decide +kernel)
    have b_len : NmB _ "len" (.builtin "len") := J.b (m_len M) bt_len (by decide +kernel)
    have b_all : NmB _ "all" (.builtin "all") := J.b (m_all M) bt_all (by decide +kernel)
    have b_tuple : NmB _ "tuple" (.type "tuple") := J.b (m_tuple M) bt_tuple (by decide +kernel)
    have b_list : NmB _ "list" (.type "list") := J.b (m_list M) bt_list (by decide +kernel)
    have a_is_list : NmA _ "is_list" 2 := J.a (by decide +kernel)
    have v_is_list : NmV _ "is_list" 2 := J.v (by decide +kernel)
    have a_is_like : NmA _ "is_like" 3 := J.a (by decide +kernel)
    have v_is_like : NmV _ "is_like" 3 := J.v (by decide +kernel)
    have b_zip : NmB _ "zip" (.type "zip") := J.b (m_zip M) bt_zip (by decide +kernel)
    have b_int : NmB _ "int" (.type "int") := J.b (m_int M) bt_int (by decide +kernel)
    have b_str : NmB _ "str" (.type "str") := J.b (m_str M) bt_str (by decide +kernel)
    have b_bool : NmB _ "bool" (.type "bool") := J.b (m_bool M) bt_bool (by decide +kernel)
    exact (ss_cons (ss_if (st_val (se_isi (b := .dict) b_isinstance b_dict (by first | decide | omega) v_mine.peek)) (ss_cons (ss_if (sw_or (st_not (st_val (se_isi (b := .dict) b_isinstance b_dict (by first | decide | omega) v_theirs.peek))) (sw_or1 (st_cmp J.opNe vp_ne (nomark _) (toP (se_callB cr_lenDD vp_lenD b_len (spa_cons v_mine.peek spa_nil))) (toP (se_callB cr_lenDD vp_lenD b_len (spa_cons v_theirs.peek spa_nil)))))).pt (ss_one (ss_ret se_bl)) ss_nil) (ss_one (ss_ret (se_callB (cr_all J.calm) vp_all b_all (spa_cons (toP (ofO (J.compJ (vs := [("key", 4)]) (toIP (si_anyD v_mine.var)) (by decide +kernel) (fun s H C cl fp J => by
  have a_key : NmA _ "key" 4 := J.a (by decide +kernel)
  exact a_key.tg) (fun s H C cl fp J => sts_nil) (fun s H C cl fp J => by
  have v_key : NmV _ "key" 4 := J.v (by decide +kernel)
  have v_theirs : NmV _ "theirs" 1 := J.v (by decide +kernel)
  have v_mine : NmV _ "mine" 0 := J.v (by decide +kernel)
  have g__law_exact : NmG _ "_law_exact" := J.g (by decide +kernel)
  exact (se_and (se_cmp J.opInD vp_inD (by rfl) v_key.peek v_theirs.peek) (se_one (J.call takes_no G (Nat.le_refl _) g__law_exact (sa_cons (se_at J.units (fun _ _ => rfl) (fun _ _ => rfl) v_mine.peek v_key.peek) (sa_cons (se_at J.units (fun _ _ => rfl) (fun _ _ => rfl) v_theirs.peek v_key.peek) sa_nil)))))) (by first | decide | omega)))) spa_nil))))) ss_nil) (ss_cons (ss_if (st_val (se_isiT b_isinstance (sty_cons (b := .list) b_list (sty_cons (b := .tuple) b_tuple sty_nil)) (by first | decide | omega) (by first | decide | omega) v_mine.peek)) (ss_cons (a_is_list.set (se_cmp J.opEq vp_eq (nomark _) (toP (se_isi (b := .list) b_isinstance b_list (by first | decide | omega) v_theirs.peek)) (toP (se_isi (b := .list) b_isinstance b_list (by first | decide | omega) v_mine.peek)))) (ss_cons (a_is_like.set (se_and v_is_list.var (se_one (se_cmp J.opEq vp_eq (nomark _) (toP (se_isi (b := .tuple) b_isinstance b_tuple (by first | decide | omega) v_theirs.peek)) (toP (se_isi (b := .tuple) b_isinstance b_tuple (by first | decide | omega) v_mine.peek)))))) (ss_one (ss_ret (se_and v_is_like.var (se_and (se_cmp J.opEq vp_eq (nomark _) (toP (se_callB cr_lenDD vp_lenD b_len (spa_cons v_mine.peek spa_nil))) (toP (se_callB cr_lenDD vp_lenD b_len (spa_cons v_theirs.peek spa_nil)))) (se_one (se_callB (cr_all J.calm) vp_all b_all (spa_cons (toP (ofO (J.compJ (vs := [("a", 5), ("b", 6)]) (toIP (si_zip b_zip (sa_cons v_mine.var (sa_cons v_theirs.var sa_nil)))) (by decide +kernel) (fun s H C cl fp J => by
  have a_b : NmA _ "b" 6 := J.a (by decide +kernel)
  have a_a : NmA _ "a" 5 := J.a (by decide +kernel)
  exact (sg_tup J.calm (sgs_cons a_a.tg (sgs_cons a_b.tg sgs_nil)))) (fun s H C cl fp J => sts_nil) (fun s H C cl fp J => by
  have v_b : NmV _ "b" 6 := J.v (by decide +kernel)
  have v_a : NmV _ "a" 5 := J.v (by decide +kernel)
  have g__law_exact : NmG _ "_law_exact" := J.g (by decide +kernel)
  exact (J.call takes_no G (Nat.le_refl _) g__law_exact (sa_cons v_a.var (sa_cons v_b.var sa_nil)))) (by first | decide | omega)))) spa_nil))))))))) ss_nil) (ss_cons (ss_if (sw_or (st_val (se_isiT b_isinstance (sty_cons (b := .list) b_list (sty_cons (b := .tuple) b_tuple (sty_cons (b := .dict) b_dict sty_nil))) (by first | decide | omega) (by first | decide | omega) v_theirs.peek)) (sw_or1 (st_cmp J.opNe vp_ne (nomark _) (toP (se_isN v_mine.peek)) (toP (se_isN v_theirs.peek))))).pt (ss_one (ss_ret se_bl)) ss_nil) (ss_cons (a_is_like.set (se_and (se_cmp J.opEq vp_eq (nomark _) (toP (se_isi (b := .int) b_isinstance b_int (by first | decide | omega) v_mine.peek)) (toP (se_isi (b := .int) b_isinstance b_int (by first | decide | omega) v_theirs.peek))) (se_one (se_cmp J.opEq vp_eq (nomark _) (toP (se_isi (b := .str) b_isinstance b_str (by first | decide | omega) v_mine.peek)) (toP (se_isi (b := .str) b_isinstance b_str (by first | decide | omega) v_theirs.peek)))))) (ss_one (ss_ret (se_and v_is_like.var (se_and (se_cmp J.opEq vp_eq (nomark _) (toP (se_isi (b := .bool) b_isinstance b_bool (by first | decide | omega) v_mine.peek)) (toP (se_isi (b := .bool) b_isinstance b_bool (by first | decide | omega) v_theirs.peek))) (se_one (se_cmp J.opEq vp_eq (nomark _) v_mine.peek v_theirs.peek))))))))))
theorem f__law_exact (M : Md fa fn ex K mg) : FnS R.prog w K mg base 13 "_law_exact" 2 [] F__law_exact := (fb__law_exact_ M 12).s (fun fd F => Md.bindN F fun _ _ _ _ _ _ us hl => match us, hl with | [_, _], _ => rfl)
def b__law_of_signs : SM := (seqS (par2S 3 4 (.v (callE (callN 2 F__law_draw) [] (consA (varE 0) (consA (bin2 addM (callB lenM (consA (peekE 1) nilA)) (cE (.int 1))) nilA)))) (.v (callE (callN 2 F__law_one_of) [] (consA (varE 0) (consA (varE 2) nilA))))) (seqS (setS 5 (callE (callN 2 F__law_draw) [] (consA (varE 0) (consA (bin2 addM (callB lenM (consA (peekE 1) nilA)) (cE (.int 1))) nilA)))) (seqS (par2S 6 7 (.v (callB minM (consA (peekE 3) (consA (peekE 5) nilA)))) (.v (callB maxM (consA (peekE 3) (consA (peekE 5) nilA))))) (seqS (setS 8 (wrapL (lstO (consA (bin2 addM (bin2 addM (slV (peekE 1) noP (prtP (peekE 3))) (peekE 4)) (slV (peekE 1) (prtP (peekE 3)) noP)) (consA (bin2 addM (slV (peekE 1) noP (prtP (peekE 3))) (slV (peekE 1) (prtP (bin2 addM (peekE 3) (cE (.int 1)))) noP)) (consA (bin2 addM (bin2 addM (slV (peekE 1) noP (prtP (peekE 3))) (peekE 4)) (slV (peekE 1) (prtP (bin2 addM (peekE 3) (cE (.int 1)))) noP)) (consA (slV (peekE 1) noP (prtP (peekE 3))) (consA (slV (peekE 1) (prtP (peekE 3)) noP) (consA (bin2 addM (peekE 1) (peekE 4)) (consA (bin2 addM (peekE 4) (peekE 1)) nilA)))))))))) (retS (callE (callN 2 F__law_one_of) [] (consA (varE 0) (consA (bin2 addM (peekE 8) (wrapL (lstO (consA (bin2 addM (slV (peekE 1) noP (prtP (peekE 6))) (slV (peekE 1) (prtP (peekE 7)) noP)) (consA (bin2 addM (slV (peekE 1) noP (prtP (peekE 7))) (slV (peekE 1) (prtP (peekE 6)) noP)) (consA (bin2 addM (un1 revVM (slV (peekE 1) (prtP (peekE 6)) (prtP (peekE 7)))) (slV (peekE 1) (prtP (peekE 7)) noP)) (consA (bin2 addM (peekE 1) (peekE 1)) nilA))))))) nilA))))))))
def F__law_of_signs : List MV → MH → Res MV := bodyF 9 3 b__law_of_signs
theorem fb__law_of_signs (M : Md fa fn ex K mg) : FnB R.prog w K mg base 4 "_law_of_signs" ["purse", "text", "signs"] 3 d__law_of_signs F__law_of_signs := by
  refine M.fb (N := ["purse", "text", "signs", "at", "sign", "spot", "low", "high", "some"]) (ps := ["purse", "text", "signs"]) 21 (d := d__law_of_signs) rfl (M.glo 18) rfl ⟨rfl, rfl, rfl, by decide +kernel, rfl, by decide +kernel, by decide +kernel⟩ rfl fun X J hp W tk => ?_
  have a_at : NmA _ "at" 3 := J.a (by decide +kernel)
  have a_sign : NmA _ "sign" 4 := J.a (by decide +kernel)
  have v_text : NmV _ "text" 1 := J.v (by decide +kernel)
  have b_len : NmB _ "len" (.builtin "len") := J.b (m_len M) bt_len (by decide +kernel)
  have v_purse : NmV _ "purse" 0 := J.v (by decide +kernel)
  have g__law_draw : NmG _ "_law_draw" := J.g (by decide +kernel)
  have v_signs : NmV _ "signs" 2 := J.v (by decide +kernel)
  have g__law_one_of : NmG _ "_law_one_of" := J.g (by decide +kernel)
  have a_spot : NmA _ "spot" 5 := J.a (by decide +kernel)
  have a_low : NmA _ "low" 6 := J.a (by decide +kernel)
  have a_high : NmA _ "high" 7 := J.a (by decide +kernel)
  have v_spot : NmV _ "spot" 5 := J.v (by decide +kernel)
  have v_at : NmV _ "at" 3 := J.v (by decide +kernel)
  have b_min : NmB _ "min" (.builtin "min") := J.b (m_min M) bt_min (by decide +kernel)
  have b_max : NmB _ "max" (.builtin "max") := J.b (m_max M) bt_max (by decide +kernel)
  have v_sign : NmV _ "sign" 4 := J.v (by decide +kernel)
  have a_some : NmA _ "some" 8 := J.a (by decide +kernel)
  have v_some : NmV _ "some" 8 := J.v (by decide +kernel)
  have v_low : NmV _ "low" 6 := J.v (by decide +kernel)
  have v_high : NmV _ "high" 7 := J.v (by decide +kernel)
  exact (ss_cons (J.par2 (a := (.v (callE (callN 2 F__law_draw) [] (consA (varE 0) (consA (bin2 addM (callB lenM (consA (peekE 1) nilA)) (cE (.int 1))) nilA))))) (b := (.v (callE (callN 2 F__law_one_of) [] (consA (varE 0) (consA (varE 2) nilA))))) a_at a_sign (by decide) (by decide +kernel) (by decide +kernel) (J.call tk (f__law_draw M) (by decide) g__law_draw (sa_cons v_purse.var (sa_cons (se_bin op_addM vp_add (toP (se_callB call_len vp_len b_len (spa_cons v_text.peek spa_nil))) (toP se_int)) sa_nil))) (J.call tk (f__law_one_of M) (by decide) g__law_one_of (sa_cons v_purse.var (sa_cons v_signs.var sa_nil))) (by rfl)) (ss_cons (a_spot.set (J.call tk (f__law_draw M) (by decide) g__law_draw (sa_cons v_purse.var (sa_cons (se_bin op_addM vp_add (toP (se_callB call_len vp_len b_len (spa_cons v_text.peek spa_nil))) (toP se_int)) sa_nil)))) (ss_cons (J.par2 (a := (.v (callB minM (consA (peekE 3) (consA (peekE 5) nilA))))) (b := (.v (callB maxM (consA (peekE 3) (consA (peekE 5) nilA))))) a_low a_high (by decide) (by decide +kernel) (by decide +kernel) (se_callB (cr_minM J.calm) vp_min b_min (spa_cons v_at.peek (spa_cons v_spot.peek spa_nil))) (se_callB (cr_maxM J.calm) vp_max b_max (spa_cons v_at.peek (spa_cons v_spot.peek spa_nil))) (by rfl)) (ss_cons (a_some.set (ofO (so_lst (sa_cons (se_bin op_addM vp_add (toP (se_bin op_addM vp_add (toP (se_slV v_text.peek spo_none (spo_some v_at.peek))) v_sign.peek)) (toP (se_slV v_text.peek (spo_some v_at.peek) spo_none))) (sa_cons (se_bin op_addM vp_add (toP (se_slV v_text.peek spo_none (spo_some v_at.peek))) (toP (se_slV v_text.peek (spo_some (toP (se_bin op_addM vp_add v_at.peek (toP se_int)))) spo_none))) (sa_cons (se_bin op_addM vp_add (toP (se_bin op_addM vp_add (toP (se_slV v_text.peek spo_none (spo_some v_at.peek))) v_sign.peek)) (toP (se_slV v_text.peek (spo_some (toP (se_bin op_addM vp_add v_at.peek (toP se_int)))) spo_none))) (sa_cons (se_slV v_text.peek spo_none (spo_some v_at.peek)) (sa_cons (se_slV v_text.peek (spo_some v_at.peek) spo_none) (sa_cons (se_bin op_addM vp_add v_text.peek v_sign.peek) (sa_cons (se_bin op_addM vp_add v_sign.peek v_text.peek) sa_nil)))))))))) (ss_one (ss_ret (J.call tk (f__law_one_of M) (by decide) g__law_one_of (sa_cons v_purse.var (sa_cons (se_bin op_addM vp_add v_some.peek (toP (ofO (so_lst (sa_cons (se_bin op_addM vp_add (toP (se_slV v_text.peek spo_none (spo_some v_low.peek))) (toP (se_slV v_text.peek (spo_some v_high.peek) spo_none))) (sa_cons (se_bin op_addM vp_add (toP (se_slV v_text.peek spo_none (spo_some v_high.peek))) (toP (se_slV v_text.peek (spo_some v_low.peek) spo_none))) (sa_cons (se_bin op_addM vp_add (toP (se_rev01 (toP (se_slV v_text.peek (spo_some v_low.peek) (spo_some v_high.peek))))) (toP (se_slV v_text.peek (spo_some v_high.peek) spo_none))) (sa_cons (se_bin op_addM vp_add v_text.peek v_text.peek) sa_nil)))))))) sa_nil)))))))))
theorem f__law_of_signs (M : Md fa fn ex K mg) : FnS R.prog w K mg base 4 "_law_of_signs" 3 [] F__law_of_signs := (fb__law_of_signs M).s (fun fd F => Md.bindN F fun _ _ _ _ _ _ us hl => match us, hl with | [_, _, _], _ => rfl)
def b__law_is_floor : SM := (seqS (ifS (tstE (bin2 eqM (peekE 0) (wrapL (lstO nilA)))) (retS (cE (.bl false))) nextS) (seqS (par2S 1 2 (.v (wrapL (lstO (consA (bin2 ixDM (peekE 0) (cE (.int 0))) nilA)))) (.v (slV (peekE 0) (prtP (cE (.int 1))) noP))) (seqS (forS (nameT 3) (itB rng1M (consA (callB lenM (consA (peekE 0) nilA)) nilA)) (seqS (setS 4 (wrapL (compO [5] (itAny (varE 2)) (nameT 5) (tstE (bin2 neM (wrapL (compO [6, 7] (itAny (varE 1)) (tupT 2 (consT (nameT 6) (consT (nameT 7) nilT))) (tstE (bin2 eqM (bin2 addM (callB absM (consA (bin2 subM (peekE 6) (bin2 ixDM (peekE 5) (cE (.int 0)))) nilA)) (callB absM (consA (bin2 subM (peekE 7) (bin2 ixDM (peekE 5) (cE (.int 1)))) nilA))) (cE (.int 1)))) (cE (.int 1)))) (wrapL (lstO nilA)))) (varE 5)))) (par2S 1 2 (.v (bin2 addM (peekE 1) (peekE 4))) (.v (wrapL (compO [5] (itAny (varE 2)) (nameT 5) (tstE (bin2 notInM (peekE 5) (peekE 4))) (varE 5))))))) (retS (bin2 eqM (peekE 2) (wrapL (lstO nilA)))))))
def F__law_is_floor : List MV → MH → Res MV := bodyF 8 1 b__law_is_floor
theorem fb__law_is_floor (M : Md fa fn ex K mg) : FnB R.prog w K mg base 1 "_law_is_floor" ["cells"] 1 d__law_is_floor F__law_is_floor := by
  refine M.fb (N := ["cells", "near", "left", "turn", "more", "cell", "x", "y"]) (ps := ["cells"]) 22 (d := d__law_is_floor) rfl (M.glo 19) rfl ⟨rfl, rfl, rfl, by decide +kernel, rfl, by decide +kernel, by decide +kernel⟩ rfl fun X J hp W tk => ?_
  have v_cells : NmV _ "cells" 0 := J.v (by decide +kernel)
  have a_near : NmA _ "near" 1 := J.a (by decide +kernel)
  have a_left : NmA _ "left" 2 := J.a (by decide +kernel)
  have b_len : NmB _ "len" (.builtin "len") := J.b (m_len M) bt_len (by decide +kernel)
  have b_range : NmB _ "range" (.type "range") := J.b (m_range M) bt_range (by decide +kernel)
  have a_turn : NmA _ "turn" 3 := J.a (by decide +kernel)
  have v_left : NmV _ "left" 2 := J.v (by decide +kernel)
  have a_more : NmA _ "more" 4 := J.a (by decide +kernel)
  have v_near : NmV _ "near" 1 := J.v (by decide +kernel)
  have v_more : NmV _ "more" 4 := J.v (by decide +kernel)
  exact (ss_cons (ss_if (st_cmp J.opEq vp_eq (nomark _) v_cells.peek (toP (ofO (so_lst sa_nil)))) (ss_one (ss_ret se_bl)) ss_nil) (ss_cons (J.asg2 (a := (.v (wrapL (lstO (consA (bin2 ixDM (peekE 0) (cE (.int 0))) nilA))))) (b := (.v (slV (peekE 0) (prtP (cE (.int 1))) noP))) a_near a_left (by decide) (ofO (so_lst (sa_cons (se_at J.units (fun _ _ => rfl) (fun _ _ => rfl) v_cells.peek (toP se_int)) sa_nil))) (se_slV v_cells.peek (spo_some (toP se_int)) spo_none) (by rfl)) (ss_cons (ss_for hp J.calm (si_rng1 b_range (sa_cons (se_callB call_len vp_len b_len (spa_cons v_cells.peek spa_nil)) sa_nil)) a_turn.tg (ss_cons (a_more.set (ofO (J.compJ (vs := [("cell", 5)]) (toIP (si_any v_left.var)) (by decide +kernel) (fun s H C cl fp J => by
  have a_cell : NmA _ "cell" 5 := J.a (by decide +kernel)
  exact a_cell.tg) (fun s H C cl fp J => by
  have v_near : NmV _ "near" 1 := J.v (by decide +kernel)
  exact (sts_one (st_cmp J.opNe vp_ne (nomark _) (toP (ofO (J.compJ (vs := [("x", 6), ("y", 7)]) (toIP (si_any v_near.var)) (by decide +kernel) (fun s H C cl fp J => by
  have a_y : NmA _ "y" 7 := J.a (by decide +kernel)
  have a_x : NmA _ "x" 6 := J.a (by decide +kernel)
  exact (sg_tup J.calm (sgs_cons a_x.tg (sgs_cons a_y.tg sgs_nil)))) (fun s H C cl fp J => by
  have v_x : NmV _ "x" 6 := J.v (by decide +kernel)
  have v_cell : NmV _ "cell" 5 := J.v (by decide +kernel)
  have b_abs : NmB _ "abs" (.builtin "abs") := J.b (m_abs M) bt_abs (by decide +kernel)
  have v_y : NmV _ "y" 7 := J.v (by decide +kernel)
  exact (sts_one (st_cmp J.opEq vp_eq (nomark _) (toP (se_bin op_addM vp_add (toP (se_callB call_abs vp_abs b_abs (spa_cons (toP (se_bin op_subM vp_sub v_x.peek (toP (se_at J.units (fun _ _ => rfl) (fun _ _ => rfl) v_cell.peek (toP se_int))))) spa_nil))) (toP (se_callB call_abs vp_abs b_abs (spa_cons (toP (se_bin op_subM vp_sub v_y.peek (toP (se_at J.units (fun _ _ => rfl) (fun _ _ => rfl) v_cell.peek (toP se_int))))) spa_nil))))) (toP se_int)))) (fun s H C cl fp J => by
  exact se_int) (by decide)))) (toP (ofO (so_lst sa_nil)))))) (fun s H C cl fp J => by
  have v_cell : NmV _ "cell" 5 := J.v (by decide +kernel)
  exact v_cell.var) (by decide))) (J.sww (by rfl))) (ss_one (J.asg2 (a := (.v (bin2 addM (peekE 1) (peekE 4)))) (b := (.v (wrapL (compO [5] (itAny (varE 2)) (nameT 5) (tstE (bin2 notInM (peekE 5) (peekE 4))) (varE 5))))) a_near a_left (by decide) (se_bin op_addM vp_add v_near.peek v_more.peek) (ofO (J.compJ (vs := [("cell", 5)]) (toIP (si_any v_left.var)) (by decide +kernel) (fun s H C cl fp J => by
  have a_cell : NmA _ "cell" 5 := J.a (by decide +kernel)
  exact a_cell.tg) (fun s H C cl fp J => by
  have v_cell : NmV _ "cell" 5 := J.v (by decide +kernel)
  have v_more : NmV _ "more" 4 := J.v (by decide +kernel)
  exact (sts_one (st_cmp J.opNotIn vp_notIn (by rfl) v_cell.peek v_more.peek))) (fun s H C cl fp J => by
  have v_cell : NmV _ "cell" 5 := J.v (by decide +kernel)
  exact v_cell.var) (by decide))) (by rfl))))) (ss_one (ss_ret (se_cmp J.opEq vp_eq (nomark _) v_left.peek (toP (ofO (so_lst sa_nil)))))))))
theorem f__law_is_floor (M : Md fa fn ex K mg) : FnS R.prog w K mg base 1 "_law_is_floor" 1 [] F__law_is_floor := (fb__law_is_floor M).s (fun fd F => Md.bindN F fun _ _ _ _ _ _ us hl => match us, hl with | [_], _ => rfl)
def b__law_grown_floor : SM := (seqS (setS 1 (wrapL (lstO (consA (tupE (consA (callE (callN 2 F__law_draw) [] (consA (varE 0) (consA (cE (.int 3)) nilA))) (consA (callE (callN 2 F__law_draw) [] (consA (varE 0) (consA (cE (.int 3)) nilA))) nilA))) nilA)))) (seqS (forS (nameT 2) (itB rng1M (consA (callE (callN 2 F__law_draw) [] (consA (varE 0) (consA (cE (.int 14)) nilA))) nilA)) (seqS (asgS (tupT 2 (consT (nameT 3) (consT (nameT 4) nilT))) (callE (callN 2 F__law_one_of) [] (consA (varE 0) (consA (varE 1) nilA)))) (seqS (setS 5 (callE (callN 2 F__law_one_of) [] (consA (varE 0) (consA (wrapL (lstO (consA (tupE (consA (bin2 addM (peekE 3) (cE (.int 1))) (consA (varE 4) nilA))) (consA (tupE (consA (varE 3) (consA (bin2 addM (peekE 4) (cE (.int 1))) nilA))) (consA (tupE (consA (callB maxM (consA (bin2 subM (peekE 3) (cE (.int 1))) (consA (cE (.int 0)) nilA))) (consA (varE 4) nilA))) (consA (tupE (consA (varE 3) (consA (callB maxM (consA (bin2 subM (peekE 4) (cE (.int 1))) (consA (cE (.int 0)) nilA))) nilA))) nilA)))))) nilA)))) (setS 1 (bin2 addM (peekE 1) (bin2 mulM (wrapL (lstO (consA (varE 5) nilA))) (callB intM (consA (bin2 notInM (peekE 5) (peekE 1)) nilA)))))))) (retS (wrapL (callBO sortedPM (consA (peekE 1) nilA))))))
def F__law_grown_floor : List MV → MH → Res MV := bodyF 6 1 b__law_grown_floor
theorem fb__law_grown_floor (M : Md fa fn ex K mg) : FnB R.prog w K mg base 4 "_law_grown_floor" ["purse"] 1 d__law_grown_floor F__law_grown_floor := by
  refine M.fb (N := ["purse", "floor", "spin", "x", "y", "late"]) (ps := ["purse"]) 23 (d := d__law_grown_floor) rfl (M.glo 20) rfl ⟨rfl, rfl, rfl, by decide +kernel, rfl, by decide +kernel, by decide +kernel⟩ rfl fun X J hp W tk => ?_
  have v_purse : NmV _ "purse" 0 := J.v (by decide +kernel)
  have g__law_draw : NmG _ "_law_draw" := J.g (by decide +kernel)
  have a_floor : NmA _ "floor" 1 := J.a (by decide +kernel)
  have b_range : NmB _ "range" (.type "range") := J.b (m_range M) bt_range (by decide +kernel)
  have a_spin : NmA _ "spin" 2 := J.a (by decide +kernel)
  have v_floor : NmV _ "floor" 1 := J.v (by decide +kernel)
  have g__law_one_of : NmG _ "_law_one_of" := J.g (by decide +kernel)
  have a_y : NmA _ "y" 4 := J.a (by decide +kernel)
  have a_x : NmA _ "x" 3 := J.a (by decide +kernel)
  have v_y : NmV _ "y" 4 := J.v (by decide +kernel)
  have b_max : NmB _ "max" (.builtin "max") := J.b (m_max M) bt_max (by decide +kernel)
  have v_x : NmV _ "x" 3 := J.v (by decide +kernel)
  have a_late : NmA _ "late" 5 := J.a (by decide +kernel)
  have v_late : NmV _ "late" 5 := J.v (by decide +kernel)
  have b_int : NmB _ "int" (.type "int") := J.b (m_int M) bt_int (by decide +kernel)
  have b_sorted : NmB _ "sorted" (.builtin "sorted") := J.b (m_sorted M) bt_sorted (by decide +kernel)
  exact (ss_cons (a_floor.set (ofO (so_lst (sa_cons (se_tup (sa_cons (J.call tk (f__law_draw M) (by decide) g__law_draw (sa_cons v_purse.var (sa_cons se_int sa_nil))) (sa_cons (J.call tk (f__law_draw M) (by decide) g__law_draw (sa_cons v_purse.var (sa_cons se_int sa_nil))) sa_nil))) sa_nil)))) (ss_cons (ss_for hp J.calm (si_rng1 b_range (sa_cons (J.call tk (f__law_draw M) (by decide) g__law_draw (sa_cons v_purse.var (sa_cons se_int sa_nil))) sa_nil)) a_spin.tg (ss_cons (J.asg (J.call tk (f__law_one_of M) (by decide) g__law_one_of (sa_cons v_purse.var (sa_cons v_floor.var sa_nil))) (sg_tup J.calm (sgs_cons a_x.tg (sgs_cons a_y.tg sgs_nil))) (by rfl)) (ss_cons (a_late.set (J.call tk (f__law_one_of M) (by decide) g__law_one_of (sa_cons v_purse.var (sa_cons (ofO (so_lst (sa_cons (se_tup (sa_cons (se_bin op_addM vp_add v_x.peek (toP se_int)) (sa_cons v_y.var sa_nil))) (sa_cons (se_tup (sa_cons v_x.var (sa_cons (se_bin op_addM vp_add v_y.peek (toP se_int)) sa_nil))) (sa_cons (se_tup (sa_cons (se_callB (cr_maxM J.calm) vp_max b_max (spa_cons (toP (se_bin op_subM vp_sub v_x.peek (toP se_int))) (spa_cons (toP se_int) spa_nil))) (sa_cons v_y.var sa_nil))) (sa_cons (se_tup (sa_cons v_x.var (sa_cons (se_callB (cr_maxM J.calm) vp_max b_max (spa_cons (toP (se_bin op_subM vp_sub v_y.peek (toP se_int))) (spa_cons (toP se_int) spa_nil))) sa_nil))) sa_nil)))))) sa_nil)))) (ss_one (a_floor.set (se_bin op_addM vp_add v_floor.peek (toP (se_bin op_mulM vp_mul (toP (ofO (so_lst (sa_cons v_late.var sa_nil)))) (toP (se_callT call_int1 vp_toInt b_int (spa_cons (toP (se_cmp J.opNotIn vp_notIn (by rfl) v_late.peek v_floor.peek)) spa_nil))))))))))) (ss_one (ss_ret (ofO (so_callB cr_sortedPM vo_sortedPM b_sorted (spa_cons v_floor.peek spa_nil)))))))
theorem f__law_grown_floor (M : Md fa fn ex K mg) : FnS R.prog w K mg base 4 "_law_grown_floor" 1 [] F__law_grown_floor := (fb__law_grown_floor M).s (fun fd F => Md.bindN F fun _ _ _ _ _ _ us hl => match us, hl with | [_], _ => rfl)
def b__law_drawn : SM := (seqS (ownS 1 (lstO nilA)) (seqS (forS (nameT 2) (itB rng1M (consA (bin2 addM (callB maxM (consA (wrapL (compO [3] (itAny (varE 0)) (nameT 3) yesT (bin2 ixDM (peekE 3) (cE (.int 1))))) nilA)) (cE (.int 1))) nilA)) (mutS 1 appendM (consA (strE (cE (.str [])) fun s => un1 (fun h x => joinM s h [x]) (wrapL (compO [4] (itB rng1M (consA (bin2 addM (callB maxM (consA (wrapL (compO [3] (itAny (varE 0)) (nameT 3) yesT (bin2 ixDM (peekE 3) (cE (.int 0))))) nilA)) (cE (.int 1))) nilA)) (nameT 4) yesT (ifE (tstE (bin2 inM (tupE (consA (varE 4) (consA (varE 2) nilA))) (peekE 0))) (cE (.str [35])) (cE (.str [46])))))) nilA))) (retS (strE (cE (.str [10])) fun s => un1 (fun h x => joinM s h [x]) (un1 revVM (peekE 1))))))
def F__law_drawn : List MV → MH → Res MV := bodyF 5 1 b__law_drawn
theorem fb__law_drawn (M : Md fa fn ex K mg) : FnB R.prog w K mg base 1 "_law_drawn" ["floor"] 1 d__law_drawn F__law_drawn := by
  refine M.fb (N := ["floor", "rows", "y", "cell", "x"]) (ps := ["floor"]) 24 (d := d__law_drawn) rfl (M.glo 21) rfl ⟨rfl, rfl, rfl, by decide +kernel, rfl, by decide +kernel, by decide +kernel⟩ rfl fun X J hp W tk => ?_
  have a_rows : NmA _ "rows" 1 := J.a (by decide +kernel)
  have v_floor : NmV _ "floor" 0 := J.v (by decide +kernel)
  have b_max : NmB _ "max" (.builtin "max") := J.b (m_max M) bt_max (by decide +kernel)
  have b_range : NmB _ "range" (.type "range") := J.b (m_range M) bt_range (by decide +kernel)
  have a_y : NmA _ "y" 2 := J.a (by decide +kernel)
  have v_rows : NmV _ "rows" 1 := J.v (by decide +kernel)
  exact (ss_cons (a_rows.setO (so_lst sa_nil)) (ss_cons (ss_for hp J.calm (si_rng1 b_range (sa_cons (se_bin op_addM vp_add (toP (se_callB (cr_maxM J.calm) vp_max b_max (spa_cons (toP (ofO (J.compJ (vs := [("cell", 3)]) (toIP (si_any v_floor.var)) (by decide +kernel) (fun s H C cl fp J => by
  have a_cell : NmA _ "cell" 3 := J.a (by decide +kernel)
  exact a_cell.tg) (fun s H C cl fp J => sts_nil) (fun s H C cl fp J => by
  have v_cell : NmV _ "cell" 3 := J.v (by decide +kernel)
  exact (se_at J.units (fun _ _ => rfl) (fun _ _ => rfl) v_cell.peek (toP se_int))) (by decide)))) spa_nil))) (toP se_int)) sa_nil)) a_y.tg (ss_one (ss_mut PySem.F.slot_list_append PySem.F.type_list_append mt_append vm_append v_rows.raw (sa_cons (se_join (toP (se_str (by decide +kernel))) (toP (ofO (J.compJ (vs := [("x", 4)]) (toIP (si_rng1 b_range (sa_cons (se_bin op_addM vp_add (toP (se_callB (cr_maxM J.calm) vp_max b_max (spa_cons (toP (ofO (J.compJ (vs := [("cell", 3)]) (toIP (si_any v_floor.var)) (by decide +kernel) (fun s H C cl fp J => by
  have a_cell : NmA _ "cell" 3 := J.a (by decide +kernel)
  exact a_cell.tg) (fun s H C cl fp J => sts_nil) (fun s H C cl fp J => by
  have v_cell : NmV _ "cell" 3 := J.v (by decide +kernel)
  exact (se_at J.units (fun _ _ => rfl) (fun _ _ => rfl) v_cell.peek (toP se_int))) (by decide)))) spa_nil))) (toP se_int)) sa_nil))) (by decide +kernel) (fun s H C cl fp J => by
  have a_x : NmA _ "x" 4 := J.a (by decide +kernel)
  exact a_x.tg) (fun s H C cl fp J => sts_nil) (fun s H C cl fp J => by
  have v_y : NmV _ "y" 2 := J.v (by decide +kernel)
  have v_x : NmV _ "x" 4 := J.v (by decide +kernel)
  have v_floor : NmV _ "floor" 0 := J.v (by decide +kernel)
  exact (se_if (st_cmp J.opIn vp_in (by rfl) (toP (se_tup (sa_cons v_x.var (sa_cons v_y.var sa_nil)))) v_floor.peek) (se_str (by decide +kernel)) (se_str (by decide +kernel)))) (by decide))))) sa_nil)))) (ss_one (ss_ret (se_join (toP (se_str (by decide +kernel))) (toP (se_rev01 v_rows.peek)))))))
theorem f__law_drawn (M : Md fa fn ex K mg) : FnS R.prog w K mg base 1 "_law_drawn" 1 [] F__law_drawn := (fb__law_drawn M).s (fun fd F => Md.bindN F fun _ _ _ _ _ _ us hl => match us, hl with | [_], _ => rfl)
def b__law_due : SM := (seqS (setS 1 (wrapL (lstO nilA))) (seqS (forS (tupT 2 (consT (nameT 2) (consT (nameT 3) nilT))) (itB enumM (consA (un1 revVM (wrapL (strO (peekE 0) fun s => bindE (cE (.str [10])) fun x _ h => optR (splitM s h [x]) h))) nilA)) (setS 1 (bin2 addM (peekE 1) (wrapL (compO [4, 5] (itB enumM (consA (varE 3) nilA)) (tupT 2 (consT (nameT 4) (consT (nameT 5) nilT))) (tstE (bin2 eqM (peekE 5) (cE (.str [35])))) (tupE (consA (varE 4) (consA (varE 2) nilA)))))))) (seqS (setS 1 (wrapL (callBO sortedPM (consA (peekE 1) nilA)))) (retS (ifE (andT (tstE (callE (callN 1 F__law_is_floor) [] (consA (varE 1) nilA))) (tstE (bin2 eqM (callE (callN 1 F__law_drawn) [] (consA (varE 1) nilA)) (peekE 0)))) (wrapL (lstO (consA (cE (.str [116, 111, 108, 100])) (consA (varE 1) nilA)))) (wrapL (lstO (consA (cE (.str [110, 111, 110, 101])) (consA (varE 0) nilA)))))))))
def F__law_due : List MV → MH → Res MV := bodyF 6 1 b__law_due
theorem fb__law_due (M : Md fa fn ex K mg) : FnB R.prog w K mg base 2 "_law_due" ["text"] 1 d__law_due F__law_due := by
  refine M.fb (N := ["text", "floor", "y", "row", "x", "sign"]) (ps := ["text"]) 25 (d := d__law_due) rfl (M.glo 22) rfl ⟨rfl, rfl, rfl, by decide +kernel, rfl, by decide +kernel, by decide +kernel⟩ rfl fun X J hp W tk => ?_
  have a_floor : NmA _ "floor" 1 := J.a (by decide +kernel)
  have v_text : NmV _ "text" 0 := J.v (by decide +kernel)
  have b_enumerate : NmB _ "enumerate" (.type "enumerate") := J.b (m_enumerate M) bt_enumerate (by decide +kernel)
  have a_row : NmA _ "row" 3 := J.a (by decide +kernel)
  have a_y : NmA _ "y" 2 := J.a (by decide +kernel)
  have v_floor : NmV _ "floor" 1 := J.v (by decide +kernel)
  have v_row : NmV _ "row" 3 := J.v (by decide +kernel)
  have b_sorted : NmB _ "sorted" (.builtin "sorted") := J.b (m_sorted M) bt_sorted (by decide +kernel)
  have g__law_is_floor : NmG _ "_law_is_floor" := J.g (by decide +kernel)
  have g__law_drawn : NmG _ "_law_drawn" := J.g (by decide +kernel)
  exact (ss_cons (a_floor.set (ofO (so_lst sa_nil))) (ss_cons (ss_for hp J.calm (si_enum b_enumerate (sa_cons (se_rev01 (toP (ofO (so_split v_text.peek (toP (se_str (by decide +kernel))))))) sa_nil)) (sg_tup J.calm (sgs_cons a_y.tg (sgs_cons a_row.tg sgs_nil))) (ss_one (a_floor.set (se_bin op_addM vp_add v_floor.peek (toP (ofO (J.compJ (vs := [("x", 4), ("sign", 5)]) (toIP (si_enum b_enumerate (sa_cons v_row.var sa_nil))) (by decide +kernel) (fun s H C cl fp J => by
  have a_sign : NmA _ "sign" 5 := J.a (by decide +kernel)
  have a_x : NmA _ "x" 4 := J.a (by decide +kernel)
  exact (sg_tup J.calm (sgs_cons a_x.tg (sgs_cons a_sign.tg sgs_nil)))) (fun s H C cl fp J => by
  have v_sign : NmV _ "sign" 5 := J.v (by decide +kernel)
  exact (sts_one (st_cmp J.opEq vp_eq (nomark _) v_sign.peek (toP (se_str (by decide +kernel)))))) (fun s H C cl fp J => by
  have v_y : NmV _ "y" 2 := J.v (by decide +kernel)
  have v_x : NmV _ "x" 4 := J.v (by decide +kernel)
  exact (se_tup (sa_cons v_x.var (sa_cons v_y.var sa_nil)))) (by decide)))))))) (ss_cons (a_floor.set (ofO (so_callB cr_sortedPM vo_sortedPM b_sorted (spa_cons v_floor.peek spa_nil)))) (ss_one (ss_ret (se_if (sw_and (st_val (J.call tk (f__law_is_floor M) (by decide) g__law_is_floor (sa_cons v_floor.var sa_nil))) (sw_and1 (st_cmp J.opEq vp_eq (nomark _) (toP (J.call tk (f__law_drawn M) (by decide) g__law_drawn (sa_cons v_floor.var sa_nil))) v_text.peek))).pt (ofO (so_lst (sa_cons (se_str (by decide +kernel)) (sa_cons v_floor.var sa_nil)))) (ofO (so_lst (sa_cons (se_str (by decide +kernel)) (sa_cons v_text.var sa_nil))))))))))
theorem f__law_due (M : Md fa fn ex K mg) : FnS R.prog w K mg base 2 "_law_due" 1 [] F__law_due := (fb__law_due M).s (fun fd F => Md.bindN F fun _ _ _ _ _ _ us hl => match us, hl with | [_], _ => rfl)
def b__law_heard : SM := (seqS (setS 2 (cE .non)) (seqS (tryS (ht_SightError) 3 2 (retS (wrapL (lstO (consA (cE (.str [116, 111, 108, 100])) (consA (ifE (tstE (bin2 eqM (peekE 0) (cE (.int 0)))) (callE (callN 1 F_floor_drawing) [] (consA (varE 1) nilA)) (callE (callN 1 F_read_floor) [] (consA (varE 1) nilA))) nilA)))))) (seqS (setS 4 (wrapL (lstO (consA (un1 (isCM is_InvalidFloor.1 is_InvalidFloor.2) (peekE 2)) (consA (un1 (isCM is_InvalidText.1 is_InvalidText.2) (peekE 2)) (consA (un1 (isCM is_NotDrawn.1 is_NotDrawn.2) (peekE 2)) nilA)))))) (retS (ifE (tstE (bin2 eqM (methE "list" countM (peekE 4) (consA (cE (.bl true)) nilA)) (cE (.int 1)))) (wrapL (lstO (consA (bin2 ixDM (wrapL (lstO (consA (cE (.str [102, 108, 111, 111, 114])) (consA (cE (.str [116, 101, 120, 116])) (consA (cE (.str [110, 111, 110, 101])) nilA))))) (methE "list" indexM (peekE 4) (consA (cE (.bl true)) nilA))) (consA (un1 (xvalM xvals) (varE 2)) nilA)))) (wrapL (lstO (consA (cE (.str [111, 116, 104, 101, 114])) (consA (cE .non) nilA)))))))))
def F__law_heard : List MV → MH → Res MV := bodyF 5 2 b__law_heard
theorem fb__law_heard (M : Md fa fn ex K mg) : FnB R.prog w K mg base 7 "_law_heard" ["way", "thing"] 2 d__law_heard F__law_heard := by
  refine M.fbX (N := ["way", "thing", "caught", "error", "kinds"]) (ps := ["way", "thing"]) 26 (d := d__law_heard) rfl (M.glo 23) rfl ⟨rfl, rfl, rfl, by decide +kernel, rfl, by decide +kernel, by decide +kernel⟩ rfl fun X J Fr hp W tk => ?_
  have a_caught : NmA _ "caught" 2 := J.a (by decide +kernel)
  have a_error : NmA _ "error" 3 := J.a (by decide +kernel)
  have v_error : NmV _ "error" 3 := J.v (by decide +kernel)
  have g_SightError : NmG _ "SightError" := J.g (by decide +kernel)
  have v_caught : NmV _ "caught" 2 := J.v (by decide +kernel)
  have b_isinstance : NmB _ "isinstance" (.builtin "isinstance") := J.b (m_isinstance M) bt_isinstance (by decide +kernel)
  have g_NotDrawn : NmG _ "NotDrawn" := J.g (by decide +kernel)
  have g_InvalidText : NmG _ "InvalidText" := J.g (by decide +kernel)
  have g_InvalidFloor : NmG _ "InvalidFloor" := J.g (by decide +kernel)
  have a_kinds : NmA _ "kinds" 4 := J.a (by decide +kernel)
  have v_kinds : NmV _ "kinds" 4 := J.v (by decide +kernel)
  exact (ss_cons (a_caught.set se_non) (ss_cons (ss_try Fr J tk (by decide) a_error v_error (by decide +kernel) a_caught (by decide +kernel) g_SightError (mc_SightError M) (ht_ok_SightError M) (fun X' J hp W' tk' => by
  have v_way : NmV _ "way" 0 := J.v (by decide +kernel)
  have v_thing : NmV _ "thing" 1 := J.v (by decide +kernel)
  have g_floor_drawing : NmG _ "floor_drawing" := J.g (by decide +kernel)
  have g_read_floor : NmG _ "read_floor" := J.g (by decide +kernel)
  exact (ss_one (ss_ret (ofO (so_lst (sa_cons (se_str (by decide +kernel)) (sa_cons (se_if (st_cmp J.opEq vp_eq (nomark _) v_way.peek (toP se_int)) (J.call tk' (f_floor_drawing M) (by decide) g_floor_drawing (sa_cons v_thing.var sa_nil)) (J.call tk' (f_read_floor M) (by decide) g_read_floor (sa_cons v_thing.var sa_nil))) sa_nil)))))))) (ss_cons (a_kinds.set (ofO (so_lst (sa_cons (J.isC b_isinstance g_InvalidFloor (mc_InvalidFloor M) (isc_InvalidFloor M) v_caught.peek) (sa_cons (J.isC b_isinstance g_InvalidText (mc_InvalidText M) (isc_InvalidText M) v_caught.peek) (sa_cons (J.isC b_isinstance g_NotDrawn (mc_NotDrawn M) (isc_NotDrawn M) v_caught.peek) sa_nil)))))) (ss_one (ss_ret (se_if (st_cmp J.opEq vp_eq (nomark _) (toP (se_meth PySem.F.plainAttrs_list PySem.F.slot_list_count PySem.F.type_list_count mt_bcount vt_count v_kinds.peek (sa_cons se_bl sa_nil))) (toP se_int)) (ofO (so_lst (sa_cons (se_at J.units (fun _ _ => rfl) (fun _ _ => rfl) (toP (ofO (so_lst (sa_cons (se_str (by decide +kernel)) (sa_cons (se_str (by decide +kernel)) (sa_cons (se_str (by decide +kernel)) sa_nil)))))) (toP (se_meth PySem.F.plainAttrs_list PySem.F.slot_list_index PySem.F.type_list_index J.mtIndex vt_index v_kinds.peek (sa_cons se_bl sa_nil)))) (sa_cons (J.xv (xv_ok M) v_caught.var) sa_nil)))) (ofO (so_lst (sa_cons (se_str (by decide +kernel)) (sa_cons se_non sa_nil))))))))))
theorem f__law_heard (M : Md fa fn ex K mg) : FnS R.prog w K mg base 7 "_law_heard" 2 [] F__law_heard := (fb__law_heard M).s (fun fd F => Md.bindN F fun _ _ _ _ _ _ us hl => match us, hl with | [_, _], _ => rfl)
def b__law_right : SM := (seqS (setS 1 (callE (callN 1 F__law_grown_floor) [] (consA (varE 0) nilA))) (seqS (par2S 2 3 (.v (wrapL (callBO listM (consA (peekE 1) nilA)))) (.v (callE (callN 1 F__law_drawn) [] (consA (varE 1) nilA)))) (seqS (setS 4 (wrapL (lstO (consA (callE (callN 1 F_read_floor) [] (consA (varE 3) nilA)) (consA (callKE 1 0 1 F_read_floor [0] nilA (consA (varE 3) nilA)) nilA))))) (seqS (ifS (orT (notT (tstE (pureE 2 F__law_exact [] (consA (wrapL (lstO (consA (varE 3) (consA (varE 3) nilA)))) (consA (wrapL (lstO (consA (callE (callN 1 F_floor_drawing) [] (consA (varE 1) nilA)) (consA (callKE 1 0 1 F_floor_drawing [0] nilA (consA (varE 1) nilA)) nilA)))) nilA))))) (notT (tstE (pureE 2 F__law_exact [] (consA (wrapL (lstO (consA (varE 1) (consA (varE 1) nilA)))) (consA (peekE 4) nilA)))))) (retS (cE (.bl false))) nextS) (seqS (setS 5 (wrapL (strO (peekE 3) fun s => bindE (cE (.str [10])) fun x _ h => optR (splitM s h [x]) h))) (seqS (setS 6 (wrapL (lstO (consA (strE (cE (.str [10])) fun s => un1 (fun h x => joinM s h [x]) (un1 revVM (peekE 5))) (consA (strE (cE (.str [10])) fun s => un1 (fun h x => joinM s h [x]) (wrapL (compO [8] (itAny (varE 5)) (nameT 8) yesT (un1 revVM (peekE 8))))) (consA (strE (cE (.str [10])) fun s => un1 (fun h x => joinM s h [x]) (wrapL (compO [8] (itAny (varE 5)) (nameT 8) yesT (bin2 addM (peekE 8) (cE (.str [46])))))) (consA (strE (cE (.str [10])) fun s => un1 (fun h x => joinM s h [x]) (wrapL (compO [8] (itAny (varE 5)) (nameT 8) yesT (bin2 addM (cE (.str [46])) (peekE 8))))) (consA (bin2 addM (peekE 3) (cE (.str [10]))) (consA (bin2 addM (cE (.str [46])) (peekE 3)) nilA))))))))) (seqS (forS (nameT 7) (itAny (bin2 addM (peekE 6) (wrapL (compO [9] (itB rng1M (consA (cE (.int 9)) nilA)) (nameT 9) yesT (callE (callN 3 F__law_of_signs) [] (consA (varE 0) (consA (varE 3) (consA (wrapL (lstO (consA (cE (.str [35])) (consA (cE (.str [46])) (consA (cE (.str [10])) (consA (cE (.str [35, 35])) (consA (cE (.str [32])) (consA (cE (.str [120])) (consA (cE (.str [126])) nilA))))))))) nilA)))))))) (ifS (notT (tstE (pureE 2 F__law_exact [] (consA (callE (callN 1 F__law_due) [] (consA (varE 7) nilA)) (consA (callE (callN 2 F__law_heard) [] (consA (cE (.int 1)) (consA (varE 7) nilA))) nilA))))) (retS (cE (.bl false))) nextS)) (seqS (exprS (methE "list" (lstR appendM) (bin2 ixDM (peekE 4) (cE (.int 0))) (consA (cE (.str [109, 111, 114, 101])) nilA))) (retS (andE (bin2 eqM (peekE 1) (peekE 2)) (pureE 2 F__law_exact [] (consA (peekE 1) (consA (callE (callN 1 F_read_floor) [] (consA (varE 3) nilA)) nilA)))))))))))))
def F__law_right : List MV → MH → Res MV := bodyF 10 1 b__law_right
theorem fb__law_right (M : Md fa fn ex K mg) : FnB R.prog w K mg base 14 "_law_right" ["purse"] 1 d__law_right F__law_right := by
  refine M.fb (N := ["purse", "floor", "kept", "text", "told", "rows", "some", "late", "row", "spin"]) (ps := ["purse"]) 27 (d := d__law_right) rfl (M.glo 24) rfl ⟨rfl, rfl, rfl, by decide +kernel, rfl, by decide +kernel, by decide +kernel⟩ rfl fun X J hp W tk => ?_
  have v_purse : NmV _ "purse" 0 := J.v (by decide +kernel)
  have g__law_grown_floor : NmG _ "_law_grown_floor" := J.g (by decide +kernel)
  have a_floor : NmA _ "floor" 1 := J.a (by decide +kernel)
  have a_kept : NmA _ "kept" 2 := J.a (by decide +kernel)
  have a_text : NmA _ "text" 3 := J.a (by decide +kernel)
  have v_floor : NmV _ "floor" 1 := J.v (by decide +kernel)
  have b_list : NmB _ "list" (.type "list") := J.b (m_list M) bt_list (by decide +kernel)
  have g__law_drawn : NmG _ "_law_drawn" := J.g (by decide +kernel)
  have v_text : NmV _ "text" 3 := J.v (by decide +kernel)
  have g_read_floor : NmG _ "read_floor" := J.g (by decide +kernel)
  have a_told : NmA _ "told" 4 := J.a (by decide +kernel)
  have g_floor_drawing : NmG _ "floor_drawing" := J.g (by decide +kernel)
  have g__law_exact : NmG _ "_law_exact" := J.g (by decide +kernel)
  have v_told : NmV _ "told" 4 := J.v (by decide +kernel)
  have a_rows : NmA _ "rows" 5 := J.a (by decide +kernel)
  have v_rows : NmV _ "rows" 5 := J.v (by decide +kernel)
  have a_some : NmA _ "some" 6 := J.a (by decide +kernel)
  have v_some : NmV _ "some" 6 := J.v (by decide +kernel)
  have b_range : NmB _ "range" (.type "range") := J.b (m_range M) bt_range (by decide +kernel)
  have a_late : NmA _ "late" 7 := J.a (by decide +kernel)
  have v_late : NmV _ "late" 7 := J.v (by decide +kernel)
  have g__law_heard : NmG _ "_law_heard" := J.g (by decide +kernel)
  have g__law_due : NmG _ "_law_due" := J.g (by decide +kernel)
  have v_kept : NmV _ "kept" 2 := J.v (by decide +kernel)
  exact (ss_cons (a_floor.set (J.call tk (f__law_grown_floor M) (by decide) g__law_grown_floor (sa_cons v_purse.var sa_nil))) (ss_cons (J.asg2 (a := (.v (wrapL (callBO listM (consA (peekE 1) nilA))))) (b := (.v (callE (callN 1 F__law_drawn) [] (consA (varE 1) nilA)))) a_kept a_text (by decide) (ofO (so_callT call_list_of vo_list b_list (spa_cons v_floor.peek spa_nil))) (J.call tk (f__law_drawn M) (by decide) g__law_drawn (sa_cons v_floor.var sa_nil)) (by rfl)) (ss_cons (a_told.set (ofO (so_lst (sa_cons (J.call tk (f_read_floor M) (by decide) g_read_floor (sa_cons v_text.var sa_nil)) (sa_cons (J.callK0 tk (fk_read_floor_0_text M) (by decide) g_read_floor (sk_cons v_text.var sk_nil)) sa_nil))))) (ss_cons (ss_if (sw_or (st_not (st_val (J.pure tk (f__law_exact M) (by decide) g__law_exact (spa_cons (toP (ofO (so_lst (sa_cons v_text.var (sa_cons v_text.var sa_nil))))) (spa_cons (toP (ofO (so_lst (sa_cons (J.call tk (f_floor_drawing M) (by decide) g_floor_drawing (sa_cons v_floor.var sa_nil)) (sa_cons (J.callK0 tk (fk_floor_drawing_0_floor M) (by decide) g_floor_drawing (sk_cons v_floor.var sk_nil)) sa_nil))))) spa_nil))))) (sw_or1 (st_not (st_val (J.pure tk (f__law_exact M) (by decide) g__law_exact (spa_cons (toP (ofO (so_lst (sa_cons v_floor.var (sa_cons v_floor.var sa_nil))))) (spa_cons v_told.peek spa_nil))))))).pt (ss_one (ss_ret se_bl)) ss_nil) (ss_cons (a_rows.set (ofO (so_split v_text.peek (toP (se_str (by decide +kernel)))))) (ss_cons (a_some.set (ofO (so_lst (sa_cons (se_join (toP (se_str (by decide +kernel))) (toP (se_rev01 v_rows.peek))) (sa_cons (se_join (toP (se_str (by decide +kernel))) (toP (ofO (J.compJ (vs := [("row", 8)]) (toIP (si_any v_rows.var)) (by decide +kernel) (fun s H C cl fp J => by
  have a_row : NmA _ "row" 8 := J.a (by decide +kernel)
  exact a_row.tg) (fun s H C cl fp J => sts_nil) (fun s H C cl fp J => by
  have v_row : NmV _ "row" 8 := J.v (by decide +kernel)
  exact (se_rev01 v_row.peek)) (by decide))))) (sa_cons (se_join (toP (se_str (by decide +kernel))) (toP (ofO (J.compJ (vs := [("row", 8)]) (toIP (si_any v_rows.var)) (by decide +kernel) (fun s H C cl fp J => by
  have a_row : NmA _ "row" 8 := J.a (by decide +kernel)
  exact a_row.tg) (fun s H C cl fp J => sts_nil) (fun s H C cl fp J => by
  have v_row : NmV _ "row" 8 := J.v (by decide +kernel)
  exact (se_bin op_addM vp_add v_row.peek (toP (se_str (by decide +kernel))))) (by decide))))) (sa_cons (se_join (toP (se_str (by decide +kernel))) (toP (ofO (J.compJ (vs := [("row", 8)]) (toIP (si_any v_rows.var)) (by decide +kernel) (fun s H C cl fp J => by
  have a_row : NmA _ "row" 8 := J.a (by decide +kernel)
  exact a_row.tg) (fun s H C cl fp J => sts_nil) (fun s H C cl fp J => by
  have v_row : NmV _ "row" 8 := J.v (by decide +kernel)
  exact (se_bin op_addM vp_add (toP (se_str (by decide +kernel))) v_row.peek)) (by decide))))) (sa_cons (se_bin op_addM vp_add v_text.peek (toP (se_str (by decide +kernel)))) (sa_cons (se_bin op_addM vp_add (toP (se_str (by decide +kernel))) v_text.peek) sa_nil))))))))) (ss_cons (ss_for hp J.calm (si_any (se_bin op_addM vp_add v_some.peek (toP (ofO (J.compJ (vs := [("spin", 9)]) (toIP (si_rng1 b_range (sa_cons se_int sa_nil))) (by decide +kernel) (fun s H C cl fp J => by
  have a_spin : NmA _ "spin" 9 := J.a (by decide +kernel)
  exact a_spin.tg) (fun s H C cl fp J => sts_nil) (fun s H C cl fp J => by
  have v_text : NmV _ "text" 3 := J.v (by decide +kernel)
  have v_purse : NmV _ "purse" 0 := J.v (by decide +kernel)
  have g__law_of_signs : NmG _ "_law_of_signs" := J.g (by decide +kernel)
  exact (J.call takes_no (f__law_of_signs M) (by decide) g__law_of_signs (sa_cons v_purse.var (sa_cons v_text.var (sa_cons (ofO (so_lst (sa_cons (se_str (by decide +kernel)) (sa_cons (se_str (by decide +kernel)) (sa_cons (se_str (by decide +kernel)) (sa_cons (se_str (by decide +kernel)) (sa_cons (se_str (by decide +kernel)) (sa_cons (se_str (by decide +kernel)) (sa_cons (se_str (by decide +kernel)) sa_nil))))))))) sa_nil))))) (by decide)))))) a_late.tg (ss_one (ss_if (st_not (st_val (J.pure tk (f__law_exact M) (by decide) g__law_exact (spa_cons (toP (J.call tk (f__law_due M) (by decide) g__law_due (sa_cons v_late.var sa_nil))) (spa_cons (toP (J.call tk (f__law_heard M) (by decide) g__law_heard (sa_cons se_int (sa_cons v_late.var sa_nil)))) spa_nil))))) (ss_one (ss_ret se_bl)) ss_nil))) (ss_cons (ss_expr (se_meth PySem.F.plainAttrs_list PySem.F.slot_list_append PySem.F.type_list_append mt_append (vt_lst vm_append) (toP (se_at J.units (fun _ _ => rfl) (fun _ _ => rfl) v_told.peek (toP se_int))) (sa_cons (se_str (by decide +kernel)) sa_nil))) (ss_one (ss_ret (se_and (se_cmp J.opEq vp_eq (nomark _) v_floor.peek v_kept.peek) (se_one (J.pure tk (f__law_exact M) (by decide) g__law_exact (spa_cons v_floor.peek (spa_cons (toP (J.call tk (f_read_floor M) (by decide) g_read_floor (sa_cons v_text.var sa_nil))) spa_nil)))))))))))))))
theorem f__law_right (M : Md fa fn ex K mg) : FnS R.prog w K mg base 14 "_law_right" 1 [] F__law_right := (fb__law_right M).s (fun fd F => Md.bindN F fun _ _ _ _ _ _ us hl => match us, hl with | [_], _ => rfl)
def b_law : SM := (seqS (forS (nameT 1) (itAny (callE (callN 2 F__law_purses) [] (consA (varE 0) (consA (cE (.int 3)) nilA)))) (forS (nameT 2) (itB rng1M (consA (cE (.int 3)) nilA)) (ifS (notT (tstE (callE (callN 1 F__law_right) [] (consA (varE 1) nilA)))) (retS (cE (.bl false))) nextS))) (seqS (forS (nameT 3) (itAny (wrapL (lstO (consA (cE (.str [])) (consA (cE (.str [10])) (consA (cE (.str [35])) (consA (cE (.str [46])) (consA (cE (.str [46, 35])) (consA (cE (.str [35, 46])) (consA (cE (.str [46, 35, 10, 35, 35])) (consA (cE (.str [35, 46, 10, 46, 35])) (consA (cE (.str [35, 35, 10, 46, 46])) (consA (cE (.str [46, 46, 10, 35, 35])) (consA (cE (.str [35, 10, 35])) (consA (cE (.str [35, 32])) (consA (cE (.str [35, 120])) (consA (cE (.str [126])) (consA (cE (.str [35, 10])) (consA (cE (.str [10, 35])) (consA (cE (.str [46, 46, 35, 10, 35, 35, 35])) (consA (cE (.str [35, 46, 35])) nilA))))))))))))))))))))) (ifS (notT (tstE (pureE 2 F__law_exact [] (consA (callE (callN 1 F__law_due) [] (consA (varE 3) nilA)) (consA (callE (callN 2 F__law_heard) [] (consA (cE (.int 1)) (consA (varE 3) nilA))) nilA))))) (retS (cE (.bl false))) nextS)) (seqS (setS 4 (wrapL (lstO (consA (cE .non) (consA (tupE nilA) (consA (cE (.dic [])) (consA (cE (.str [35])) (consA (cE (.int 5)) (consA (newE (lstO nilA)) (consA (newE (lstO (consA (cE .non) nilA))) (consA (newE (lstO (consA (tupE (consA (cE (.int 0)) nilA)) nilA))) (consA (newE (lstO (consA (tupE (consA (cE (.int 0)) (consA (cE (.int 0)) (consA (cE (.int 0)) nilA)))) nilA))) (consA (newE (lstO (consA (newE (lstO (consA (cE (.int 0)) (consA (cE (.int 0)) nilA)))) nilA))) (consA (newE (lstO (consA (tupE (consA (bin2 subM (cE (.int 0)) (cE (.int 1))) (consA (cE (.int 0)) nilA))) nilA))) (consA (newE (lstO (consA (tupE (consA (cE (.bl true)) (consA (cE (.int 0)) nilA))) nilA))) (consA (newE (lstO (consA (tupE (consA (cE (.int 0)) (consA (cE (.str [48])) nilA))) nilA))) (consA (newE (lstO (consA (tupE (consA (cE (.int 0)) (consA (cE (.int 0)) nilA))) (consA (tupE (consA (cE (.int 1)) (consA (cE (.int 1)) nilA))) nilA)))) (consA (newE (lstO (consA (tupE (consA (cE (.int 1)) (consA (cE (.int 0)) nilA))) (consA (tupE (consA (cE (.int 0)) (consA (cE (.int 0)) nilA))) nilA)))) (consA (newE (lstO (consA (tupE (consA (cE (.int 0)) (consA (cE (.int 0)) nilA))) (consA (tupE (consA (cE (.int 0)) (consA (cE (.int 0)) nilA))) nilA)))) (consA (tupE (consA (tupE (consA (cE (.int 0)) (consA (cE (.int 0)) nilA))) nilA)) (consA (newE (lstO (consA (tupE (consA (cE (.int 0)) (consA (cE (.int 0)) nilA))) (consA (tupE (consA (cE (.int 0)) (consA (cE (.int 2)) nilA))) nilA)))) nilA))))))))))))))))))))) (seqS (forS (nameT 5) (itAny (bin2 addM (peekE 4) (wrapL (lstO (consA (newE (lstO (consA (tupE (consA (cE (.int 0)) (consA (cE (.int 0)) nilA))) (consA (cE .non) nilA)))) (consA (newE (lstO (consA (tupE (consA (cE (.int 0)) (consA (cE .non) nilA))) nilA))) nilA)))))) (fzS 5 (seqS (setS 6 (callE (callN 2 F__law_heard) [] (consA (cE (.int 0)) (consA (varE 5) nilA)))) (seqS (ifS (tstE (un1 (isiM .list) (peekE 5))) (exprS (methE "list" (lstR appendM) (peekE 5) (consA (cE (.str [109, 111, 114, 101])) nilA))) nextS) (ifS (notT (tstE (pureE 2 F__law_exact [] (consA (wrapL (lstO (consA (cE (.str [102, 108, 111, 111, 114])) (consA (varE 5) nilA)))) (consA (peekE 6) nilA))))) (retS (cE (.bl false))) nextS))))) (seqS (forS (nameT 5) (itAny (wrapL (lstO (consA (cE .non) (consA (cE (.int 5)) (consA (wrapL (lstO nilA)) (consA (tupE nilA) (consA (cE (.dic [])) (consA (cE (.bl true)) (consA (cE (.str [35, 9])) (consA (wrapL (lstO (consA (cE (.str [35])) nilA))) (consA (cE (.str [35, 10, 9])) nilA)))))))))))) (fzS 5 (ifS (notT (tstE (pureE 2 F__law_exact [] (consA (wrapL (lstO (consA (cE (.str [116, 101, 120, 116])) (consA (varE 5) nilA)))) (consA (callE (callN 2 F__law_heard) [] (consA (cE (.int 1)) (consA (varE 5) nilA))) nilA))))) (retS (cE (.bl false))) nextS))) (seqS (setS 7 (callE (callN 2 F__law_heard) [] (consA (cE (.int 0)) (consA (wrapL (compO [8] (itB rng1M (consA (cE (.int 90)) nilA)) (nameT 8) yesT (tupE (consA (varE 8) (consA (cE (.int 0)) nilA))))) nilA)))) (retS (andE (bin2 eqM (bin2 ixDM (peekE 7) (cE (.int 0))) (cE (.str [116, 111, 108, 100]))) (andE (bin2 eqM (bin2 ixDM (callE (callN 2 F__law_heard) [] (consA (cE (.int 1)) (consA (bin2 ixDM (peekE 7) (cE (.int 1))) nilA))) (cE (.int 0))) (cE (.str [116, 111, 108, 100]))) (pureE 2 F__law_exact [] (consA (wrapL (lstO (consA (cE (.str [35, 46, 10, 35, 35])) (consA (wrapL (lstO (consA (tupE (consA (cE (.int 0)) (consA (cE (.int 0)) nilA))) (consA (tupE (consA (cE (.int 1)) (consA (cE (.int 0)) nilA))) (consA (tupE (consA (cE (.int 1)) (consA (cE (.int 1)) nilA))) nilA))))) nilA)))) (consA (wrapL (lstO (consA (callE (callN 1 F_floor_drawing) [] (consA (wrapL (lstO (consA (tupE (consA (cE (.int 0)) (consA (cE (.int 0)) nilA))) (consA (tupE (consA (cE (.int 0)) (consA (cE (.int 1)) nilA))) (consA (tupE (consA (cE (.int 1)) (consA (cE (.int 0)) nilA))) nilA))))) nilA)) (consA (callE (callN 1 F_read_floor) [] (consA (cE (.str [46, 35, 10, 35, 35])) nilA)) nilA)))) nilA))))))))))))
def F_law : List MV → MH → Res MV := bodyF 9 1 b_law
theorem fb_law (M : Md fa fn ex K mg) : FnB R.prog w K mg base 15 "law" ["script"] 1 d_law F_law := by
  refine M.fb (N := ["script", "purse", "spin", "text", "odds", "odd", "told", "far", "x"]) (ps := ["script"]) 28 (d := d_law) rfl (M.glo 25) rfl ⟨rfl, rfl, rfl, by decide +kernel, rfl, by decide +kernel, by decide +kernel⟩ rfl fun X J hp W tk => ?_
  have v_script : NmV _ "script" 0 := J.v (by decide +kernel)
  have g__law_purses : NmG _ "_law_purses" := J.g (by decide +kernel)
  have a_purse : NmA _ "purse" 1 := J.a (by decide +kernel)
  have b_range : NmB _ "range" (.type "range") := J.b (m_range M) bt_range (by decide +kernel)
  have a_spin : NmA _ "spin" 2 := J.a (by decide +kernel)
  have v_purse : NmV _ "purse" 1 := J.v (by decide +kernel)
  have g__law_right : NmG _ "_law_right" := J.g (by decide +kernel)
  have a_text : NmA _ "text" 3 := J.a (by decide +kernel)
  have v_text : NmV _ "text" 3 := J.v (by decide +kernel)
  have g__law_heard : NmG _ "_law_heard" := J.g (by decide +kernel)
  have g__law_due : NmG _ "_law_due" := J.g (by decide +kernel)
  have g__law_exact : NmG _ "_law_exact" := J.g (by decide +kernel)
  have a_odds : NmA _ "odds" 4 := J.a (by decide +kernel)
  have v_odds : NmV _ "odds" 4 := J.v (by decide +kernel)
  have a_odd : NmA _ "odd" 5 := J.a (by decide +kernel)
  have v_odd : NmV _ "odd" 5 := J.v (by decide +kernel)
  have a_told : NmA _ "told" 6 := J.a (by decide +kernel)
  have b_isinstance : NmB _ "isinstance" (.builtin "isinstance") := J.b (m_isinstance M) bt_isinstance (by decide +kernel)
  have b_list : NmB _ "list" (.type "list") := J.b (m_list M) bt_list (by decide +kernel)
  have v_told : NmV _ "told" 6 := J.v (by decide +kernel)
  have a_far : NmA _ "far" 7 := J.a (by decide +kernel)
  have v_far : NmV _ "far" 7 := J.v (by decide +kernel)
  have g_read_floor : NmG _ "read_floor" := J.g (by decide +kernel)
  have g_floor_drawing : NmG _ "floor_drawing" := J.g (by decide +kernel)
  exact (ss_cons (ss_for hp J.calm (si_any (J.call tk (f__law_purses M) (by decide) g__law_purses (sa_cons v_script.var (sa_cons se_int sa_nil)))) a_purse.tg (ss_one (ss_for hp J.calm (si_rng1 b_range (sa_cons se_int sa_nil)) a_spin.tg (ss_one (ss_if (st_not (st_val (J.call tk (f__law_right M) (by decide) g__law_right (sa_cons v_purse.var sa_nil)))) (ss_one (ss_ret se_bl)) ss_nil))))) (ss_cons (ss_for hp J.calm (si_any (ofO (so_lst (sa_cons (se_str (by decide +kernel)) (sa_cons (se_str (by decide +kernel)) (sa_cons (se_str (by decide +kernel)) (sa_cons (se_str (by decide +kernel)) (sa_cons (se_str (by decide +kernel)) (sa_cons (se_str (by decide +kernel)) (sa_cons (se_str (by decide +kernel)) (sa_cons (se_str (by decide +kernel)) (sa_cons (se_str (by decide +kernel)) (sa_cons (se_str (by decide +kernel)) (sa_cons (se_str (by decide +kernel)) (sa_cons (se_str (by decide +kernel)) (sa_cons (se_str (by decide +kernel)) (sa_cons (se_str (by decide +kernel)) (sa_cons (se_str (by decide +kernel)) (sa_cons (se_str (by decide +kernel)) (sa_cons (se_str (by decide +kernel)) (sa_cons (se_str (by decide +kernel)) sa_nil))))))))))))))))))))) a_text.tg (ss_one (ss_if (st_not (st_val (J.pure tk (f__law_exact M) (by decide) g__law_exact (spa_cons (toP (J.call tk (f__law_due M) (by decide) g__law_due (sa_cons v_text.var sa_nil))) (spa_cons (toP (J.call tk (f__law_heard M) (by decide) g__law_heard (sa_cons se_int (sa_cons v_text.var sa_nil)))) spa_nil))))) (ss_one (ss_ret se_bl)) ss_nil))) (ss_cons (a_odds.set (ofO (so_lst (sa_cons se_non (sa_cons (se_tup sa_nil) (sa_cons se_dnil (sa_cons (se_str (by decide +kernel)) (sa_cons se_int (sa_cons (se_new (so_lst sa_nil)) (sa_cons (se_new (so_lst (sa_cons se_non sa_nil))) (sa_cons (se_new (so_lst (sa_cons (se_tup (sa_cons se_int sa_nil)) sa_nil))) (sa_cons (se_new (so_lst (sa_cons (se_tup (sa_cons se_int (sa_cons se_int (sa_cons se_int sa_nil)))) sa_nil))) (sa_cons (se_new (so_lst (sa_cons (se_new (so_lst (sa_cons se_int (sa_cons se_int sa_nil)))) sa_nil))) (sa_cons (se_new (so_lst (sa_cons (se_tup (sa_cons (se_bin op_subM vp_sub (toP se_int) (toP se_int)) (sa_cons se_int sa_nil))) sa_nil))) (sa_cons (se_new (so_lst (sa_cons (se_tup (sa_cons se_bl (sa_cons se_int sa_nil))) sa_nil))) (sa_cons (se_new (so_lst (sa_cons (se_tup (sa_cons se_int (sa_cons (se_str (by decide +kernel)) sa_nil))) sa_nil))) (sa_cons (se_new (so_lst (sa_cons (se_tup (sa_cons se_int (sa_cons se_int sa_nil))) (sa_cons (se_tup (sa_cons se_int (sa_cons se_int sa_nil))) sa_nil)))) (sa_cons (se_new (so_lst (sa_cons (se_tup (sa_cons se_int (sa_cons se_int sa_nil))) (sa_cons (se_tup (sa_cons se_int (sa_cons se_int sa_nil))) sa_nil)))) (sa_cons (se_new (so_lst (sa_cons (se_tup (sa_cons se_int (sa_cons se_int sa_nil))) (sa_cons (se_tup (sa_cons se_int (sa_cons se_int sa_nil))) sa_nil)))) (sa_cons (se_tup (sa_cons (se_tup (sa_cons se_int (sa_cons se_int sa_nil))) sa_nil)) (sa_cons (se_new (so_lst (sa_cons (se_tup (sa_cons se_int (sa_cons se_int sa_nil))) (sa_cons (se_tup (sa_cons se_int (sa_cons se_int sa_nil))) sa_nil)))) sa_nil))))))))))))))))))))) (ss_cons (ss_for hp J.calm (si_any (se_bin op_addM vp_add v_odds.peek (toP (ofO (so_lst (sa_cons (se_new (so_lst (sa_cons (se_tup (sa_cons se_int (sa_cons se_int sa_nil))) (sa_cons se_non sa_nil)))) (sa_cons (se_new (so_lst (sa_cons (se_tup (sa_cons se_int (sa_cons se_non sa_nil))) sa_nil))) sa_nil))))))) a_odd.tg (ss_fz 5 (ss_cons (a_told.set (J.call tk (f__law_heard M) (by decide) g__law_heard (sa_cons se_int (sa_cons v_odd.var sa_nil)))) (ss_cons (ss_if (st_val (se_isi (b := .list) b_isinstance b_list (by decide) v_odd.peek)) (ss_one (ss_expr (se_meth PySem.F.plainAttrs_list PySem.F.slot_list_append PySem.F.type_list_append mt_append (vt_lst vm_append) v_odd.peek (sa_cons (se_str (by decide +kernel)) sa_nil)))) ss_nil) (ss_one (ss_if (st_not (st_val (J.pure tk (f__law_exact M) (by decide) g__law_exact (spa_cons (toP (ofO (so_lst (sa_cons (se_str (by decide +kernel)) (sa_cons v_odd.var sa_nil))))) (spa_cons v_told.peek spa_nil))))) (ss_one (ss_ret se_bl)) ss_nil)))))) (ss_cons (ss_for hp J.calm (si_any (ofO (so_lst (sa_cons se_non (sa_cons se_int (sa_cons (ofO (so_lst sa_nil)) (sa_cons (se_tup sa_nil) (sa_cons se_dnil (sa_cons se_bl (sa_cons (se_str (by decide +kernel)) (sa_cons (ofO (so_lst (sa_cons (se_str (by decide +kernel)) sa_nil))) (sa_cons (se_str (by decide +kernel)) sa_nil)))))))))))) a_odd.tg (ss_fz 5 (ss_one (ss_if (st_not (st_val (J.pure tk (f__law_exact M) (by decide) g__law_exact (spa_cons (toP (ofO (so_lst (sa_cons (se_str (by decide +kernel)) (sa_cons v_odd.var sa_nil))))) (spa_cons (toP (J.call tk (f__law_heard M) (by decide) g__law_heard (sa_cons se_int (sa_cons v_odd.var sa_nil)))) spa_nil))))) (ss_one (ss_ret se_bl)) ss_nil)))) (ss_cons (a_far.set (J.call tk (f__law_heard M) (by decide) g__law_heard (sa_cons se_int (sa_cons (ofO (J.compJ (vs := [("x", 8)]) (toIP (si_rng1 b_range (sa_cons se_int sa_nil))) (by decide +kernel) (fun s H C cl fp J => by
  have a_x : NmA _ "x" 8 := J.a (by decide +kernel)
  exact a_x.tg) (fun s H C cl fp J => sts_nil) (fun s H C cl fp J => by
  have v_x : NmV _ "x" 8 := J.v (by decide +kernel)
  exact (se_tup (sa_cons v_x.var (sa_cons se_int sa_nil)))) (by decide))) sa_nil)))) (ss_one (ss_ret (se_and (se_cmp J.opEq vp_eq (nomark _) (toP (se_at J.units (fun _ _ => rfl) (fun _ _ => rfl) v_far.peek (toP se_int))) (toP (se_str (by decide +kernel)))) (se_and (se_cmp J.opEq vp_eq (nomark _) (toP (se_at J.units (fun _ _ => rfl) (fun _ _ => rfl) (toP (J.call tk (f__law_heard M) (by decide) g__law_heard (sa_cons se_int (sa_cons (se_at J.units (fun _ _ => rfl) (fun _ _ => rfl) v_far.peek (toP se_int)) sa_nil)))) (toP se_int))) (toP (se_str (by decide +kernel)))) (se_one (J.pure tk (f__law_exact M) (by decide) g__law_exact (spa_cons (toP (ofO (so_lst (sa_cons (se_str (by decide +kernel)) (sa_cons (ofO (so_lst (sa_cons (se_tup (sa_cons se_int (sa_cons se_int sa_nil))) (sa_cons (se_tup (sa_cons se_int (sa_cons se_int sa_nil))) (sa_cons (se_tup (sa_cons se_int (sa_cons se_int sa_nil))) sa_nil))))) sa_nil))))) (spa_cons (toP (ofO (so_lst (sa_cons (J.call tk (f_floor_drawing M) (by decide) g_floor_drawing (sa_cons (ofO (so_lst (sa_cons (se_tup (sa_cons se_int (sa_cons se_int sa_nil))) (sa_cons (se_tup (sa_cons se_int (sa_cons se_int sa_nil))) (sa_cons (se_tup (sa_cons se_int (sa_cons se_int sa_nil))) sa_nil))))) sa_nil)) (sa_cons (J.call tk (f_read_floor M) (by decide) g_read_floor (sa_cons (se_str (by decide +kernel)) sa_nil)) sa_nil))))) spa_nil))))))))))))))
theorem f_law (M : Md fa fn ex K mg) : FnS R.prog w K mg base 15 "law" 1 [] F_law := (fb_law M).s (fun fd F => Md.bindN F fun _ _ _ _ _ _ us hl => match us, hl with | [_], _ => rfl)
end
end K83
end P_G83a
section P_P1
set_option Elab.async false
set_option linter.all false
set_option maxRecDepth 100000
set_option maxHeartbeats 4000000
set_option exponentiation.threshold 10000
/-! P1: how mirror functions are evaluated -/
namespace Mi
open PySem PySem.Spec PyProof.Rows L2

section
variable {α β : Type}
@[simp] theorem bindR_ok (a : α) (h : MH) (k : α → MH → Res β) : bindR (.ok a h) k = k a h := (rfl)
@[simp] theorem bindR_no (k : α → MH → Res β) : bindR (.no : Res α) k = .no := (rfl)
@[simp] theorem bindR_ex (c : Str) (v : MV) (h : MH) (k : α → MH → Res β) : bindR (.ex c v h : Res α) k = .ex c v h := (rfl)
@[simp] theorem optR_some (a : α) (h : MH) : optR (some a) h = .ok a h := (rfl)
@[simp] theorem optR_none (h : MH) : optR (none : Option α) h = .no := (rfl)
@[simp] theorem bindE_at (f : Sl → MH → Res α) (k : α → Sl → MH → Res β) (σ : Sl) (h : MH) : bindE f k σ h = bindR (f σ h) fun m h' => k m σ h' := (rfl)
/-- behind an expression of a statement -/
def bindFl (r : Res α) (σ : Sl) (k : α → MH → Fl) : Fl := match r with
  | .ok m h => k m h
  | .ex c v h => .ex c v σ h
  | .no => .no
@[simp] theorem bindFl_ok (m : α) (h : MH) (σ : Sl) (k : α → MH → Fl) : bindFl (.ok m h) σ k = k m h := (rfl)
@[simp] theorem bindFl_ex (c : Str) (v : MV) (h : MH) (σ : Sl) (k : α → MH → Fl) : bindFl (.ex c v h : Res α) σ k = .ex c v σ h := (rfl)
@[simp] theorem bindFl_no (σ : Sl) (k : α → MH → Fl) : bindFl (.no : Res α) σ k = .no := (rfl)
theorem bindS_at (f : Sl → MH → Res α) (k : α → Sl → MH → Fl) (σ : Sl) (h : MH) : bindS f k σ h = bindFl (f σ h) σ fun m h' => k m σ h' := by
  unfold bindS bindFl
  cases f σ h <;> rfl
/-- behind a statement -/
def seqFl (r : Fl) (k : Sl → MH → Fl) : Fl := match r with
  | .nx σ h => k σ h
  | r => r
@[simp] theorem seqFl_nx (σ : Sl) (h : MH) (k : Sl → MH → Fl) : seqFl (.nx σ h) k = k σ h := (rfl)
@[simp] theorem seqFl_rt (m : MV) (h : MH) (k : Sl → MH → Fl) : seqFl (.rt m h) k = .rt m h := (rfl)
@[simp] theorem seqFl_no (k : Sl → MH → Fl) : seqFl .no k = .no := (rfl)
/-- behind a def's body -/
def endFl (r : Fl) : Res MV := match r with
  | .rt m h => .ok m h
  | .nx _ h => .ok .non h
  | .ex c m _ h => .ex c m h
  | _ => .no
@[simp] theorem endFl_rt (m : MV) (h : MH) : endFl (.rt m h) = .ok m h := (rfl)
@[simp] theorem endFl_nx (σ : Sl) (h : MH) : endFl (.nx σ h) = .ok .non h := (rfl)
@[simp] theorem endFl_ex (c : Str) (m : MV) (σ : Sl) (h : MH) : endFl (.ex c m σ h) = .ex c m h := (rfl)
@[simp] theorem endFl_no : endFl .no = .no := (rfl)
end
section
variable (σ : Sl) (h : MH) (i j : Nat) (m : MV) (f fa fb : EM) (fs : OM) (op : MH → MV → MV → Option MV) (op1 : MH → MV → Option MV) (a b : SM)
@[simp] theorem varE_at : varE i σ h = match σ[i]? with
  | some (.val m) => .ok m h
  | _ => .no := (rfl)
@[simp] theorem peekE_at : peekE i σ h = match σ[i]? with
  | some (.val m) => .ok m h
  | some (.own xs) => .ok (.lst xs) h
  | _ => .no := (rfl)
@[simp] theorem cE_at : cE m σ h = .ok m h := (rfl)
@[simp] theorem bin2_at : bin2 op fa fb σ h = bindR (fa σ h) fun x h1 => bindR (fb σ h1) fun y h2 => optR (op h2 x y) h2 := (rfl)
@[simp] theorem un1_at : un1 op1 fa σ h = bindR (fa σ h) fun x h1 => optR (op1 h1 x) h1 := (rfl)
@[simp] theorem nilA_at : nilA σ h = .ok [] h := (rfl)
@[simp] theorem consA_at : consA f fs σ h = bindR (f σ h) fun x h1 => bindR (fs σ h1) fun xs h2 => .ok (x :: xs) h2 := (rfl)
@[simp] theorem tupE_at : tupE fs σ h = bindR (fs σ h) fun xs h1 => if xs.length ≤ zl then .ok (.tup xs) h1 else .no := (rfl)
@[simp] theorem lstO_at : lstO fs σ h = bindR (fs σ h) fun xs h1 => if xs.length ≤ zl then .ok xs h1 else .no := (rfl)
@[simp] theorem wrapL_at : wrapL fs σ h = bindR (fs σ h) fun xs h' => .ok (.lst xs) h' := (rfl)
@[simp] theorem callB_at (o : MH → List MV → Option MV) : callB o fs σ h = bindR (fs σ h) fun xs h1 => optR (o h1 xs) h1 := (rfl)
@[simp] theorem callBO_at (o : MH → List MV → Option (List MV)) : callBO o fs σ h = bindR (fs σ h) fun xs h1 => optR (o h1 xs) h1 := (rfl)
@[simp] theorem callE_at (F : List MV → MH → Res MV) (n : Nat) (dms : List MV) : callE (callN n F) dms fs σ h = bindR (fs σ h) fun ms h1 => if (ms ++ dms).length = n then F (ms ++ dms) h1 else .no := (rfl)
@[simp] theorem retS_at : retS f σ h = bindFl (f σ h) σ fun m h' => .rt m h' := (bindS_at ..)
@[simp] theorem setS_at : setS i f σ h = bindFl (f σ h) σ fun m h' => .nx (σ.set i (.val m)) h' := (bindS_at ..)
@[simp] theorem ownS_at : ownS i fs σ h = bindFl (fs σ h) σ fun m h' => .nx (σ.set i (.own m)) h' := (bindS_at ..)
@[simp] theorem asgS_at (t : Tgt) : asgS t f σ h = bindFl (f σ h) σ fun m h' => match t m σ with
  | some σ' => .nx σ' h'
  | none => .no := (bindS_at ..)
@[simp] theorem exprS_at : exprS f σ h = bindFl (f σ h) σ fun m h' => .nx σ h' := (bindS_at ..)
@[simp] theorem seqS_at : seqS a b σ h = seqFl (a σ h) fun σ' h' => b σ' h' := by
  unfold seqS seqFl
  cases a σ h <;> rfl
@[simp] theorem nextS_at : nextS σ h = .nx σ h := (rfl)
@[simp] theorem retN_at : retN σ h = .rt .non h := (rfl)
@[simp] theorem ifS_at (c : TM) : ifS c a b σ h = bindFl (c σ h) σ fun x h' => if x = true then a σ h' else b σ h' := by
  unfold ifS
  rw [bindS_at]
  congr 1
  funext x h'
  cases x <;> rfl
@[simp] theorem tstE_at : tstE f σ h = bindR (f σ h) fun x h' => match x with
  | .bl b => .ok b h'
  | _ => .no := (rfl)
@[simp] theorem andT_at (c d : TM) : andT c d σ h = bindR (c σ h) fun x h' => if x = true then d σ h' else .ok false h' := by
  show bindR (c σ h) _ = _
  congr 1
  funext x h'
  cases x <;> rfl
@[simp] theorem orT_at (c d : TM) : orT c d σ h = bindR (c σ h) fun x h' => if x = true then .ok true h' else d σ h' := by
  show bindR (c σ h) _ = _
  congr 1
  funext x h'
  cases x <;> rfl
@[simp] theorem notT_at (c : TM) : notT c σ h = bindR (c σ h) fun x h' => .ok (!x) h' := (rfl)
@[simp] theorem andE_at : andE fa fb σ h = bindR (fa σ h) fun x h' => match x with
  | .bl b => if b = true then fb σ h' else .ok (.bl false) h'
  | _ => .no := by
    show bindR (fa σ h) _ = _
    congr 1
    funext x h'
    cases x with
    | bl b => cases b <;> rfl
    | _ => rfl
@[simp] theorem orE_at : orE fa fb σ h = bindR (fa σ h) fun x h' => match x with
  | .bl b => if b = true then .ok (.bl true) h' else fb σ h'
  | _ => .no := by
    show bindR (fa σ h) _ = _
    congr 1
    funext x h'
    cases x with
    | bl b => cases b <;> rfl
    | _ => rfl
@[simp] theorem ifE_at (c : TM) : ifE c fa fb σ h = bindR (c σ h) fun x h' => if x = true then fa σ h' else fb σ h' := by
  show bindR (c σ h) _ = _
  congr 1
  funext x h'
  cases x <;> rfl
theorem bodyF_at (N n : Nat) (b : SM) (ms : List MV) : bodyF N n b ms h = endFl (b (ms.map .val ++ List.replicate (N - n) .un) h) := by
  unfold bodyF endFl
  cases b (ms.map .val ++ List.replicate (N - n) .un) h <;> rfl
@[simp] theorem slV_at (fl fh : PM) : slV f fl fh σ h = bindR (f σ h) fun x h1 => bindR (fl σ h1) fun lo h2 => bindR (fh σ h2) fun hi h3 => optR (slM lo hi h3 x) h3 := (rfl)
@[simp] theorem slO_at (fl fh : PM) : slO f fl fh σ h = bindR (f σ h) fun x h1 => bindR (fl σ h1) fun lo h2 => bindR (fh σ h2) fun hi h3 => optR ((seqM h3 x).map fun xs => cutL xs lo hi) h3 := (rfl)
@[simp] theorem noP_at : noP σ h = .ok none h := (rfl)
@[simp] theorem prtP_at : prtP f σ h = bindR (f σ h) fun x h' => match x with
  | .int i => .ok (some i) h'
  | _ => .no := (rfl)
@[simp] theorem itAny_at : itAny f σ h = bindR (f σ h) fun m h' => itemsM m h' := (rfl)
@[simp] theorem itB_at (o : List MV → Option (List MV)) : itB o fs σ h = bindR (fs σ h) fun xs h' => optR (o xs) h' := (rfl)
end

/-! ### sizes -/
/-- a number of at most n bits -/
def Sz (n : Nat) (i : Int) : Prop := i.natAbs < 2 ^ n
theorem Sz.up {m n : Nat} {i : Int} (h : Sz m i) (l : m ≤ n) : Sz n i := Nat.lt_of_lt_of_le h (Nat.pow_le_pow_right (by decide) l)
theorem Sz.mul {m n : Nat} {i j : Int} (h : Sz m i) (k : Sz n j) : Sz (m + n) (i * j) := by
  unfold Sz at *
  rw [Int.natAbs_mul, Nat.pow_add]
  exact Nat.mul_lt_mul'' h k
theorem Sz.add {m n : Nat} {i j : Int} (h : Sz m i) (k : Sz n j) : Sz (max m n + 1) (i + j) := by
  have h := h.up (Nat.le_max_left m n)
  have k := k.up (Nat.le_max_right m n)
  unfold Sz at *
  rw [Nat.pow_succ]
  omega
theorem Sz.sub {m n : Nat} {i j : Int} (h : Sz m i) (k : Sz n j) : Sz (max m n + 1) (i - j) := by
  have h := h.up (Nat.le_max_left m n)
  have k := k.up (Nat.le_max_right m n)
  unfold Sz at *
  rw [Nat.pow_succ]
  omega
theorem Sz.neg {m : Nat} {i : Int} (h : Sz m i) : Sz m (-i) := by
  unfold Sz at *
  rw [Int.natAbs_neg]
  exact h
theorem Sz.big {n : Nat} {i : Int} (h : Sz n i) (l : n ≤ 4000 := by decide) : i.natAbs < bigN := lt_big (h.up l)
theorem mul_M {m n : Nat} {i j : Int} {h : MH} (a : Sz m i) (b : Sz n j) (la : m ≤ 4000 := by decide) (lb : n ≤ 4000 := by decide) : mulM h (.int i) (.int j) = some (.int (i * j)) := by
  unfold mulM
  exact if_pos ⟨a.big la, b.big lb⟩
@[simp] theorem add_Mi (i j : Int) (h : MH) : addM h (.int i) (.int j) = some (.int (i + j)) := (rfl)
@[simp] theorem sub_Mi (i j : Int) (h : MH) : subM h (.int i) (.int j) = some (.int (i - j)) := (rfl)
@[simp] theorem sub_Mb (a b : Bool) (h : MH) : subM h (.bl a) (.bl b) = some (.int ((if a = true then 1 else 0) - (if b = true then 1 else 0))) := (rfl)
@[simp] theorem lt_Mi (i j : Int) (h : MH) : ltM h (.int i) (.int j) = some (.bl (decide (i < j))) := (rfl)
@[simp] theorem gt_Mi (i j : Int) (h : MH) : gtM h (.int i) (.int j) = some (.bl (decide (j < i))) := (rfl)
@[simp] theorem le_Mi (i j : Int) (h : MH) : leM h (.int i) (.int j) = some (.bl (decide (i ≤ j))) := (rfl)
@[simp] theorem ge_Mi (i j : Int) (h : MH) : geM h (.int i) (.int j) = some (.bl (decide (j ≤ i))) := (rfl)
@[simp] theorem eq_Mi (i j : Int) (h : MH) : eqM h (.int i) (.int j) = some (.bl (i == j)) := by
  unfold eqM
  exact if_pos ⟨rfl, rfl⟩
@[simp] theorem ne_Mi (i j : Int) (h : MH) : neM h (.int i) (.int j) = some (.bl (!(i == j))) := by
  unfold neM
  exact if_pos ⟨rfl, rfl⟩
@[simp] theorem eq_Mb (i j : Bool) (h : MH) : eqM h (.bl i) (.bl j) = some (.bl (i == j)) := by
  unfold eqM
  exact if_pos ⟨rfl, rfl⟩
@[simp] theorem ne_Mb (i j : Bool) (h : MH) : neM h (.bl i) (.bl j) = some (.bl (!(i == j))) := by
  unfold neM
  exact if_pos ⟨rfl, rfl⟩
@[simp] theorem mod_Mi (i j : Int) (h : MH) (k : j ≠ 0) : modM h (.int i) (.int j) = some (.int (i.fmod j)) := by
  unfold modM intOp
  exact if_pos k
theorem div_Mi {n : Nat} {i j : Int} {h : MH} (k : j ≠ 0) (s : Sz n j) (l : n ≤ 9000 := by decide) : divM h (.int i) (.int j) = some (.int (i.fdiv j)) := by
  unfold divM intOp
  exact if_pos ⟨k, s.up l⟩

section
variable (σ : Sl) (h : MH) (i j l : Nat)
@[simp] theorem run_v (f : EM) : PT2.run (.v f) i σ h = bindR (f σ h) fun m h => .ok (.val m) h := (rfl)
@[simp] theorem run_o (f : OM) : PT2.run (.o f) i σ h = bindR (f σ h) fun m h => .ok (.own m) h := (rfl)
@[simp] theorem par2S_at (a b : PT2) : par2S i j a b σ h = bindFl (bindR (a.run i σ h) fun x h1 => bindR (b.run j σ h1) fun y h2 => .ok (x, y) h2) σ fun q h' => .nx ((σ.set i q.1).set j q.2) h' := (bindS_at ..)
@[simp] theorem par3S_at (a b c : PT2) : par3S i j l a b c σ h = bindFl (bindR (a.run i σ h) fun x h1 => bindR (b.run j σ h1) fun y h2 => bindR (c.run l σ h2) fun z h3 => .ok (x, y, z) h3) σ fun q h' => .nx (((σ.set i q.1).set j q.2.1).set l q.2.2) h' := (bindS_at ..)
@[simp] theorem mutS_at (op : List MV → List MV → Option (List MV)) (fs : OM) (ys : List MV) (hy : σ[i]? = some (.own ys)) : mutS i op fs σ h = bindFl (fs σ h) σ fun xs h' => match op ys xs with
    | some zs => .nx (σ.set i (.own zs)) h'
    | none => .no := by
  unfold mutS
  rw [hy]
  show bindS fs _ σ h = _
  rw [bindS_at]
  congr 1
  funext xs h'
  rw [hy]
  first
    | done
    | (dsimp only; done)
    | (dsimp only; cases op ys xs <;> rfl)
    | (cases op ys xs <;> rfl)
@[simp] theorem fzS_at (b : SM) (xs : List MV) (hy : σ[i]? = some (.own xs)) : fzS i b σ h = b (σ.set i (.val (.lst xs))) h := by
  unfold fzS
  rw [hy]
@[simp] theorem forS_at (t : Tgt) (f : OM) (b : SM) : forS t f b σ h = bindFl (f σ h) σ fun ms h' => forL t b ms σ h' := by
  unfold forS
  rw [bindS_at]
@[simp] theorem forL_nil (t : Tgt) (b : SM) : forL t b [] σ h = .nx σ h := (rfl)
/-- behind a turn of a loop -/
def turnFl (r : Fl) (k : Sl → MH → Fl) : Fl := match r with
  | .nx σ h => k σ h
  | .ct σ h => k σ h
  | .bk σ h => .nx σ h
  | r => r
@[simp] theorem turnFl_nx (k : Sl → MH → Fl) : turnFl (.nx σ h) k = k σ h := (rfl)
@[simp] theorem turnFl_ct (k : Sl → MH → Fl) : turnFl (.ct σ h) k = k σ h := (rfl)
@[simp] theorem turnFl_bk (k : Sl → MH → Fl) : turnFl (.bk σ h) k = .nx σ h := (rfl)
@[simp] theorem turnFl_rt (m : MV) (k : Sl → MH → Fl) : turnFl (.rt m h) k = .rt m h := (rfl)
theorem forL_cons (t : Tgt) (b : SM) (m : MV) (r : List MV) (σ1 : Sl) (ht : t m σ = some σ1) : forL t b (m :: r) σ h = turnFl (b σ1 h) fun σ h => forL t b r σ h := by
  show (match t m σ with
    | none => Fl.no
    | some σ1 => _) = _
  rw [ht]
  unfold turnFl
  first
    | done
    | (dsimp only; done)
    | (dsimp only; generalize b σ1 h = r0; cases r0 <;> rfl)
    | (generalize b σ1 h = r0; cases r0 <;> rfl)
@[simp] theorem nameT_at (m : MV) : nameT i m σ = some (σ.set i (.val m)) := (rfl)
@[simp] theorem tupT_at (n : Nat) (u : List MV → Sl → Option Sl) (ms : List MV) : tupT n u (.tup ms) σ = if ms.length = n then u ms σ else none := (rfl)
@[simp] theorem nilT_at : nilT [] σ = some σ := (rfl)
@[simp] theorem consT_at (t : Tgt) (u : List MV → Sl → Option Sl) (m : MV) (r : List MV) : consT t u (m :: r) σ = (t m σ).bind (u r) := (rfl)
@[simp] theorem whileL_at (c : TM) (b : SM) (n : Nat) : whileL c b (n + 1) σ h = bindFl (c σ h) σ fun x h1 => if x = true then turnFl (b σ h1) fun σ h => whileL c b n σ h else .nx σ h1 := by
  rw [whileL]
  unfold bindFl turnFl
  cases c σ h with
  | ok x h1 => cases x with
    | true =>
      dsimp only
      generalize b σ h1 = r0
      cases r0 <;> rfl
    | false => rfl
  | ex c v h1 => rfl
  | no => rfl
end

@[simp] theorem not_Mb (b : Bool) (h : MH) : Mi.notM h (.bl b) = some (.bl (!b)) := (rfl)
@[simp] theorem neg_Mi (i : Int) (h : MH) : negM h (.int i) = some (.int (-i)) := (rfl)
@[simp] theorem isN_M (m : MV) (h : MH) : isNM h m = some (.bl (isN m)) := (rfl)
@[simp] theorem notN_M (m : MV) (h : MH) : notNM h m = some (.bl (!isN m)) := (rfl)
@[simp] theorem len_tupM (xs : List MV) (h : MH) : lenM h [.tup xs] = some (.int xs.length) := (rfl)
@[simp] theorem len_lstM (xs : List MV) (h : MH) : lenM h [.lst xs] = some (.int xs.length) := (rfl)
@[simp] theorem int_Mi (i : Int) (h : MH) : intM h [.int i] = some (.int i) := (rfl)
@[simp] theorem int_Mb (b : Bool) (h : MH) : intM h [.bl b] = some (.int (if b then 1 else 0)) := (rfl)
@[simp] theorem isi_M (b : Ty) (h : MH) (x : MV) : isiM b h x = (tyM h x).map fun a => .bl (isB a b) := (rfl)
@[simp] theorem isiT_M (bs : List Ty) (h : MH) (x : MV) : isiTM bs h x = (tyM h x).map fun a => .bl (bs.any (isB a)) := (rfl)
@[simp] theorem ty_non (h : MH) : tyM h .non = some .non := (rfl)
@[simp] theorem ty_bl (b : Bool) (h : MH) : tyM h (.bl b) = some .bool := (rfl)
@[simp] theorem ty_int (i : Int) (h : MH) : tyM h (.int i) = some .int := (rfl)
@[simp] theorem ty_str (s : List Nat) (h : MH) : tyM h (.str s) = some .str := (rfl)
@[simp] theorem ty_tup (xs : List MV) (h : MH) : tyM h (.tup xs) = some .tuple := (rfl)
@[simp] theorem ty_lst (xs : List MV) (h : MH) : tyM h (.lst xs) = some .list := (rfl)
@[simp] theorem gcd_Mi (i j : Int) (h : MH) : gcdM h [.int i, .int j] = some (.int (Nat.gcd i.natAbs j.natAbs)) := (rfl)
theorem zl1 : 1 ≤ zl := by decide
theorem zl2 : 2 ≤ zl := by decide
theorem zl3 : 3 ≤ zl := by decide
@[simp] theorem zlt0 : (0 ≤ zl) = True := eq_true (by decide)
@[simp] theorem zlt1 : (1 ≤ zl) = True := eq_true (by decide)
@[simp] theorem zlt2 : (2 ≤ zl) = True := eq_true (by decide)
@[simp] theorem zlt3 : (3 ≤ zl) = True := eq_true (by decide)
@[simp] theorem zlt4 : (4 ≤ zl) = True := eq_true (by decide)
@[simp] theorem zlt5 : (5 ≤ zl) = True := eq_true (by decide)
@[simp] theorem zlt6 : (6 ≤ zl) = True := eq_true (by decide)
@[simp] theorem zlt7 : (7 ≤ zl) = True := eq_true (by decide)
@[simp] theorem zlt8 : (8 ≤ zl) = True := eq_true (by decide)
@[simp] theorem zlt9 : (9 ≤ zl) = True := eq_true (by decide)
@[simp] theorem zlt10 : (10 ≤ zl) = True := eq_true (by decide)
@[simp] theorem zlt11 : (11 ≤ zl) = True := eq_true (by decide)
@[simp] theorem zlt12 : (12 ≤ zl) = True := eq_true (by decide)
@[simp] theorem zlt13 : (13 ≤ zl) = True := eq_true (by decide)
@[simp] theorem zlt14 : (14 ≤ zl) = True := eq_true (by decide)
@[simp] theorem zlt15 : (15 ≤ zl) = True := eq_true (by decide)
@[simp] theorem zlt16 : (16 ≤ zl) = True := eq_true (by decide)
@[simp] theorem zlt17 : (17 ≤ zl) = True := eq_true (by decide)
@[simp] theorem zlt18 : (18 ≤ zl) = True := eq_true (by decide)
@[simp] theorem zlt19 : (19 ≤ zl) = True := eq_true (by decide)
@[simp] theorem zlt20 : (20 ≤ zl) = True := eq_true (by decide)

/-! ### places of lists -/
@[simp] theorem ix_tupM (xs : List MV) (i : Int) (h : MH) : ixDM h (.tup xs) (.int i) = atI xs i := (rfl)
@[simp] theorem ix_lstM (xs : List MV) (i : Int) (h : MH) : ixDM h (.lst xs) (.int i) = atI xs i := (rfl)
theorem atI_n {α : Type} (xs : List α) (i : Nat) : atI xs (i : Int) = xs[i]? := by
  unfold atI ixN
  rw [if_pos (by omega)]
  by_cases c : i < xs.length
  · rw [if_pos (by omega)]
    simp
  · rw [if_neg (by omega)]
    rw [List.getElem?_eq_none (by omega)]
    rfl
theorem atI_neg {α : Type} (xs : List α) (i : Nat) (h0 : 0 < i) (h1 : i ≤ xs.length) : atI xs (-(i : Int)) = xs[xs.length - i]? := by
  unfold atI ixN
  rw [if_neg (by omega), if_pos (by omega)]
  have e : (-(i : Int) + (xs.length : Int)).toNat = xs.length - i := by omega
  show (some _).bind _ = _
  simp only [Option.bind_some]
  rw [e]
@[simp] theorem atI_0 {α : Type} (xs : List α) : atI xs 0 = xs[0]? := atI_n xs 0
@[simp] theorem atI_1 {α : Type} (xs : List α) : atI xs 1 = xs[1]? := atI_n xs 1
@[simp] theorem atI_2 {α : Type} (xs : List α) : atI xs 2 = xs[2]? := atI_n xs 2
@[simp] theorem atI_3 {α : Type} (xs : List α) : atI xs 3 = xs[3]? := atI_n xs 3

/-! ### rational numbers as pairs -/
def fr (q : Rat) : MV := .tup [.int q.num, .int q.den]
/-- numerator and denominator of at most n bits -/
def Bq (n : Nat) (q : Rat) : Prop := Sz n q.num ∧ Sz n (q.den : Int)
theorem Bq.up {m n : Nat} {q : Rat} (h : Bq m q) (l : m ≤ n) : Bq n q := ⟨h.1.up l, h.2.up l⟩
theorem Sz.le {n : Nat} {i j : Int} (h : Sz n i) (l : j.natAbs ≤ i.natAbs) : Sz n j := Nat.lt_of_le_of_lt l h
theorem Bq.divInt {n : Nat} {a b : Int} (hb : 0 < b) (h1 : Sz n a) (h2 : Sz n b) : Bq n (Rat.divInt a b) := by
  constructor
  · refine h1.le ?_
    rw [Rat.num_divInt, Int.sign_eq_one_of_pos hb, Int.one_mul]
    exact Int.natAbs_ediv_le_natAbs a _
  · refine h2.le ?_
    rw [Rat.den_divInt, if_neg (by omega)]
    simp only [Int.natAbs_natCast]
    exact Nat.div_le_self _ _
theorem den_pos (q : Rat) : 0 < (q.den : Int) := by
  have := q.den_pos
  omega
theorem Bq.add {n : Nat} {p q : Rat} (a : Bq n p) (b : Bq n q) : Bq (n + n + 1) (p + q) := by
  rw [Rat.add_def', ← Rat.divInt_ofNat]
  refine Bq.divInt (by have := Nat.mul_pos p.den_pos q.den_pos; omega) ?_ ?_
  · exact ((a.1.mul b.2).add (b.1.mul a.2)).up (by omega)
  · rw [Int.natCast_mul]
    exact (a.2.mul b.2).up (by omega)
theorem Bq.sub {n : Nat} {p q : Rat} (a : Bq n p) (b : Bq n q) : Bq (n + n + 1) (p - q) := by
  rw [Rat.sub_def', ← Rat.divInt_ofNat]
  refine Bq.divInt (by have := Nat.mul_pos p.den_pos q.den_pos; omega) ?_ ?_
  · exact ((a.1.mul b.2).sub (b.1.mul a.2)).up (by omega)
  · rw [Int.natCast_mul]
    exact (a.2.mul b.2).up (by omega)
theorem Bq.mul {n : Nat} {p q : Rat} (a : Bq n p) (b : Bq n q) : Bq (n + n) (p * q) := by
  rw [Rat.mul_def', ← Rat.divInt_ofNat]
  refine Bq.divInt (by have := Nat.mul_pos p.den_pos q.den_pos; omega) ?_ ?_
  · exact a.1.mul b.1
  · rw [Int.natCast_mul]
    exact a.2.mul b.2
end Mi
end P_P1
section P_P2
set_option Elab.async false
set_option linter.all false
set_option maxRecDepth 100000
set_option maxHeartbeats 4000000
set_option exponentiation.threshold 10000
/-! P2: lists, loops, comprehensions -/
namespace Mi
open PySem PySem.Spec PyProof.Rows L2

/-! ### parts of lists -/
theorem cutL_from {α : Type} (xs : List α) (i : Nat) : cutL xs (some (i : Int)) none = xs.drop i := by
  unfold cutL
  rw [HT.sIx_nat, HT.sIx_none]
  by_cases c : i ≤ xs.length
  · rw [Nat.min_eq_left c]
    rw [List.take_of_length_le (by rw [List.length_drop]; exact Nat.le_refl _)]
  · rw [Nat.min_eq_right (by omega), List.drop_eq_nil_of_le (Nat.le_refl _), List.drop_eq_nil_of_le (by omega)]
    simp
theorem cutL_to {α : Type} (xs : List α) (i : Nat) : cutL xs none (some (i : Int)) = xs.take i := by
  unfold cutL
  rw [HT.sIx_nat, HT.sIx_none, List.drop_zero, Nat.sub_zero]
  by_cases c : i ≤ xs.length
  · rw [Nat.min_eq_left c]
  · rw [Nat.min_eq_right (by omega), List.take_length, List.take_of_length_le (by omega)]
theorem cutL_mid {α : Type} (xs : List α) (i j : Nat) : cutL xs (some (i : Int)) (some (j : Int)) = (xs.take j).drop i := by
  unfold cutL
  rw [HT.sIx_nat, HT.sIx_nat, List.drop_take]
  by_cases c : i ≤ xs.length
  · rw [Nat.min_eq_left c]
    by_cases d : j ≤ xs.length
    · rw [Nat.min_eq_left d]
    · rw [Nat.min_eq_right (by omega)]
      rw [List.take_of_length_le (by rw [List.length_drop]; exact Nat.le_refl _), List.take_of_length_le (by rw [List.length_drop]; omega)]
  · rw [Nat.min_eq_right (by omega : xs.length ≤ i), List.drop_eq_nil_of_le (Nat.le_refl _), List.drop_eq_nil_of_le (by omega)]
    simp
@[simp] theorem cutL_1 {α : Type} (xs : List α) : cutL xs (some 1) none = xs.tail := by rw [← List.drop_one]; exact cutL_from xs 1
@[simp] theorem cutL_to1 {α : Type} (xs : List α) : cutL xs none (some 1) = xs.take 1 := cutL_to xs 1
@[simp] theorem seqM_lst (h : MH) (xs : List MV) : seqM h (.lst xs) = some xs := (rfl)
@[simp] theorem seqM_scr (h : MH) (xs : List MV) : seqM h (.scr xs) = some xs := (rfl)
@[simp] theorem slM_lst (lo hi : Option Int) (h : MH) (xs : List MV) : slM lo hi h (.lst xs) = some (.lst (cutL xs lo hi)) := (rfl)
theorem slM_str (lo hi : Option Int) (h : MH) (s : List Nat) (l : s.length ≤ zl) : slM lo hi h (.str s) = some (.str (cutL s lo hi)) := if_pos l
theorem add_Ml (xs ys : List MV) (h : MH) (l : xs.length + ys.length ≤ zl) : addM h (.lst xs) (.lst ys) = some (.lst (xs ++ ys)) := if_pos l
@[simp] theorem lzipO_at (fs : OM) (σ : Sl) (h : MH) : lzipO fs σ h = bindR (fs σ h) fun xs h => match xs with
  | [x, y] => (match seqM h x, seqM h y with
    | some xs, some ys => if (zipL xs ys).length ≤ zl then .ok (zipL xs ys) h else .no
    | _, _ => .no)
  | _ => .no := (rfl)
@[simp] theorem items_lst (xs : List MV) (h : MH) : itemsM (.lst xs) h = .ok xs h := (rfl)
@[simp] theorem items_tup (xs : List MV) (h : MH) : itemsM (.tup xs) h = .ok xs h := (rfl)

/-! ### comprehensions -/
theorem compL_pure {t : Tgt} {c : TM} {f : EM} {σ : Sl} {h : MH} {p : MV → Bool} {g : MV → MV} : ∀ {ms : List MV}, (∀ m ∈ ms, ∃ σ1, t m σ = some σ1 ∧ c σ1 h = .ok (p m) h ∧ (p m = true → f σ1 h = .ok (g m) h)) → compL t c f σ ms h = .ok ((ms.filter p).map g) h
  | [], _ => rfl
  | m :: ms, H => by
    obtain ⟨σ1, h1, h2, h3⟩ := H m List.mem_cons_self
    have ih := compL_pure (t := t) (c := c) (f := f) (σ := σ) (h := h) (p := p) (g := g) (ms := ms) fun x hx => H x (List.mem_cons_of_mem _ hx)
    unfold compL
    rw [h1]
    dsimp only
    rw [h2]
    cases q : p m with
    | true =>
      dsimp only
      rw [h3 q]
      dsimp only
      rw [ih]
      simp [q]
    | false =>
      dsimp only
      rw [ih]
      simp [q]
theorem compO_pure {vs : List Nat} {fi : OM} {t : Tgt} {c : TM} {f : EM} {σ : Sl} {h : MH} {ms : List MV} (p : MV → Bool) (g : MV → MV) (hf : fi σ h = .ok ms h) (hl : ms.length ≤ zl)
    (H : ∀ m ∈ ms, ∃ σ1, t m (wipeM σ vs) = some σ1 ∧ c σ1 h = .ok (p m) h ∧ (p m = true → f σ1 h = .ok (g m) h)) : compO vs fi t c f σ h = .ok ((ms.filter p).map g) h := by
  unfold compO
  rw [hf]
  show (if ms.length ≤ zl then compL t c f (wipeM σ vs) ms h else .no) = _
  rw [if_pos hl, compL_pure H]
/-- without a test -/
theorem compO_map {vs : List Nat} {fi : OM} {t : Tgt} {f : EM} {σ : Sl} {h : MH} {ms : List MV} (g : MV → MV) (hf : fi σ h = .ok ms h) (hl : ms.length ≤ zl)
    (H : ∀ m ∈ ms, ∃ σ1, t m (wipeM σ vs) = some σ1 ∧ f σ1 h = .ok (g m) h) : compO vs fi t yesT f σ h = .ok (ms.map g) h := by
  have z := compO_pure (vs := vs) (fi := fi) (t := t) (c := yesT) (f := f) (σ := σ) (h := h) (ms := ms) (fun _ => true) g hf hl fun m hm => by
    obtain ⟨σ1, h1, h2⟩ := H m hm
    exact ⟨σ1, h1, rfl, fun _ => h2⟩
  rw [z, List.filter_eq_self.mpr fun _ _ => rfl]
/-- over a list of data -/
theorem compO_data {α : Type} {vs : List Nat} {fi : OM} {t : Tgt} {f : EM} {σ : Sl} {h : MH} {xs : List α} (em : α → MV) (g : α → MV) (hf : fi σ h = .ok (xs.map em) h) (hl : xs.length ≤ zl)
    (H : ∀ x ∈ xs, ∃ σ1, t (em x) (wipeM σ vs) = some σ1 ∧ f σ1 h = .ok (g x) h) : compO vs fi t yesT f σ h = .ok (xs.map g) h := by
  have key : ∀ ys : List α, (∀ x ∈ ys, ∃ σ1, t (em x) (wipeM σ vs) = some σ1 ∧ f σ1 h = .ok (g x) h) → compL t yesT f (wipeM σ vs) (ys.map em) h = .ok (ys.map g) h := by
    intro ys
    induction ys with
    | nil => intro _; rfl
    | cons y ys ih =>
      intro H
      obtain ⟨σ1, h1, h2⟩ := H y List.mem_cons_self
      rw [List.map_cons]
      unfold compL
      rw [h1]
      dsimp only [yesT]
      rw [h2]
      dsimp only
      rw [ih fun x hx => H x (List.mem_cons_of_mem _ hx)]
      rfl
  unfold compO
  rw [hf]
  show (if (xs.map em).length ≤ zl then compL t yesT f (wipeM σ vs) (xs.map em) h else .no) = _
  rw [if_pos (by rw [List.length_map]; exact hl), key xs H]
theorem compO_filter {α : Type} {vs : List Nat} {fi : OM} {t : Tgt} {c : TM} {f : EM} {σ : Sl} {h : MH} {xs : List α} (em : α → MV) (p : α → Bool) (g : α → MV) (hf : fi σ h = .ok (xs.map em) h) (hl : xs.length ≤ zl)
    (H : ∀ x ∈ xs, ∃ σ1, t (em x) (wipeM σ vs) = some σ1 ∧ c σ1 h = .ok (p x) h ∧ (p x = true → f σ1 h = .ok (g x) h)) : compO vs fi t c f σ h = .ok ((xs.filter p).map g) h := by
  have key : ∀ ys : List α, (∀ x ∈ ys, ∃ σ1, t (em x) (wipeM σ vs) = some σ1 ∧ c σ1 h = .ok (p x) h ∧ (p x = true → f σ1 h = .ok (g x) h)) → compL t c f (wipeM σ vs) (ys.map em) h = .ok ((ys.filter p).map g) h := by
    intro ys
    induction ys with
    | nil => intro _; rfl
    | cons y ys ih =>
      intro H
      obtain ⟨σ1, h1, h2, h3⟩ := H y List.mem_cons_self
      have ih := ih fun x hx => H x (List.mem_cons_of_mem _ hx)
      rw [List.map_cons]
      unfold compL
      rw [h1]
      dsimp only
      rw [h2]
      cases q : p y with
      | true =>
        dsimp only
        rw [h3 q]
        dsimp only
        rw [ih]
        simp [q]
      | false =>
        dsimp only
        rw [ih]
        simp [q]
  unfold compO
  rw [hf]
  show (if (xs.map em).length ≤ zl then compL t c f (wipeM σ vs) (xs.map em) h else .no) = _
  rw [if_pos (by rw [List.length_map]; exact hl), key xs H]

/-! ### for -/
/-- over a list of data, each turn going on: I by what has come, what is still to come -/
theorem forL_inv {α : Type} {t : Tgt} {b : SM} (em : α → MV) (I : List α → List α → Sl → MH → Prop)
    (step : ∀ pre x post σ h, I pre (x :: post) σ h → ∃ σ1, t (em x) σ = some σ1 ∧ ∃ σ2 h2, (b σ1 h = .nx σ2 h2 ∨ b σ1 h = .ct σ2 h2) ∧ I (pre ++ [x]) post σ2 h2) :
    ∀ (xs pre : List α) (σ : Sl) (h : MH), I pre xs σ h → ∃ σ' h', forL t b (xs.map em) σ h = .nx σ' h' ∧ I (pre ++ xs) [] σ' h'
  | [], pre, σ, h, i => ⟨σ, h, rfl, by rw [List.append_nil]; exact i⟩
  | x :: xs, pre, σ, h, i => by
    obtain ⟨σ1, h1, σ2, h2, e, i2⟩ := step pre x xs σ h i
    obtain ⟨σ', h', e', i'⟩ := forL_inv em I step xs (pre ++ [x]) σ2 h2 i2
    refine ⟨σ', h', ?_, by rw [List.append_assoc] at i'; exact i'⟩
    rw [List.map_cons, forL_cons (ht := h1)]
    rcases e with e | e
    · rw [e]; exact e'
    · rw [e]; exact e'
/-- .. with an answer on the way: R by the items -/
theorem forL_find {α : Type} {t : Tgt} {b : SM} {σ0 : Sl} (em : α → MV) (I : Sl → Prop) (ans : α → Option MV) (h : MH)
    (step : ∀ x σ, I σ → ∃ σ1, t (em x) σ = some σ1 ∧ match ans x with
      | none => ∃ σ2, b σ1 h = .nx σ2 h ∧ I σ2
      | some m => b σ1 h = .rt m h) :
    ∀ (xs : List α) (σ : Sl), I σ → match xs.findSome? ans with
      | none => ∃ σ', forL t b (xs.map em) σ h = .nx σ' h ∧ I σ'
      | some m => forL t b (xs.map em) σ h = .rt m h
  | [], σ, i => ⟨σ, rfl, i⟩
  | x :: xs, σ, i => by
    obtain ⟨σ1, h1, q⟩ := step x σ i
    rw [List.findSome?_cons, List.map_cons]
    cases c : ans x with
    | none =>
      rw [c] at q
      obtain ⟨σ2, e, i2⟩ := q
      have ih := forL_find (σ0 := σ0) em I ans h step xs σ2 i2
      dsimp only
      cases d : xs.findSome? ans with
      | none =>
        rw [d] at ih
        obtain ⟨σ', e', i'⟩ := ih
        exact ⟨σ', by rw [forL_cons (ht := h1), e]; exact e', i'⟩
      | some m =>
        rw [d] at ih
        dsimp only at ih ⊢
        rw [forL_cons (ht := h1), e]
        exact ih
    | some m =>
      rw [c] at q
      dsimp only at q ⊢
      rw [forL_cons (ht := h1), q]
      rfl

/-! ### all, any over a list of truth values -/
theorem allM_map {α β : Type} {f : MV → Option α} {g : β → MV} {k : β → α} (hk : ∀ x, f (g x) = some (k x)) : ∀ xs : List β, allM f (xs.map g) = some (xs.map k)
  | [] => rfl
  | x :: xs => by
    rw [List.map_cons]
    unfold allM
    rw [hk x, allM_map hk xs]
    rfl
theorem allBM_map {β : Type} (k : β → Bool) (xs : List β) (h : MH) : allBM h [.lst (xs.map fun x => .bl (k x))] = some (.bl (xs.all k)) := by
  unfold allBM onBls
  simp only [seqM_lst]
  rw [allM_map (f := unBl) (g := fun x => .bl (k x)) (k := k) (fun x => rfl) xs]
  simp [List.all_map]
theorem anyBM_map {β : Type} (k : β → Bool) (xs : List β) (h : MH) : anyBM h [.lst (xs.map fun x => .bl (k x))] = some (.bl (xs.any k)) := by
  unfold anyBM onBls
  simp only [seqM_lst]
  rw [allM_map (f := unBl) (g := fun x => .bl (k x)) (k := k) (fun x => rfl) xs]
  simp [List.any_map]
end Mi
namespace Mi
open PySem PySem.Spec PyProof.Rows L2
theorem Bq.add2 {m n : Nat} {p q : Rat} (a : Bq m p) (b : Bq n q) : Bq (m + n + 1) (p + q) := by
  rw [Rat.add_def', ← Rat.divInt_ofNat]
  refine Bq.divInt (by have := Nat.mul_pos p.den_pos q.den_pos; omega) ?_ ?_
  · exact ((a.1.mul b.2).add (b.1.mul a.2)).up (by omega)
  · rw [Int.natCast_mul]
    exact (a.2.mul b.2).up (by omega)
theorem rng_nat (n : Nat) : rng 0 (n : Int) = (List.range n).map fun i : Nat => .int i := by
  unfold rng
  rw [Int.sub_zero, Int.toNat_natCast]
  exact List.map_congr_left fun i _ => by rw [Int.zero_add]
theorem sml_nat {n : Nat} (h : n ≤ zl) : sml (n : Int) = true := by
  rw [sml_iff]
  have : zl = 16777216 := (rfl)
  omega
theorem rng1_nat {n : Nat} (h : n ≤ zl) : rng1M [.int n] = some ((List.range n).map fun i : Nat => .int i) := by
  unfold rng1M
  simp only [sml_nat h, if_true]
  rw [rng_nat]
theorem rng2_nat {a b : Nat} (ha : a ≤ zl) (hb : b ≤ zl) : rng2M [.int a, .int b] = some ((List.range (b - a)).map fun i : Nat => .int ((a + i : Nat) : Int)) := by
  unfold rng2M
  simp only [sml_nat ha, sml_nat hb, and_self, if_true]
  unfold rng
  congr 1
  have : ((b : Int) - (a : Int)).toNat = b - a := by omega
  rw [this]
  exact List.map_congr_left fun i _ => by rw [Int.natCast_add]
theorem zipL_map {α β : Type} (f : α → MV) (g : β → MV) : ∀ (xs : List α) (ys : List β), zipL (xs.map f) (ys.map g) = (xs.zip ys).map fun p => .tup [f p.1, g p.2]
  | [], _ => by simp [zipL]
  | _ :: _, [] => by simp [zipL]
  | x :: xs, y :: ys => by
    rw [List.map_cons, List.map_cons, List.zip_cons_cons, List.map_cons, ← zipL_map f g xs ys]
    rfl
end Mi
end P_P2
section P_P3
set_option Elab.async false
set_option linter.all false
set_option maxRecDepth 100000
set_option maxHeartbeats 4000000
set_option exponentiation.threshold 10000
/-! P3: texts, objects of the small heap, pure calls, evaluated -/
namespace Mi
open PySem PySem.Spec PyProof.Rows L2 TL
@[simp] theorem strE_at (f : EM) (k : List Nat → Sl → MH → Res MV) (σ : Sl) (h : MH) : strE f k σ h = bindR (f σ h) fun x h' => match x with
  | .str s => k s σ h'
  | _ => .no := by
  show bindR (f σ h) _ = _
  congr 1
  funext x h'
  cases x <;> rfl
@[simp] theorem strO_at (f : EM) (k : List Nat → Sl → MH → Res (List MV)) (σ : Sl) (h : MH) : strO f k σ h = bindR (f σ h) fun x h' => match x with
  | .str s => k s σ h'
  | _ => .no := by
  show bindR (f σ h) _ = _
  congr 1
  funext x h'
  cases x <;> rfl
@[simp] theorem revO_at (f : EM) (σ : Sl) (h : MH) : revO f σ h = bindR (f σ h) fun x h' => optR ((seqM h' x).map List.reverse) h' := (rfl)
@[simp] theorem nilD_at (σ : Sl) (h : MH) : nilD σ h = .ok [] h := (rfl)
@[simp] theorem consD_at (fk fv : EM) (fs : DM) (σ : Sl) (h : MH) : consD fk fv fs σ h = bindR (fk σ h) fun k h1 => bindR (fv σ h1) fun v h2 => bindR (fs σ h2) fun r h3 => match keyM k with
  | some q => .ok ((q, v) :: r) h3
  | none => .no := (rfl)
@[simp] theorem dispE_at (f : DM) (σ : Sl) (h : MH) : dispE f σ h = bindR (f σ h) fun ks h' => if ks.length ≤ 15 then .ok (.dic (mergeM [] ks)) h' else .no := (rfl)
theorem allM_strs : ∀ ps : List (List Nat), allM unStr (ps.map .str) = some ps
  | [] => rfl
  | p :: ps => by
    rw [List.map_cons]
    unfold allM
    rw [allM_strs ps]
    rfl
theorem join_M {s : List Nat} {ps : List (List Nat)} {h : MH} (l : (ps.map List.length).sum + ps.length * s.length ≤ zl) : joinM s h [.lst (ps.map .str)] = some (.str (joinL s ps)) := by
  unfold joinM
  dsimp only
  rw [seqM_lst]
  dsimp only
  rw [allM_strs]
  dsimp only
  rw [if_pos l]
theorem joinL_one : ∀ xs : List Nat, joinL [] (xs.map fun c => [c]) = xs
  | [] => rfl
  | [x] => rfl
  | x :: y :: r => by
    have := joinL_one (y :: r)
    rw [List.map_cons, List.map_cons] at *
    show [x] ++ ([] ++ joinL [] _) = _
    rw [this]
    rfl
theorem split_M {t : List Nat} {s : Nat} {S : List Nat} {ps : List (List Nat)} {h : MH} (ht : t = joinL (s :: S) ps) (hs : (s :: S).all (· < 256) = true) (hne : ps ≠ []) (hp : ∀ p ∈ ps, s ∉ p) (l : t.length + 2 ≤ zl) (l2 : ps.length ≤ zl) : splitM t h [.str (s :: S)] = some (ps.map .str) := by
  have e : Txt.split (toS t) (toS (s :: S)) = ps.map toS := by
    rw [ht, ← joinL_eq]
    refine split_join (s := s) (S := S) rfl (by
      rw [← Array.all_toList]
      exact hs) (by simpa using hne) ?_
    intro p h
    obtain ⟨q, hq, rfl⟩ := List.mem_map.mp h
    exact hp q hq
  unfold splitM
  dsimp only
  rw [e, if_pos ⟨by simp, l, by rw [List.length_map]; exact l2⟩, List.map_map]
  rfl
theorem rngD_nat (n : Nat) : rngD (n : Int) (-1) = (List.range (n + 1)).map fun i : Nat => .int ((n - i : Nat) : Int) := by
  unfold rngD
  have : ((n : Int) - -1).toNat = n + 1 := by omega
  rw [this]
  refine List.map_congr_left fun i hi => ?_
  have := List.mem_range.mp hi
  have : ((n - i : Nat) : Int) = (n : Int) - (i : Int) := by omega
  rw [this]
theorem rng3_nat {n : Nat} (l : n ≤ zl) : rng3M [.int n, .int (-1), .int (-1)] = some ((List.range (n + 1)).map fun i : Nat => .int ((n - i : Nat) : Int)) := by
  unfold rng3M
  have z : zl = 16777216 := rfl
  dsimp only
  rw [if_pos ⟨sml_nat l, (by rfl), (by rfl)⟩, rngD_nat]
theorem ix_ref {h : MH} {r : Nat} {xs : List MV} (i : Int) (hr : h.get r = some (.lst xs)) : ixDM h (.ref r) (.int i) = atI xs i := by
  unfold ixDM ixM
  dsimp only
  rw [hr]
theorem setIxS_at (fe fo fi : EM) (σ : Sl) (h : MH) : setIxS fe fo fi σ h = bindFl (bindR (fe σ h) fun v h1 => bindR (fo σ h1) fun x h2 => bindR (fi σ h2) fun y h3 => match x, y with
  | .ref n, .int k => (match h3.get n with
    | some (.lst xs) => (match ixN xs.length k with
      | some j => .ok () (h3.put n (.lst (xs.set j v)))
      | none => .no)
    | _ => .no)
  | _, _ => .no) σ fun _ h' => .nx σ h' := by
  unfold setIxS
  rw [bindS_at]
  rfl
theorem setIx_ok {fe fo fi : EM} {σ : Sl} {h : MH} {v : MV} {r : Nat} {k : Int} {xs : List MV} {j : Nat} (h1 : fe σ h = .ok v h) (h2 : fo σ h = .ok (.ref r) h) (h3 : fi σ h = .ok (.int k) h) (hr : h.get r = some (.lst xs)) (hj : ixN xs.length k = some j) : setIxS fe fo fi σ h = .nx σ (h.put r (.lst (xs.set j v))) := by
  rw [setIxS_at, h1]
  simp only [bindR_ok]
  rw [h2]
  simp only [bindR_ok]
  rw [h3]
  simp only [bindR_ok]
  rw [hr]
  dsimp only
  rw [hj]
  rfl
theorem Sz.of {n : Nat} {x : Int} (h0 : 0 ≤ x) (h1 : x < ((2 ^ n : Nat) : Int)) : Sz n x := by
  unfold Sz
  omega
theorem allM_ints : ∀ ns : List Int, allM unInt (ns.map .int) = some ns
  | [] => rfl
  | n :: ns => by
    rw [List.map_cons]
    unfold allM
    rw [allM_ints ns]
    rfl
theorem joinL_small : ∀ ps : List (List Nat), (∀ p ∈ ps, ∀ c ∈ p, c < 256) → ∀ c ∈ joinL [10] ps, c < 256
  | [], _, c, h => by cases h
  | [p], hp, c, h => hp p List.mem_cons_self c h
  | p :: q :: r, hp, c, h => by
    have h : c ∈ p ++ ([10] ++ joinL [10] (q :: r)) := h
    rcases List.mem_append.mp h with h | h
    · exact hp p List.mem_cons_self c h
    · rcases List.mem_append.mp h with h | h
      · rw [List.mem_singleton.mp h]
        decide
      · exact joinL_small (q :: r) (fun x hx => hp x (List.mem_cons_of_mem _ hx)) c h
theorem joinL_len (S : List Nat) : ∀ ps : List (List Nat), (joinL S ps).length ≤ (ps.map List.length).sum + ps.length * S.length
  | [] => by simp [joinL]
  | [p] => by simp [joinL]
  | p :: q :: r => by
    have ih := joinL_len S (q :: r)
    show (p ++ (S ++ joinL S (q :: r))).length ≤ _
    rw [List.length_append, List.length_append, List.map_cons, List.sum_cons, List.length_cons, Nat.succ_mul]
    omega
@[simp] theorem pureE_at (n : Nat) (F : List MV → MH → Res MV) (dms : List MV) (fs : OM) (σ : Sl) (h : MH) : pureE n F dms fs σ h = bindR (fs σ h) fun ms h1 => if (ms ++ dms).length = n then pureF F (ms ++ dms) h1 else .no := rfl
@[simp] theorem itAnyD_at (f : EM) (σ : Sl) (h : MH) : itAnyD f σ h = bindR (f σ h) fun m h' => itemsD m h' := rfl
@[simp] theorem lenD_lst (xs : List MV) (h : MH) : lenDM h [.lst xs] = some (.int xs.length) := rfl
@[simp] theorem lenD_tup (xs : List MV) (h : MH) : lenDM h [.tup xs] = some (.int xs.length) := rfl
@[simp] theorem lenD_dic (ks : List (L2.Key × MV)) (h : MH) : lenDM h [.dic ks] = some (.int ks.length) := rfl
@[simp] theorem ty_dic (ks : List (L2.Key × MV)) (h : MH) : tyM h (.dic ks) = some .dict := rfl
@[simp] theorem itemsD_lst (xs : List MV) (h : MH) : itemsD (.lst xs) h = .ok xs h := rfl
@[simp] theorem itemsD_tup (xs : List MV) (h : MH) : itemsD (.tup xs) h = .ok xs h := rfl
/-- data that is compared -/
def okX : Nat → MV → Bool
  | _, .non | _, .bl _ | _, .int _ => true
  | _, .str s => s.all (· < 0x110000)
  | n + 1, .lst xs => decide (xs.length ≤ zl) && xs.all (okX n)
  | n + 1, .tup xs => decide (xs.length ≤ zl) && xs.all (okX n)
  | _ + 1, .dic [] => true
  | _, _ => false
theorem zipL_self : ∀ xs : List MV, zipL xs xs = xs.map fun x => .tup [x, x]
  | [] => rfl
  | x :: xs => by rw [List.map_cons, ← zipL_self xs]; rfl
end Mi
end P_P3
section P_U1
set_option Elab.async false
set_option linter.all false
set_option maxRecDepth 100000
set_option maxHeartbeats 4000000
set_option exponentiation.threshold 10000
/-! U1: purses and draws -/
namespace K83
open PySem PySem.Spec PyProof.Rows L2 Mi
structure Prs (B : Nat) (a b c d : Int) : Prop where
  a0 : 0 ≤ a
  a1 : Sz 1600 a
  b0 : 0 ≤ b
  b1 : b < 2147483648
  c0 : 0 ≤ c
  c1 : c ≤ B
  d0 : 0 ≤ d
  d1 : d < 64
def PurseOk (h : MH) (r B : Nat) : Prop := ∃ a b c d : Int, h.get r = some (.lst [.int a, .int b, .int c, .int d]) ∧ Prs B a b c d
/-- the first N objects are purses -/
structure HP (h : MH) (N B : Nat) : Prop where
  nx : N ≤ h.nx
  ok : ∀ r, r < N → PurseOk h r B
/-- only purses have changed -/
structure Dr (N : Nat) (h h' : MH) : Prop where
  nx : h'.nx = h.nx
  get : ∀ k, N ≤ k → h'.get k = h.get k
theorem Dr.refl {N : Nat} {h : MH} : Dr N h h := ⟨rfl, fun _ _ => rfl⟩
theorem Dr.trans {N : Nat} {h h1 h2 : MH} (a : Dr N h h1) (b : Dr N h1 h2) : Dr N h h2 := ⟨b.nx.trans a.nx, fun k l => (b.get k l).trans (a.get k l)⟩
theorem PurseOk.up {h : MH} {r B C : Nat} (p : PurseOk h r B) (l : B ≤ C) : PurseOk h r C := by
  obtain ⟨a, b, c, d, e, q⟩ := p
  exact ⟨a, b, c, d, e, ⟨q.a0, q.a1, q.b0, q.b1, q.c0, by have := q.c1; omega, q.d0, q.d1⟩⟩
theorem HP.up {h : MH} {N B C : Nat} (p : HP h N B) (l : B ≤ C) : HP h N C := ⟨p.nx, fun r hr => (p.ok r hr).up l⟩
theorem HP.put {h : MH} {N B r : Nat} {a b c d : Int} (p : HP h N B) (hr : r < N) (q : Prs B a b c d) : HP (h.put r (.lst [.int a, .int b, .int c, .int d])) N B ∧ Dr N h (h.put r (.lst [.int a, .int b, .int c, .int d])) := by
  refine ⟨⟨p.nx, fun k hk => ?_⟩, rfl, fun k hk => ?_⟩
  · by_cases e : k = r
    · subst e
      exact ⟨a, b, c, d, by show (if k = k then _ else _) = _; rw [if_pos rfl], q⟩
    · obtain ⟨a', b', c', d', e', q'⟩ := p.ok k hk
      exact ⟨a', b', c', d', by show (if k = r then _ else h.get k) = _; rw [if_neg e]; exact e', q'⟩
  · show (if k = r then _ else h.get k) = _
    rw [if_neg (by omega)]
theorem HP.push {h : MH} {N B : Nat} (p : HP h N B) (o : MO) : HP (h.push o) N B := by
  refine ⟨Nat.le_succ_of_le p.nx, fun k hk => ?_⟩
  obtain ⟨a', b', c', d', e', q'⟩ := p.ok k hk
  refine ⟨a', b', c', d', ?_, q'⟩
  show (if k = h.nx then _ else h.get k) = _
  have := p.nx
  rw [if_neg (by omega)]
  exact e'
theorem mixed_ok {s c d : Int} {h : MH} (s0 : 0 ≤ s) (s1 : s < 2147483648) (c0 : 0 ≤ c) (c1 : c < 1048576) (d0 : 0 ≤ d) (d1 : d < 64) : ∃ r, F__law_mixed [.int s, .int c, .int d] h = .ok (.int r) h ∧ 0 ≤ r ∧ r < 2147483648 := by
  have zs : Sz 31 s := Sz.of s0 (by simpa using s1)
  have zc : Sz 20 c := Sz.of c0 (by simpa using c1)
  have zd : Sz 6 d := Sz.of d0 (by simpa using d1)
  have k1 : Sz 17 (69069 : Int) := by unfold Sz; decide
  have k2 : Sz 17 (104729 : Int) := by unfold Sz; decide
  have k3 : Sz 13 (7919 : Int) := by unfold Sz; decide
  have k4 : Sz 16 (48271 : Int) := by unfold Sz; decide
  have m1 := mul_M (h := h) zs k1
  have m2 := mul_M (h := h) k2 zc
  have m3 := mul_M (h := h) (k2.mul zc) zc
  have m4 := mul_M (h := h) k3 zd
  generalize hx : (s * 69069 + 104729 * c * c + 7919 * d + c).fmod 2147483647 = x
  have x0 : 0 ≤ x := by rw [← hx]; exact Int.fmod_nonneg_of_pos _ (by decide)
  have x1 : x < 2147483647 := by rw [← hx]; exact Int.fmod_lt_of_pos _ (by decide)
  have zx : Sz 31 x := Sz.of x0 (by simp; omega)
  have m5 := mul_M (h := h) zx zx
  generalize hy : (x * x + 40503).fmod 2147483629 = y
  have y0 : 0 ≤ y := by rw [← hy]; exact Int.fmod_nonneg_of_pos _ (by decide)
  have y1 : y < 2147483629 := by rw [← hy]; exact Int.fmod_lt_of_pos _ (by decide)
  have zy : Sz 31 y := Sz.of y0 (by simp; omega)
  have m6 := mul_M (h := h) zy k4
  refine ⟨(y * 48271).fmod 2147483587, ?_, Int.fmod_nonneg_of_pos _ (by decide), ?_⟩
  · unfold F__law_mixed b__law_mixed
    rw [bodyF_at]
    simp [m1, m2, m3, m4, hx, m5, hy, m6]
  · have := Int.fmod_lt_of_pos (y * 48271) (show (0 : Int) < 2147483587 by decide)
    omega
theorem bits_small {m : Nat} (h : m < 2 ^ 27) : ((Builtin.Int.intBits (m : Int) : Nat) : Int).fdiv 28 = 0 := by
  have : Builtin.Int.intBits (m : Int) ≤ 27 := by
    unfold Builtin.Int.intBits
    by_cases c : m = 0
    · subst c
      decide
    · have e : ((m : Int) == 0) = false := beq_eq_false_iff_ne.mpr (by omega)
      rw [e]
      simp only [Bool.false_eq_true, if_false, Int.natAbs_natCast]
      have := (Nat.log2_lt c).mpr h
      omega
  rw [Int.fdiv_eq_ediv_of_nonneg _ (by decide)]
  omega
/-- a draw -/
theorem draw_ok {h : MH} {N B r m : Nat} (H : HP h N B) (hr : r < N) (hB : B < 1000000) (m0 : 0 < m) (m1 : m < 1000) : ∃ d : Nat, ∃ h', F__law_draw [.ref r, .int m] h = .ok (.int d) h' ∧ d < m ∧ HP h' N (B + 1) ∧ Dr N h h' := by
  obtain ⟨a, b, c, d, e, q⟩ := H.ok r hr
  have H := H.up (by omega : B ≤ B + 1)
  have mz : (m : Int) ≠ 0 := by omega
  have md : ∀ (x : Int) (h : MH), modM h (.int x) (.int m) = some (.int (x.fmod m)) := fun x h => mod_Mi x m h mz
  have rg : ∀ x : Int, ∃ d : Nat, x.fmod m = (d : Int) ∧ d < m := by
    intro x
    have h1 := Int.fmod_nonneg_of_pos x (show (0 : Int) < m by omega)
    have h2 := Int.fmod_lt_of_pos x (show (0 : Int) < m by omega)
    exact ⟨(x.fmod m).toNat, by omega, by omega⟩
  by_cases pos : 0 < a
  · obtain ⟨x, hx, hl⟩ := rg a
    have dv : divM h (.int a) (.int m) = some (.int (a.fdiv m)) := div_Mi (n := 10) mz (Sz.of (by omega) (by simp; omega))
    refine ⟨x, h.put r (.lst [.int (a.fdiv m), .int b, .int c, .int d]), ?_, hl, H.put hr ⟨?_, ?_, q.b0, q.b1, q.c0, by have := q.c1; omega, q.d0, q.d1⟩⟩
    · unfold F__law_draw b__law_draw
      rw [bodyF_at]
      simp [ix_ref 0 e, pos, md]
      rw [setIx_ok (v := .int (a.fdiv m)) (r := r) (k := 0) (xs := [.int a, .int b, .int c, .int d]) (j := 0) (by
        simp [ix_ref 0 e, dv]) (by simp) (by simp) e (by rfl)]
      simp [hx]
    · rw [Int.fdiv_eq_ediv_of_nonneg _ (by omega)]
      exact Int.ediv_nonneg q.a0 (by omega)
    · refine q.a1.le ?_
      rw [Int.fdiv_eq_ediv_of_nonneg _ (by omega)]
      exact Int.natAbs_ediv_le_natAbs a m
  · have q0 := q.a0
    have a0 : a = 0 := by omega
    subst a0
    have c0 := q.c0
    have c1 := q.c1
    obtain ⟨y, hy, y0, y1⟩ := mixed_ok (h := h.put r (.lst [.int 0, .int b, .int (c + 1), .int d])) q.b0 q.b1 (show 0 ≤ c + 1 by omega) (show c + 1 < 1048576 by omega) q.d0 q.d1
    obtain ⟨x, hx, hl⟩ := rg y
    have bs := bits_small (m := m) (by omega)
    have dv : divM h (.int (Builtin.Int.intBits (m : Int) : Nat)) (.int 28) = some (.int 0) := by
      rw [div_Mi (n := 10) (by decide) (by unfold Sz; decide), bs]
    have r1 : rng1M [.int 1] = some [.int 0] := rfl
    have e' : (h.put r (.lst [.int 0, .int b, .int (c + 1), .int d])).get r = some (.lst [.int 0, .int b, .int (c + 1), .int d]) := by
      show (if r = r then _ else _) = _
      rw [if_pos rfl]
    have ml : mulM (h.put r (.lst [.int 0, .int b, .int (c + 1), .int d])) (.int 0) (.int 2147483587) = some (.int 0) := by
      rw [mul_M (m := 1) (n := 31) (by unfold Sz; decide) (by unfold Sz; decide)]
      rfl
    refine ⟨x, h.put r (.lst [.int 0, .int b, .int (c + 1), .int d]), ?_, hl, H.put hr ⟨Int.le_refl _, by unfold Sz; exact Nat.pow_pos (by decide), q.b0, q.b1, by omega, by omega, q.d0, q.d1⟩⟩
    unfold F__law_draw b__law_draw
    rw [bodyF_at]
    simp [ix_ref 0 e, pos, bitsM, dv, r1]
    rw [forL_cons (ht := rfl)]
    simp only [seqS_at, List.set_cons_succ, List.set_cons_zero]
    rw [setIx_ok (v := .int (c + 1)) (r := r) (k := 2) (xs := [.int 0, .int b, .int c, .int d]) (j := 2) (by
        simp [ix_ref 2 e]) (by simp) (by simp) e (by rfl)]
    simp [ix_ref 1 e', ix_ref 2 e', ix_ref 3 e', hy, ml, md, hx]
theorem purse_ok {xs : List Int} {at_ : Nat} {h : MH} {N B : Nat} (H : HP h N B) (HN : h.nx = N) (ha : at_ < 64) : ∃ h', F__law_purse [.scr (xs.map .int), .int at_] h = .ok (.ref N) h' ∧ HP h' (N + 1) B ∧ h'.nx = N + 1 := by
  have cl : cutL (xs.map MV.int) (some (at_ : Int)) (some ((at_ : Int) + 1)) = ((xs.take (at_ + 1)).drop at_).map MV.int := by
    have := cutL_mid (xs.map MV.int) at_ (at_ + 1)
    rw [← List.map_take, ← List.map_drop] at this
    exact this
  have sm : sumM h [.lst (cutL (xs.map MV.int) (some (at_ : Int)) (some ((at_ : Int) + 1)))] = some (.int ((xs.take (at_ + 1)).drop at_).sum) := by
    rw [cl]
    unfold sumM onInts
    dsimp only
    rw [seqM_lst]
    dsimp only
    rw [allM_ints]
    rfl
  generalize ((xs.take (at_ + 1)).drop at_).sum = S at sm
  have p1 : powM h (.int 10) (.int 18) = some (.int (10 ^ 18)) := by
    unfold powM Mi.intOp
    exact if_pos (by decide +kernel)
  have p2 : powM h (.int 10) (.int 60) = some (.int (10 ^ 60)) := by
    unfold powM Mi.intOp
    exact if_pos (by decide +kernel)
  have p3 : powM h (.int (10 ^ 60)) (.int 8) = some (.int ((10 ^ 60) ^ 8)) := by
    unfold powM Mi.intOp
    exact if_pos (by decide +kernel)
  have big : (0 : Int) < (10 ^ 60) ^ 8 := by decide +kernel
  have mx : ∃ m : Int, maxM h [.int (S - 10 ^ 18), .int 0] = some (.int m) := ⟨_, rfl⟩
  obtain ⟨m, mx⟩ := mx
  have sl : slM (some (at_ : Int)) (some ((at_ : Int) + 1)) h (.scr (xs.map .int)) = some (.lst (cutL (xs.map MV.int) (some (at_ : Int)) (some ((at_ : Int) + 1)))) := rfl
  have md : modM h (.int m) (.int ((10 ^ 60) ^ 8)) = some (.int (m.fmod ((10 ^ 60) ^ 8))) := mod_Mi _ _ _ (by omega)
  have nx := HN
  refine ⟨h.push (.lst [.int (m.fmod ((10 ^ 60) ^ 8)), .int (S.fmod 2147483629), .int 0, .int at_]), ?_, ⟨?_, ?_⟩, ?_⟩
  · unfold F__law_purse b__law_purse
    rw [bodyF_at]
    generalize hP : ((10 : Int) ^ 60) ^ 8 = P at *
    generalize hQ : ((10 : Int) ^ 60) = Q at *
    generalize hR : ((10 : Int) ^ 18) = R at *
    have nw : ∀ (f : OM) σ h, newE f σ h = bindR (f σ h) fun xs h' => .ok (.ref h'.nx) (h'.push (.lst xs)) := fun _ _ _ => rfl
    simp [sl, sm, p1, p2, p3, mx, md, nw, nx]
  · show N + 1 ≤ h.nx + 1
    rw [nx]
    exact Nat.le_refl _
  · intro r hr
    by_cases e : r = N
    · subst e
      refine ⟨m.fmod ((10 ^ 60) ^ 8), S.fmod 2147483629, 0, at_, ?_, ⟨Int.fmod_nonneg_of_pos _ big, ?_, Int.fmod_nonneg_of_pos _ (by decide), ?_, Int.le_refl _, by omega, by omega, by omega⟩⟩
      · show (if r = h.nx then _ else _) = _
        rw [if_pos nx.symm]
      · have b1 := Int.fmod_nonneg_of_pos m big
        have b2 := Int.fmod_lt_of_pos m big
        refine Sz.of b1 (Int.lt_trans b2 (by decide +kernel))
      · have b2 := Int.fmod_lt_of_pos S (show (0 : Int) < 2147483629 by decide)
        omega
    · obtain ⟨a, b, c, d, e', q⟩ := H.ok r (by omega)
      refine ⟨a, b, c, d, ?_, q⟩
      show (if r = h.nx then _ else _) = _
      rw [if_neg (by omega)]
      exact e'
  · show h.nx + 1 = N + 1
    rw [nx]
theorem HP0 : HP hm0 0 0 := ⟨Nat.le_refl _, fun r h => absurd h (Nat.not_lt_zero _)⟩
/-- drawn out of some -/
theorem one_of_ok {h : MH} {N B r : Nat} {xs : List MV} (H : HP h N B) (hr : r < N) (hB : B < 1000000) (l0 : 0 < xs.length) (l1 : xs.length < 1000) : ∃ m h', F__law_one_of [.ref r, .lst xs] h = .ok m h' ∧ m ∈ xs ∧ HP h' N (B + 1) ∧ Dr N h h' := by
  obtain ⟨d, h', e, hd, H', D⟩ := draw_ok H hr hB l0 l1
  have g : xs[d]? = some xs[d] := List.getElem?_eq_getElem hd
  refine ⟨xs[d], h', ?_, List.getElem_mem _, H', D⟩
  unfold F__law_one_of b__law_one_of
  rw [bodyF_at]
  simp [e, atI_n, g]
end K83
end P_U1
section P_U2
set_option Elab.async false
set_option linter.all false
set_option maxRecDepth 100000
set_option maxHeartbeats 4000000
set_option exponentiation.threshold 10000
/-! U2: _law_exact of a thing and itself -/
namespace K83
open PySem PySem.Spec PyProof.Rows L2 Mi
theorem exact_refl : ∀ (n : Nat) (a : MV) (h : MH), okX n a = true → F__law_exact_ (n + 1) [a, a] h = .ok (.bl true) h
  | n, .non, h, _ => by
    show bodyF _ _ (b__law_exact _) _ _ = _
    unfold b__law_exact
    rw [bodyF_at]
    simp [isB, isN]
    rfl
  | n, .bl b, h, _ => by
    show bodyF _ _ (b__law_exact _) _ _ = _
    unfold b__law_exact
    rw [bodyF_at]
    simp [isB, isN]
  | n, .int b, h, _ => by
    show bodyF _ _ (b__law_exact _) _ _ = _
    unfold b__law_exact
    rw [bodyF_at]
    simp [isB, isN]
  | n, .str b, h, e => by
    have ok : okD (.str b) = true := by
      cases n <;> exact e
    have ee : eqM h (.str b) (.str b) = some (.bl true) := by
      unfold eqM
      rw [if_pos ⟨ok, ok⟩]
      unfold meq
      rw [beq_self_eq_true]
    show bodyF _ _ (b__law_exact _) _ _ = _
    unfold b__law_exact
    rw [bodyF_at]
    simp [isB, isN, ee]
  | n + 1, .lst xs, h, e => by
    have e : (decide (xs.length ≤ zl) && xs.all (okX n)) = true := e
    obtain ⟨hl, e⟩ := Bool.and_eq_true_iff.mp e
    have hl : xs.length ≤ zl := of_decide_eq_true hl
    show bodyF _ _ (b__law_exact _) _ _ = _
    unfold b__law_exact
    rw [bodyF_at]
    have c := compO_data (vs := [5, 6]) (fi := itB zipM (consA (varE 0) (consA (varE 1) nilA))) (t := tupT 2 (consT (nameT 5) (consT (nameT 6) nilT))) (f := callE (callN 2 (F__law_exact_ (n + 1))) [] (consA (varE 5) (consA (varE 6) nilA)))
      (σ := [.val (.lst xs), .val (.lst xs), .val (.bl true), .val (.bl true), .un, .un, .un]) (h := h) (xs := xs) (fun x => .tup [x, x]) (fun _ => .bl true) (by simp [zipM, zipL_self]) hl (fun x hx => ⟨_, rfl, by
        simp [wipeM]
        exact exact_refl n x h (List.all_eq_true.mp e x hx)⟩)
    have al : allBM h [.lst (xs.map fun _ => .bl true)] = some (.bl true) := by
      rw [allBM_map fun _ => true]
      simp
    simp [isB, c, al]
  | n + 1, .tup xs, h, e => by
    have e : (decide (xs.length ≤ zl) && xs.all (okX n)) = true := e
    obtain ⟨hl, e⟩ := Bool.and_eq_true_iff.mp e
    have hl : xs.length ≤ zl := of_decide_eq_true hl
    show bodyF _ _ (b__law_exact _) _ _ = _
    unfold b__law_exact
    rw [bodyF_at]
    have c := compO_data (vs := [5, 6]) (fi := itB zipM (consA (varE 0) (consA (varE 1) nilA))) (t := tupT 2 (consT (nameT 5) (consT (nameT 6) nilT))) (f := callE (callN 2 (F__law_exact_ (n + 1))) [] (consA (varE 5) (consA (varE 6) nilA)))
      (σ := [.val (.tup xs), .val (.tup xs), .val (.bl true), .val (.bl true), .un, .un, .un]) (h := h) (xs := xs) (fun x => .tup [x, x]) (fun _ => .bl true) (by simp [zipM, zipL_self]) hl (fun x hx => ⟨_, rfl, by
        simp [wipeM]
        exact exact_refl n x h (List.all_eq_true.mp e x hx)⟩)
    have al : allBM h [.lst (xs.map fun _ => .bl true)] = some (.bl true) := by
      rw [allBM_map fun _ => true]
      simp
    simp [isB, c, al]
  | n + 1, .dic [], h, e => by
    show bodyF _ _ (b__law_exact _) _ _ = _
    unfold b__law_exact
    rw [bodyF_at]
    have c := compO_data (α := Unit) (vs := [4]) (fi := itAnyD (varE 0)) (t := nameT 4) (f := andE (bin2 inDM (peekE 4) (peekE 1)) (callE (callN 2 (F__law_exact_ (n + 1))) [] (consA (bin2 ixDM (peekE 0) (peekE 4)) (consA (bin2 ixDM (peekE 1) (peekE 4)) nilA))))
      (σ := [.val (.dic []), .val (.dic []), .un, .un, .un, .un, .un]) (h := h) (xs := []) (fun _ => .non) (fun _ => .bl true) (by simp [itemsD]) (by simp) (fun x hx => (List.not_mem_nil hx).elim)
    have al : allBM h [.lst []] = some (.bl true) := rfl
    simp [isB, c, al]
  | 0, .lst _, _, e => by simp [okX] at e
  | 0, .tup _, _, e => by simp [okX] at e
  | 0, .dic _, _, e => by simp [okX] at e
  | _ + 1, .dic (_ :: _), _, e => by simp [okX] at e
  | 0, .dit _, _, e => by simp [okX] at e
  | _ + 1, .dit _, _, e => by simp [okX] at e
  | 0, .ref _, _, e => by simp [okX] at e
  | _ + 1, .ref _, _, e => by simp [okX] at e
  | 0, .exc _ _, _, e => by simp [okX] at e
  | _ + 1, .exc _ _, _, e => by simp [okX] at e
  | 0, .scr _, _, e => by simp [okX] at e
  | _ + 1, .scr _, _, e => by simp [okX] at e
theorem exact_at {a : MV} {h : MH} (e : okX 11 a = true) : F__law_exact [a, a] h = .ok (.bl true) h := exact_refl 11 a h e
end K83
end P_U2
section P_U3
set_option Elab.async false
set_option linter.all false
set_option maxRecDepth 100000
set_option maxHeartbeats 4000000
set_option exponentiation.threshold 10000
/-! U3: floors as data; the drawing of a floor -/
namespace K83
open PySem PySem.Spec PyProof.Rows L2 Mi TL
abbrev Cel := Int × Int
def FL (fl : List Cel) : MV := .lst (fl.map pairM)
def mx : List Int → Int
  | [] => 0
  | x :: xs => xs.foldl max x
def wid (fl : List Cel) : Nat := (mx (fl.map (·.1)) + 1).toNat
def hgt (fl : List Cel) : Nat := (mx (fl.map (·.2)) + 1).toNat
def sgC (b : Bool) : Nat := if b then 35 else 46
def rowD (fl : List Cel) (w y : Nat) : List Nat := (List.range w).map fun x : Nat => sgC (decide (((x : Int), (y : Int)) ∈ fl))
def rowsD (fl : List Cel) : List (List Nat) := (List.range (hgt fl)).map (rowD fl (wid fl))
def drawL (fl : List Cel) : List Nat := joinL [10] (rowsD fl).reverse
structure Fin (fl : List Cel) : Prop where
  ne : fl ≠ []
  p : ∀ c ∈ fl, 0 ≤ c.1 ∧ c.1 < 700 ∧ 0 ≤ c.2 ∧ c.2 < 700
  l : fl.length ≤ 300000
theorem mx_mem {ns : List Int} (h : ns ≠ []) : mx ns ∈ ns := by
  cases ns with
  | nil => exact absurd rfl h
  | cons x xs =>
    show xs.foldl max x ∈ _
    rcases foldl_max_mem xs x with e | e
    · rw [e]; exact List.mem_cons_self
    · exact List.mem_cons_of_mem _ e
theorem mx_le {ns : List Int} {n : Int} (h : n ∈ ns) : n ≤ mx ns := by
  cases ns with
  | nil => cases h
  | cons x xs =>
    show n ≤ xs.foldl max x
    have := foldl_max_ge xs x
    rcases List.mem_cons.mp h with e | e
    · rw [e]; exact this.1
    · exact this.2 _ e
theorem maxM_ints {ns : List Int} (h : MH) (n2 : ns ≠ []) : maxM h [.lst (ns.map .int)] = some (.int (mx ns)) := by
  show onInts maxL h [.lst (ns.map .int)] = _
  unfold onInts
  dsimp only
  rw [seqM_lst]
  dsimp only
  rw [allM_ints]
  cases ns with
  | nil => exact absurd rfl n2
  | cons x xs => rfl
theorem Fin.mx1 {fl : List Cel} (F : Fin fl) : 0 ≤ mx (fl.map (·.1)) ∧ mx (fl.map (·.1)) < 700 := by
  have h := mx_mem (ns := fl.map (·.1)) (by simpa using F.ne)
  obtain ⟨c, hc, e⟩ := List.mem_map.mp h
  have := F.p c hc
  rw [← e]
  omega
theorem Fin.mx2 {fl : List Cel} (F : Fin fl) : 0 ≤ mx (fl.map (·.2)) ∧ mx (fl.map (·.2)) < 700 := by
  have h := mx_mem (ns := fl.map (·.2)) (by simpa using F.ne)
  obtain ⟨c, hc, e⟩ := List.mem_map.mp h
  have := F.p c hc
  rw [← e]
  omega
theorem pair_meq (a b : Cel) : meq (pairM a) (pairM b) = decide (a = b) := by
  show (a.1 == b.1 && (a.2 == b.2 && true)) = _
  rw [Bool.and_true]
  obtain ⟨a1, a2⟩ := a
  obtain ⟨b1, b2⟩ := b
  by_cases h1 : a1 = b1 <;> by_cases h2 : a2 = b2 <;> simp [h1, h2]
theorem in_FL (c : Cel) (fl : List Cel) (h : MH) : inM h (.tup [.int c.1, .int c.2]) (FL fl) = some (.bl (decide (c ∈ fl))) := by
  have e : okV 40 (FL fl) = true := by
    show (fl.map pairM).all (okV 39) = true
    rw [List.all_map]
    exact List.all_eq_true.mpr fun x _ => rfl
  unfold inM inMb FL
  dsimp only
  rw [if_pos ⟨rfl, e⟩]
  show some (MV.bl _) = _
  congr 2
  rw [List.any_map]
  have : ∀ l : List Cel, (l.any ((fun z => meq z (.tup [.int c.1, .int c.2])) ∘ pairM)) = decide (c ∈ l) := by
    intro l
    induction l with
    | nil => rfl
    | cons x l ih =>
      rw [List.any_cons, ih]
      have e : ((fun z => meq z (.tup [.int c.1, .int c.2])) ∘ pairM) x = decide (x = c) := pair_meq x c
      rw [e]
      by_cases h : x = c
      · simp [h]
      · have h' : ¬ c = x := fun z => h z.symm
        simp [h, h']
  exact this fl
theorem sum_const {α : Type} (n : Nat) (f : α → List Nat) (xs : List α) (h : ∀ x ∈ xs, (f x).length = n) : ((xs.map f).map List.length).sum = xs.length * n := by
  induction xs with
  | nil => simp
  | cons x xs ih =>
    rw [List.map_cons, List.map_cons, List.sum_cons, ih fun y hy => h y (List.mem_cons_of_mem _ hy), h x List.mem_cons_self, List.length_cons, Nat.succ_mul]
    omega
theorem rowD_len (fl : List Cel) (w y : Nat) : (rowD fl w y).length = w := by simp [rowD]
theorem rowD_join {fl : List Cel} {w y : Nat} {h : MH} (l : w < 1000) : joinM [] h [.lst ((List.range w).map fun x : Nat => .str [sgC (decide (((x : Int), (y : Int)) ∈ fl))])] = some (.str (rowD fl w y)) := by
  have e : (List.range w).map (fun x : Nat => MV.str [sgC (decide (((x : Int), (y : Int)) ∈ fl))]) = ((rowD fl w y).map fun c => [c]).map .str := by
    simp [rowD]
  have z : zl = 16777216 := rfl
  rw [e, join_M]
  · rw [joinL_one]
  · rw [sum_const 1 _ _ (fun _ _ => rfl), rowD_len]
    simp
    omega
theorem rowsD_join {fl : List Cel} {h : MH} (F : Fin fl) : joinM [10] h [.lst ((rowsD fl).reverse.map .str)] = some (.str (drawL fl)) := by
  have z : zl = 16777216 := rfl
  have w1 : wid fl ≤ 700 := by have := F.mx1; unfold wid; omega
  have w2 : hgt fl ≤ 700 := by have := F.mx2; unfold hgt; omega
  refine join_M ?_
  have e : ((rowsD fl).reverse.map List.length).sum = hgt fl * wid fl := by
    rw [List.map_reverse, List.sum_reverse]
    unfold rowsD
    rw [sum_const (wid fl) _ _ fun y _ => rowD_len fl _ y]
    simp
  rw [e]
  have := Nat.mul_le_mul w2 w1
  have l : (rowsD fl).reverse.length = hgt fl := by simp [rowsD]
  rw [l]
  simp
  omega
theorem drawn_ok {fl : List Cel} {h : MH} (F : Fin fl) : F_drawn [FL fl] h = .ok (.str (drawL fl)) h := by
  have z : zl = 16777216 := rfl
  have m1 := F.mx1
  have m2 := F.mx2
  have fl0 := F.l
  have c1 := compO_data (vs := [4]) (fi := itAny (varE 0)) (t := nameT 4) (f := bin2 ixDM (peekE 4) (cE (.int 0))) (σ := [.val (FL fl), .un, .un, .un, .un, .un, .un]) (h := h) (xs := fl) pairM (fun c => .int c.1) (by simp [FL]) (by omega) (fun x hx => ⟨_, rfl, by simp [pairM, wipeM]⟩)
  have c2 := compO_data (vs := [4]) (fi := itAny (varE 0)) (t := nameT 4) (f := bin2 ixDM (peekE 4) (cE (.int 1))) (σ := [.val (FL fl), .un, .un, .un, .un, .un, .un]) (h := h) (xs := fl) pairM (fun c => .int c.2) (by simp [FL]) (by omega) (fun x hx => ⟨_, rfl, by simp [pairM, wipeM]⟩)
  have x1 : maxM h [.lst (fl.map fun c => MV.int c.1)] = some (.int (mx (fl.map (·.1)))) := by
    rw [← maxM_ints (ns := fl.map (·.1)) h (by simpa using F.ne), List.map_map]
    rfl
  have x2 : maxM h [.lst (fl.map fun c => MV.int c.2)] = some (.int (mx (fl.map (·.2)))) := by
    rw [← maxM_ints (ns := fl.map (·.2)) h (by simpa using F.ne), List.map_map]
    rfl
  have ew : (wid fl : Int) = mx (fl.map (·.1)) + 1 := by unfold wid; omega
  have eh : (hgt fl : Int) = mx (fl.map (·.2)) + 1 := by unfold hgt; omega
  have w1 : wid fl ≤ 700 := by unfold wid; omega
  have w2 : hgt fl ≤ 700 := by unfold hgt; omega
  have inner : ∀ (y : Nat) (s5 : SV), compO [6] (itB rng1M (consA (varE 1) nilA)) (nameT 6) yesT (ifE (tstE (bin2 inM (tupE (consA (varE 6) (consA (varE 5) nilA))) (peekE 0))) (cE (.str [35])) (cE (.str [46]))) [.val (FL fl), .val (.int (wid fl)), .val (.int (hgt fl)), .un, .un, .val (.int y), s5] h = .ok ((List.range (wid fl)).map fun x : Nat => .str [sgC (decide (((x : Int), (y : Int)) ∈ fl))]) h := by
    intro y s5
    refine compO_data (xs := List.range (wid fl)) (fun x : Nat => .int x) _ ?_ (by simp; omega) fun x hx => ⟨_, rfl, ?_⟩
    · simp [rng1_nat (show wid fl ≤ zl by omega)]
    · have i := in_FL ((x : Int), (y : Int)) fl h
      simp [wipeM, i]
      by_cases c : ((x : Int), (y : Int)) ∈ fl <;> simp [c, sgC]
  have outer := compO_data (vs := [5]) (fi := itB rng1M (consA (varE 2) nilA)) (t := nameT 5) (f := strE (cE (.str [])) fun s => un1 (fun h x => joinM s h [x]) (wrapL (compO [6] (itB rng1M (consA (varE 1) nilA)) (nameT 6) yesT (ifE (tstE (bin2 inM (tupE (consA (varE 6) (consA (varE 5) nilA))) (peekE 0))) (cE (.str [35])) (cE (.str [46]))))))
    (σ := [.val (FL fl), .val (.int (wid fl)), .val (.int (hgt fl)), .un, .un, .un, .un]) (h := h) (xs := List.range (hgt fl)) (fun y : Nat => .int y) (fun y => .str (rowD fl (wid fl) y)) (by simp [rng1_nat (show hgt fl ≤ zl by omega)]) (by simp; omega) (fun y hy => ⟨_, rfl, by
      simp [wipeM, inner, rowD_join (show wid fl < 1000 by omega)]⟩)
  have ej := rowsD_join (h := h) F
  have er : (List.range (hgt fl)).map (fun y => MV.str (rowD fl (wid fl) y)) = (rowsD fl).map .str := by simp [rowsD]
  unfold F_drawn b_drawn
  rw [bodyF_at]
  simp [c1, c2, x1, x2]
  rw [← ew, ← eh, outer, er]
  simp [revVM]
  rw [← List.map_reverse, ej]
  simp
end K83
end P_U3
section P_U4
set_option Elab.async false
set_option linter.all false
set_option maxRecDepth 100000
set_option maxHeartbeats 4000000
set_option exponentiation.threshold 10000
/-! U4: the law's drawing; texts split; the cells of a text -/
namespace Mi
open PySem PySem.Spec PyProof.Rows L2 TL
/-- a text split at its line ends -/
def splN : List Nat → List (List Nat)
  | [] => [[]]
  | c :: cs => if c = 10 then [] :: splN cs else match splN cs with
    | [] => [[c]]
    | p :: ps => (c :: p) :: ps
theorem splN_ne : ∀ s : List Nat, splN s ≠ []
  | [] => fun z => nomatch z
  | c :: cs => by
    unfold splN
    split
    · exact fun z => nomatch z
    · split <;> exact fun z => nomatch z
theorem splN_join : ∀ s : List Nat, joinL [10] (splN s) = s
  | [] => rfl
  | c :: cs => by
    have ih := splN_join cs
    have ne := splN_ne cs
    unfold splN
    cases e : splN cs with
    | nil => exact absurd e ne
    | cons p ps =>
      rw [e] at ih
      by_cases h : c = 10
      · subst h
        rw [if_pos rfl]
        show [] ++ ([10] ++ joinL [10] (p :: ps)) = _
        rw [ih]
        rfl
      · rw [if_neg h]
        cases ps with
        | nil =>
          show c :: p = _
          have : p = cs := ih
          rw [this]
        | cons q r =>
          show (c :: p) ++ ([10] ++ joinL [10] (q :: r)) = _
          have : p ++ ([10] ++ joinL [10] (q :: r)) = cs := ih
          rw [List.cons_append, this]
theorem splN_no : ∀ s : List Nat, ∀ p ∈ splN s, 10 ∉ p
  | [], p, h => by
    rw [List.mem_singleton.mp h]
    exact fun z => nomatch z
  | c :: cs, p, h => by
    have ih := splN_no cs
    unfold splN at h
    split at h
    · rcases List.mem_cons.mp h with e | h
      · rw [e]; exact fun z => nomatch z
      · exact ih p h
    · rename_i hc
      split at h
      · rw [List.mem_singleton.mp h]
        intro z
        exact hc (List.mem_singleton.mp z).symm
      · rename_i q qs e
        rcases List.mem_cons.mp h with e2 | h
        · rw [e2]
          intro z
          rcases List.mem_cons.mp z with z | z
          · exact hc z.symm
          · exact ih q (by rw [e]; exact List.mem_cons_self) z
        · exact ih p (by rw [e]; exact List.mem_cons_of_mem _ h)
theorem splN_of : ∀ {ps : List (List Nat)}, ps ≠ [] → (∀ p ∈ ps, 10 ∉ p) → splN (joinL [10] ps) = ps := by
  have one : ∀ p : List Nat, 10 ∉ p → splN p = [p] := by
    intro p
    induction p with
    | nil => intro _; rfl
    | cons c cs ih =>
      intro h
      have hc : c ≠ 10 := fun z => h (by rw [z]; exact List.mem_cons_self)
      unfold splN
      rw [if_neg hc, ih fun z => h (List.mem_cons_of_mem _ z)]
  have app : ∀ (p r : List Nat), 10 ∉ p → splN (p ++ (10 :: r)) = p :: splN r := by
    intro p r
    induction p with
    | nil => intro _; show (if (10 : Nat) = 10 then _ else _) = _; rw [if_pos rfl]
    | cons c cs ih =>
      intro h
      have hc : c ≠ 10 := fun z => h (by rw [z]; exact List.mem_cons_self)
      show (if c = 10 then [] :: splN (cs ++ 10 :: r) else match splN (cs ++ 10 :: r) with
        | [] => [[c]]
        | p :: ps => (c :: p) :: ps) = _
      rw [if_neg hc, ih fun z => h (List.mem_cons_of_mem _ z)]
  intro ps
  induction ps with
  | nil => intro h; exact absurd rfl h
  | cons p ps ih =>
    intro _ h
    cases ps with
    | nil => exact one p (h p List.mem_cons_self)
    | cons q r =>
      show splN (p ++ ([10] ++ joinL [10] (q :: r))) = _
      rw [List.singleton_append, app _ _ (h p List.mem_cons_self), ih (fun z => nomatch z) fun x hx => h x (List.mem_cons_of_mem _ hx)]
theorem splN_len (s : List Nat) : (splN s).length ≤ s.length + 1 := by
  induction s with
  | nil => exact Nat.le_refl _
  | cons c cs ih =>
    unfold splN
    split
    · simp; omega
    · split
      · simp
      · rename_i e
        rw [e] at ih
        simp at ih ⊢
        omega
theorem splN_part (s : List Nat) : ∀ p ∈ splN s, p.length ≤ s.length := by
  induction s with
  | nil => intro p h; rw [List.mem_singleton.mp h]; exact Nat.le_refl _
  | cons c cs ih =>
    intro p h
    unfold splN at h
    split at h
    · rcases List.mem_cons.mp h with e | h
      · rw [e]; exact Nat.zero_le _
      · exact Nat.le_succ_of_le (ih p h)
    · split at h
      · rw [List.mem_singleton.mp h]; simp
      · rename_i q qs e
        rcases List.mem_cons.mp h with e2 | h
        · rw [e2]
          have := ih q (by rw [e]; exact List.mem_cons_self)
          simp
          exact this
        · exact Nat.le_succ_of_le (ih p (by rw [e]; exact List.mem_cons_of_mem _ h))
theorem split10 {t : List Nat} {h : MH} (l : t.length ≤ 1000000) : splitM t h [.str [10]] = some ((splN t).map .str) := by
  have z : zl = 16777216 := rfl
  have := splN_len t
  exact split_M (S := []) (splN_join t).symm (by decide) (splN_ne t) (splN_no t) (by omega) (by omega)
end Mi
namespace K83
open PySem PySem.Spec PyProof.Rows L2 Mi TL
def bLD : SM := (mutS 1 appendM (consA (strE (cE (.str [])) fun s => un1 (fun h x => joinM s h [x]) (wrapL (compO [4] (itB rng1M (consA (bin2 addM (callB maxM (consA (wrapL (compO [3] (itAny (varE 0)) (nameT 3) yesT (bin2 ixDM (peekE 3) (cE (.int 0))))) nilA)) (cE (.int 1))) nilA)) (nameT 4) yesT (ifE (tstE (bin2 inM (tupE (consA (varE 4) (consA (varE 2) nilA))) (peekE 0))) (cE (.str [35])) (cE (.str [46])))))) nilA))
theorem lawdrawn_ok {fl : List Cel} {h : MH} (F : Fin fl) : F__law_drawn [FL fl] h = .ok (.str (drawL fl)) h := by
  have z : zl = 16777216 := rfl
  have m1 := F.mx1
  have m2 := F.mx2
  have fl0 := F.l
  have ew : (wid fl : Int) = mx (fl.map (·.1)) + 1 := by unfold wid; omega
  have eh : (hgt fl : Int) = mx (fl.map (·.2)) + 1 := by unfold hgt; omega
  have w1 : wid fl ≤ 700 := by unfold wid; omega
  have w2 : hgt fl ≤ 700 := by unfold hgt; omega
  have c2 := compO_data (vs := [3]) (fi := itAny (varE 0)) (t := nameT 3) (f := bin2 ixDM (peekE 3) (cE (.int 1))) (σ := [.val (FL fl), .own [], .un, .un, .un]) (h := h) (xs := fl) pairM (fun c => .int c.2) (by simp [FL]) (by omega) (fun x hx => ⟨_, rfl, by simp [pairM, wipeM]⟩)
  have c1 : ∀ (o : SV) (s2 : SV), compO [3] (itAny (varE 0)) (nameT 3) yesT (bin2 ixDM (peekE 3) (cE (.int 0))) [.val (FL fl), o, s2, .un, .un] h = .ok (fl.map fun c => .int c.1) h := fun o s2 => compO_data (vs := [3]) (fi := itAny (varE 0)) (t := nameT 3) (f := bin2 ixDM (peekE 3) (cE (.int 0))) (σ := [.val (FL fl), o, s2, .un, .un]) (h := h) (xs := fl) pairM (fun c => .int c.1) (by simp [FL]) (by omega) (fun x hx => ⟨_, rfl, by simp [pairM, wipeM]⟩)
  have x1 : maxM h [.lst (fl.map fun c => MV.int c.1)] = some (.int (mx (fl.map (·.1)))) := by
    rw [← maxM_ints (ns := fl.map (·.1)) h (by simpa using F.ne), List.map_map]
    rfl
  have x2 : maxM h [.lst (fl.map fun c => MV.int c.2)] = some (.int (mx (fl.map (·.2)))) := by
    rw [← maxM_ints (ns := fl.map (·.2)) h (by simpa using F.ne), List.map_map]
    rfl
  have inner : ∀ (y : Nat) (o : SV), compO [4] (itB rng1M (consA (bin2 addM (callB maxM (consA (wrapL (compO [3] (itAny (varE 0)) (nameT 3) yesT (bin2 ixDM (peekE 3) (cE (.int 0))))) nilA)) (cE (.int 1))) nilA)) (nameT 4) yesT (ifE (tstE (bin2 inM (tupE (consA (varE 4) (consA (varE 2) nilA))) (peekE 0))) (cE (.str [35])) (cE (.str [46]))) [.val (FL fl), o, .val (.int y), .un, .un] h = .ok ((List.range (wid fl)).map fun x : Nat => .str [sgC (decide (((x : Int), (y : Int)) ∈ fl))]) h := by
    intro y o
    refine compO_data (xs := List.range (wid fl)) (fun x : Nat => .int x) _ ?_ (by simp; omega) fun x hx => ⟨_, rfl, ?_⟩
    · simp [c1, x1]
      rw [← ew, rng1_nat (show wid fl ≤ zl by omega)]
      rfl
    · have i := in_FL ((x : Int), (y : Int)) fl h
      simp [wipeM, i]
      by_cases c : ((x : Int), (y : Int)) ∈ fl <;> simp [c, sgC]
  obtain ⟨σ', h', e, rfl, s2, rfl, _⟩ := forL_inv (α := Nat) (t := nameT 2) (b := bLD) (fun y => .int y)
    (fun pre post σ h' => h' = h ∧ ∃ s2 : SV, σ = [.val (FL fl), .own (pre.map fun y => .str (rowD fl (wid fl) y)), s2, .un, .un] ∧ pre.length + post.length = hgt fl)
    (by
      rintro pre y post σ h' ⟨rfl, s2, rfl, hl⟩
      refine ⟨_, rfl, ?_⟩
      refine ⟨[.val (FL fl), .own ((pre ++ [y]).map fun y => .str (rowD fl (wid fl) y)), .val (.int y), .un, .un], h', .inl ?_, rfl, _, rfl, by simp at hl ⊢; omega⟩
      unfold bLD
      have hl2 : pre.length < 1000 := by simp at hl; omega
      have hl3 : pre.length < zl := by omega
      simp [inner, rowD_join (show wid fl < 1000 by omega), appendM, hl3])
    (List.range (hgt fl)) [] [.val (FL fl), .own [], .un, .un, .un] h ⟨rfl, _, rfl, by simp⟩
  have ej := rowsD_join (h := h') F
  have er : (List.range (hgt fl)).map (fun y => MV.str (rowD fl (wid fl) y)) = (rowsD fl).map .str := by simp [rowsD]
  unfold F__law_drawn b__law_drawn
  rw [bodyF_at]
  unfold bLD at e
  simp [c2, x2, -mutS_at]
  rw [← eh, rng1_nat (show hgt fl ≤ zl by omega)]
  simp [-mutS_at]
  rw [e]
  simp only [List.nil_append]
  rw [er]
  simp [revVM]
  rw [← List.map_reverse, ej]
  simp
end K83
end P_U4
section P_U5
set_option Elab.async false
set_option linter.all false
set_option maxRecDepth 100000
set_option maxHeartbeats 4000000
set_option exponentiation.threshold 10000
/-! U5: the cells of a text -/
namespace K83
open PySem PySem.Spec PyProof.Rows L2 Mi TL
def cellsR (y : Nat) (row : List Nat) : List Cel := (row.zipIdx.filter fun p => p.1 == 35).map fun p => ((p.2 : Int), (y : Int))
def cellsOf (t : List Nat) : List Cel := (splN t).reverse.zipIdx.flatMap fun p => cellsR p.2 p.1
/-- a text of signs -/
def Txo (t : List Nat) : Prop := (∀ c ∈ t, c < 0x110000) ∧ t.length ≤ 100000
theorem zipIdx_map {α β : Type} (f : α → β) : ∀ (l : List α) (k : Nat), (l.map f).zipIdx k = (l.zipIdx k).map fun p => (f p.1, p.2)
  | [], _ => rfl
  | x :: l, k => by
    rw [List.map_cons, List.zipIdx_cons, List.zipIdx_cons, List.map_cons, zipIdx_map f l (k + 1)]
theorem enum_str (row : List Nat) : enumM [.str row] = some (row.zipIdx.map fun p => .tup [.int (p.2 : Nat), .str [p.1]]) := by
  show some (enumL _) = _
  unfold enumL
  rw [zipIdx_map, List.map_map]
  rfl
theorem enum_strs (rows : List (List Nat)) : enumM [.lst (rows.map .str)] = some (rows.zipIdx.map fun p => .tup [.int (p.2 : Nat), .str p.1]) := by
  show some (enumL _) = _
  unfold enumL
  rw [zipIdx_map, List.map_map]
  rfl
theorem sum_splN : ∀ s : List Nat, ((splN s).map List.length).sum ≤ s.length
  | [] => Nat.le_refl _
  | c :: cs => by
    have ih := sum_splN cs
    unfold splN
    split
    · simp
      omega
    · split
      · simp
      · rename_i e
        rw [e] at ih
        simp at ih ⊢
        omega
theorem cellsR_len (y : Nat) (row : List Nat) : (cellsR y row).length ≤ row.length := by
  unfold cellsR
  rw [List.length_map]
  refine Nat.le_trans (List.length_filter_le _ _) ?_
  simp
theorem flat_len {α : Type} (f : α → Nat → List Cel) (len : α → Nat) (hf : ∀ a y, (f a y).length ≤ len a) : ∀ (l : List α) (k : Nat), ((l.zipIdx k).flatMap fun p => f p.1 p.2).length ≤ (l.map len).sum
  | [], _ => Nat.le_refl _
  | x :: l, k => by
    rw [List.zipIdx_cons, List.flatMap_cons, List.length_append, List.map_cons, List.sum_cons]
    exact Nat.add_le_add (hf x k) (flat_len f len hf l (k + 1))
theorem cellsOf_len (t : List Nat) : (cellsOf t).length ≤ t.length := by
  unfold cellsOf
  refine Nat.le_trans (flat_len (fun row y => cellsR y row) List.length (fun a y => cellsR_len y a) _ 0) ?_
  rw [List.map_reverse, List.sum_reverse]
  exact sum_splN t
theorem mem_cellsR {y : Nat} {row : List Nat} {c : Cel} : c ∈ cellsR y row ↔ ∃ x : Nat, row[x]? = some 35 ∧ c = ((x : Int), (y : Int)) := by
  unfold cellsR
  rw [List.mem_map]
  constructor
  · rintro ⟨⟨v, x⟩, h, rfl⟩
    obtain ⟨h1, h2⟩ := List.mem_filter.mp h
    have h2 : v = 35 := by simpa using h2
    subst h2
    have := List.mem_zipIdx_iff_getElem?.mp h1
    exact ⟨x, this, rfl⟩
  · rintro ⟨x, h, rfl⟩
    exact ⟨(35, x), List.mem_filter.mpr ⟨List.mem_zipIdx_iff_getElem?.mpr h, rfl⟩, rfl⟩
theorem mem_cellsOf {t : List Nat} {c : Cel} : c ∈ cellsOf t ↔ ∃ (y x : Nat) (row : List Nat), (splN t).reverse[y]? = some row ∧ row[x]? = some 35 ∧ c = ((x : Int), (y : Int)) := by
  unfold cellsOf
  rw [List.mem_flatMap]
  constructor
  · rintro ⟨⟨row, y⟩, h, hc⟩
    obtain ⟨x, h1, h2⟩ := mem_cellsR.mp hc
    exact ⟨y, x, row, List.mem_zipIdx_iff_getElem?.mp h, h1, h2⟩
  · rintro ⟨y, x, row, h1, h2, h3⟩
    exact ⟨(row, y), List.mem_zipIdx_iff_getElem?.mpr h1, mem_cellsR.mpr ⟨x, h2, h3⟩⟩
theorem nodup_zip {α : Type} : ∀ (l : List α) (k : Nat), ((l.zipIdx k).map (·.2)).Nodup := by
  intro l k
  rw [List.zipIdx_map_snd]
  exact List.nodup_range'
theorem cellsR_nodup (y : Nat) (row : List Nat) : (cellsR y row).Nodup := by
  unfold cellsR
  have h : ((row.zipIdx.filter fun p => p.1 == 35).map (·.2)).Nodup := (nodup_zip row 0).sublist (List.filter_sublist.map _)
  have e : (row.zipIdx.filter fun p => p.1 == 35).map (fun p => ((p.2 : Int), (y : Int))) = ((row.zipIdx.filter fun p => p.1 == 35).map (·.2)).map fun x : Nat => ((x : Int), (y : Int)) := by
    rw [List.map_map]
    rfl
  rw [e]
  refine List.Pairwise.map _ (fun a b hab z => hab ?_) h
  have h1 : (a : Int) = (b : Int) := congrArg Prod.fst z
  exact Int.ofNat.inj h1
theorem cellsOf_nodup (t : List Nat) : (cellsOf t).Nodup := by
  unfold cellsOf
  generalize (splN t).reverse = rows
  have go : ∀ (rows : List (List Nat)) (k : Nat), ((rows.zipIdx k).flatMap fun p => cellsR p.2 p.1).Nodup ∧ ∀ c ∈ (rows.zipIdx k).flatMap fun p => cellsR p.2 p.1, (k : Int) ≤ c.2 := by
    intro rows
    induction rows with
    | nil => intro k; exact ⟨List.nodup_nil, fun c h => (List.not_mem_nil h).elim⟩
    | cons r rows ih =>
      intro k
      obtain ⟨h1, h2⟩ := ih (k + 1)
      rw [List.zipIdx_cons, List.flatMap_cons]
      refine ⟨List.nodup_append.mpr ⟨cellsR_nodup k r, h1, fun a ha b hb z => ?_⟩, fun c hc => ?_⟩
      · subst z
        obtain ⟨x, _, e⟩ := mem_cellsR.mp ha
        have := h2 a hb
        rw [e] at this
        simp at this
        omega
      · rcases List.mem_append.mp hc with hc | hc
        · obtain ⟨x, _, e⟩ := mem_cellsR.mp hc
          rw [e]
          exact Int.le_refl _
        · have := h2 c hc
          omega
  exact (go rows 0).1
theorem cellsOf_rng {t : List Nat} {c : Cel} (h : c ∈ cellsOf t) : 0 ≤ c.1 ∧ c.1 < t.length ∧ 0 ≤ c.2 ∧ c.2 < t.length + 1 := by
  obtain ⟨y, x, row, h1, h2, rfl⟩ := mem_cellsOf.mp h
  have l1 := (List.getElem?_eq_some_iff.mp h1).1
  have l2 := (List.getElem?_eq_some_iff.mp h2).1
  have m := List.mem_of_getElem? h1
  have p := splN_part t row (List.mem_reverse.mp m)
  have q := splN_len t
  rw [List.length_reverse] at l1
  simp
  omega
/-! one row walked -/
theorem hash_eq {c : Nat} (h : c < 0x110000) (hm : MH) : eqM hm (.str [c]) (.str [35]) = some (.bl (c == 35)) := by
  unfold eqM
  rw [if_pos ⟨by simp [okV]; exact h, rfl⟩]
  simp only [meq]
  congr 2
  by_cases e : c = 35 <;> simp [e]
theorem row_comp {row : List Nat} {y : Nat} {σ : Sl} {h : MH} (hl : σ.length = 6) (h2 : σ[2]? = some (.val (.int (y : Nat)))) (h3 : σ[3]? = some (.val (.str row))) (T : Txo row) :
    compO [4, 5] (itB enumM (consA (varE 3) nilA)) (tupT 2 (consT (nameT 4) (consT (nameT 5) nilT))) (tstE (bin2 eqM (peekE 5) (cE (.str [35])))) (tupE (consA (varE 4) (consA (varE 2) nilA))) σ h = .ok ((cellsR y row).map pairM) h := by
  have z : zl = 16777216 := rfl
  have e := compO_filter (vs := [4, 5]) (fi := itB enumM (consA (varE 3) nilA)) (t := tupT 2 (consT (nameT 4) (consT (nameT 5) nilT))) (c := tstE (bin2 eqM (peekE 5) (cE (.str [35])))) (f := tupE (consA (varE 4) (consA (varE 2) nilA)))
    (σ := σ) (h := h) (xs := row.zipIdx) (fun p => .tup [.int (p.2 : Nat), .str [p.1]]) (fun p => p.1 == 35) (fun p => pairM ((p.2 : Int), (y : Int))) (by simp [h3, enum_str]) (by simp; have := T.2; omega) (fun p hp => by
      match σ, hl, h2, h3 with
      | [s0, s1, s2, s3, s4, s5], _, h2, h3 =>
        simp at h2 h3
        subst h2 h3
        refine ⟨_, rfl, ?_, fun _ => ?_⟩
        · have hc : p.1 < 0x110000 := T.1 _ (by
            have := List.mem_zipIdx_iff_getElem?.mp hp
            exact List.mem_of_getElem? this)
          simp [wipeM, hash_eq hc]
        · simp [wipeM, pairM])
  rw [e]
  unfold cellsR
  rw [List.map_map]
  rfl
theorem Txo.row {t row : List Nat} (T : Txo t) (h : row ∈ splN t) : Txo row := by
  refine ⟨fun c hc => T.1 c ?_, Nat.le_trans (splN_part t row h) T.2⟩
  have go : ∀ (ps : List (List Nat)), row ∈ ps → ∀ c ∈ row, c ∈ joinL [10] ps := by
    intro ps
    induction ps with
    | nil => intro h; cases h
    | cons p ps ih =>
      intro h c hc
      cases ps with
      | nil =>
        rw [List.mem_singleton.mp h] at hc
        exact hc
      | cons q r =>
        show c ∈ p ++ ([10] ++ joinL [10] (q :: r))
        rcases List.mem_cons.mp h with e | h
        · rw [e] at hc
          exact List.mem_append_left _ hc
        · exact List.mem_append_right _ (List.mem_append_right _ (ih h c hc))
  have := go _ h c hc
  rw [splN_join] at this
  exact this
def bRF : SM := mutS 1 extendM (consA (wrapL (compO [4, 5] (itB enumM (consA (varE 3) nilA)) (tupT 2 (consT (nameT 4) (consT (nameT 5) nilT))) (tstE (bin2 eqM (peekE 5) (cE (.str [35])))) (tupE (consA (varE 4) (consA (varE 2) nilA))))) nilA)
def bDu : SM := setS 1 (bin2 addM (peekE 1) (wrapL (compO [4, 5] (itB enumM (consA (varE 3) nilA)) (tupT 2 (consT (nameT 4) (consT (nameT 5) nilT))) (tstE (bin2 eqM (peekE 5) (cE (.str [35])))) (tupE (consA (varE 4) (consA (varE 2) nilA))))))
theorem flat_take {rows : List (List Nat)} : ∀ (pre post : List (List Nat × Nat)), pre ++ post = rows.zipIdx → (pre.flatMap fun p => cellsR p.2 p.1).length ≤ (rows.zipIdx.flatMap fun p => cellsR p.2 p.1).length := by
  intro pre post e
  rw [← e, List.flatMap_append, List.length_append]
  omega
/-- all rows, the list changed in place -/
theorem rows_RF {t : List Nat} {h : MH} (T : Txo t) (m0 : MV) : ∃ (s2 s3 : SV), forL (tupT 2 (consT (nameT 2) (consT (nameT 3) nilT))) bRF ((splN t).reverse.zipIdx.map fun p => .tup [.int (p.2 : Nat), .str p.1]) [.val m0, .own [], .un, .un, .un, .un] h = .nx [.val m0, .own ((cellsOf t).map pairM), s2, s3, .un, .un] h := by
  have z : zl = 16777216 := rfl
  have lc := cellsOf_len t
  obtain ⟨σ', h', e, rfl, _, s2, s3, rfl⟩ := forL_inv (α := List Nat × Nat) (t := tupT 2 (consT (nameT 2) (consT (nameT 3) nilT))) (b := bRF) (fun p => .tup [.int (p.2 : Nat), .str p.1])
    (fun pre post σ h' => h' = h ∧ pre ++ post = (splN t).reverse.zipIdx ∧ ∃ (s2 s3 : SV), σ = [.val m0, .own ((pre.flatMap fun p => cellsR p.2 p.1).map pairM), s2, s3, .un, .un])
    (by
      rintro pre ⟨row, y⟩ post σ h' ⟨rfl, he, s2, s3, rfl⟩
      refine ⟨_, rfl, ?_⟩
      have hm : (row, y) ∈ (splN t).reverse.zipIdx := by rw [← he]; simp
      have hr : row ∈ splN t := List.mem_reverse.mp (List.mem_of_getElem? (List.mem_zipIdx_iff_getElem?.mp hm))
      have l1 := flat_take (rows := (splN t).reverse) (pre ++ [(row, y)]) post (by simpa using he)
      have l2 : (cellsOf t).length ≤ 100000 := Nat.le_trans lc T.2
      have l3 : ((pre ++ [(row, y)]).flatMap fun p => cellsR p.2 p.1).length ≤ 100000 := Nat.le_trans l1 l2
      rw [List.flatMap_append, List.length_append] at l3
      refine ⟨[.val m0, .own (((pre ++ [(row, y)]).flatMap fun p => cellsR p.2 p.1).map pairM), .val (.int (y : Nat)), .val (.str row), .un, .un], h', .inl ?_, rfl, by simpa using he, _, _, rfl⟩
      unfold bRF
      have rc := row_comp (row := row) (y := y) (σ := [.val m0, .own ((pre.flatMap fun p => cellsR p.2 p.1).map pairM), .val (.int (y : Nat)), .val (.str row), .un, .un]) (h := h') rfl rfl rfl (T.row hr)
      have le : ((pre.flatMap fun p => cellsR p.2 p.1).map pairM).length + ((cellsR y row).map pairM).length ≤ zl := by
        simp only [List.length_map]
        simp at l3
        simp
        omega
      simp only [List.set_cons_succ, List.set_cons_zero]
      rw [mutS_at (ys := (pre.flatMap fun p => cellsR p.2 p.1).map pairM) (hy := rfl)]
      simp only [consA_at, wrapL_at, nilA_at]
      rw [rc]
      simp only [bindR_ok, bindFl_ok]
      unfold extendM
      dsimp only
      rw [if_pos le]
      simp)
    ((splN t).reverse.zipIdx) [] [.val m0, .own [], .un, .un, .un, .un] h ⟨rfl, rfl, _, _, rfl⟩
  exact ⟨s2, s3, by simpa [cellsOf] using e⟩
theorem rows_Du {t : List Nat} {h : MH} (T : Txo t) (m0 : MV) : ∃ (s2 s3 : SV), forL (tupT 2 (consT (nameT 2) (consT (nameT 3) nilT))) bDu ((splN t).reverse.zipIdx.map fun p => .tup [.int (p.2 : Nat), .str p.1]) [.val m0, .val (.lst []), .un, .un, .un, .un] h = .nx [.val m0, .val (FL (cellsOf t)), s2, s3, .un, .un] h := by
  have z : zl = 16777216 := rfl
  have lc := cellsOf_len t
  obtain ⟨σ', h', e, rfl, _, s2, s3, rfl⟩ := forL_inv (α := List Nat × Nat) (t := tupT 2 (consT (nameT 2) (consT (nameT 3) nilT))) (b := bDu) (fun p => .tup [.int (p.2 : Nat), .str p.1])
    (fun pre post σ h' => h' = h ∧ pre ++ post = (splN t).reverse.zipIdx ∧ ∃ (s2 s3 : SV), σ = [.val m0, .val (FL (pre.flatMap fun p => cellsR p.2 p.1)), s2, s3, .un, .un])
    (by
      rintro pre ⟨row, y⟩ post σ h' ⟨rfl, he, s2, s3, rfl⟩
      refine ⟨_, rfl, ?_⟩
      have hm : (row, y) ∈ (splN t).reverse.zipIdx := by rw [← he]; simp
      have hr : row ∈ splN t := List.mem_reverse.mp (List.mem_of_getElem? (List.mem_zipIdx_iff_getElem?.mp hm))
      have l1 := flat_take (rows := (splN t).reverse) (pre ++ [(row, y)]) post (by simpa using he)
      have l2 : (cellsOf t).length ≤ 100000 := Nat.le_trans lc T.2
      have l3 : ((pre ++ [(row, y)]).flatMap fun p => cellsR p.2 p.1).length ≤ 100000 := Nat.le_trans l1 l2
      rw [List.flatMap_append, List.length_append] at l3
      refine ⟨[.val m0, .val (FL ((pre ++ [(row, y)]).flatMap fun p => cellsR p.2 p.1)), .val (.int (y : Nat)), .val (.str row), .un, .un], h', .inl ?_, rfl, by simpa using he, _, _, rfl⟩
      unfold bDu
      have rc := row_comp (row := row) (y := y) (σ := [.val m0, .val (FL (pre.flatMap fun p => cellsR p.2 p.1)), .val (.int (y : Nat)), .val (.str row), .un, .un]) (h := h') rfl rfl rfl (T.row hr)
      have le : ((pre.flatMap fun p => cellsR p.2 p.1).map pairM).length + ((cellsR y row).map pairM).length ≤ zl := by
        simp only [List.length_map]
        simp at l3
        simp
        omega
      simp only [List.set_cons_succ, List.set_cons_zero, setS_at, bin2_at, wrapL_at, peekE_at, List.getElem?_cons_succ, List.getElem?_cons_zero, bindR_ok]
      rw [rc]
      simp only [bindR_ok]
      unfold FL at *
      rw [add_Ml _ _ _ le]
      simp)
    ((splN t).reverse.zipIdx) [] [.val m0, .val (.lst []), .un, .un, .un, .un] h ⟨rfl, rfl, _, _, rfl⟩
  exact ⟨s2, s3, by simpa [cellsOf] using e⟩
end K83
end P_U5
section P_U6
set_option Elab.async false
set_option linter.all false
set_option maxRecDepth 100000
set_option maxHeartbeats 4000000
/-! U6: cells that hang together -/
namespace K83
def Adj (a b : Cel) : Prop := (a.1 - b.1).natAbs + (a.2 - b.2).natAbs = 1
instance (a b : Cel) : Decidable (Adj a b) := inferInstanceAs (Decidable (_ = _))
theorem Adj.symm {a b : Cel} (h : Adj a b) : Adj b a := by
  unfold Adj at *
  omega
def besideL (c : Cel) : List Cel := [(c.1 - 1, c.2), (c.1, c.2 - 1), (c.1, c.2 + 1), (c.1 + 1, c.2)]
theorem mem_beside {c d : Cel} : d ∈ besideL c ↔ Adj c d := by
  obtain ⟨x, y⟩ := c
  obtain ⟨u, v⟩ := d
  unfold besideL Adj
  simp only [List.mem_cons, List.not_mem_nil, or_false, Prod.mk.injEq]
  omega
theorem beside_nodup (c : Cel) : (besideL c).Nodup := by
  unfold besideL
  simp only [List.nodup_cons, List.mem_cons, List.not_mem_nil, or_false, Prod.mk.injEq, not_or]
  refine ⟨⟨by omega, by omega, by omega⟩, ⟨by omega, by omega⟩, by omega, by simp⟩
inductive Rch (S : List Cel) (a : Cel) : Cel → Prop
  | refl : Rch S a a
  | step {b c : Cel} : Rch S a b → c ∈ S → Adj b c → Rch S a c
/-- all hang together with the first -/
def Conn (fl : List Cel) : Prop := match fl with
  | [] => False
  | c :: _ => ∀ x ∈ fl, Rch fl c x
structure Fld (L0 : List Cel) (c0 : Cel) (left part todo : List Cel) : Prop where
  cov : ∀ x, x ∈ L0 ↔ x ∈ left ∨ x ∈ part ∨ x ∈ todo
  dis : ∀ x ∈ left, x ∉ part ∧ x ∉ todo
  rch : ∀ x, x ∈ part ∨ x ∈ todo → Rch L0 c0 x
  cls : ∀ x ∈ part, ∀ y ∈ left, ¬ Adj x y
  len : left.length + part.length + todo.length = L0.length
  nd : left.Nodup
  c0 : c0 ∈ part ∨ c0 ∈ todo
theorem len_filter_ne {L : List Cel} {c : Cel} (nd : L.Nodup) (h : c ∈ L) : (L.filter fun x => decide (x ≠ c)).length + 1 = L.length := by
  induction L with
  | nil => cases h
  | cons x L ih =>
    obtain ⟨n1, n2⟩ := List.nodup_cons.mp nd
    by_cases e : x = c
    · subst e
      have : L.filter (fun y => decide (y ≠ x)) = L := List.filter_eq_self.mpr fun y hy => by
        have : y ≠ x := fun z => n1 (z ▸ hy)
        simpa using this
      rw [List.filter_cons_of_neg (by simp), this]
      rfl
    · have hc : c ∈ L := (List.mem_cons.mp h).resolve_left fun z => e z.symm
      rw [List.filter_cons_of_pos (by simpa using e), List.length_cons, List.length_cons, ← ih n2 hc]
theorem Fld.start {L0 : List Cel} {c0 : Cel} (nd : L0.Nodup) (h : c0 ∈ L0) : Fld L0 c0 (L0.filter fun x => decide (x ≠ c0)) [] [c0] := by
  refine ⟨fun x => ?_, fun x hx => ?_, fun x hx => ?_, fun x hx => (List.not_mem_nil hx).elim, ?_, nd.filter _, .inr List.mem_cons_self⟩
  · rw [List.mem_filter, List.mem_singleton]
    by_cases e : x = c0
    · subst e; simp [h]
    · simp [e]
  · have := (List.mem_filter.mp hx).2
    exact ⟨fun z => (nomatch z), fun z => by rw [List.mem_singleton.mp z] at this; simp at this⟩
  · rcases hx with hx | hx
    · cases hx
    · rw [List.mem_singleton.mp hx]; exact .refl
  · have := len_filter_ne nd h
    simp only [List.length_nil, List.length_singleton]
    omega
/-- one neighbour is taken -/
theorem Fld.take {L0 : List Cel} {c0 here late : Cel} {left part todo : List Cel} (F : Fld L0 c0 left part todo) (hp : here ∈ part ∨ here ∈ todo) (a : Adj here late) (h : late ∈ left) :
    Fld L0 c0 (left.filter fun x => decide (x ≠ late)) part (todo ++ [late]) := by
  refine ⟨fun x => ?_, fun x hx => ?_, fun x hx => ?_, fun x hx y hy => ?_, ?_, F.nd.filter _, ?_⟩
  · rw [F.cov x, List.mem_filter, List.mem_append, List.mem_singleton]
    by_cases e : x = late
    · subst e; simp [h]
    · simp [e]
  · obtain ⟨h1, h2⟩ := List.mem_filter.mp hx
    have h2 : x ≠ late := by simpa using h2
    refine ⟨(F.dis x h1).1, fun z => ?_⟩
    rcases List.mem_append.mp z with z | z
    · exact (F.dis x h1).2 z
    · exact h2 (List.mem_singleton.mp z)
  · rcases hx with hx | hx
    · exact F.rch x (.inl hx)
    · rcases List.mem_append.mp hx with hx | hx
      · exact F.rch x (.inr hx)
      · rw [List.mem_singleton.mp hx]
        exact .step (F.rch here hp) ((F.cov late).mpr (.inl h)) a
  · exact F.cls x hx y (List.mem_filter.mp hy).1
  · have := len_filter_ne F.nd h
    have := F.len
    simp only [List.length_append, List.length_singleton]
    omega
  · rcases F.c0 with h | h
    · exact .inl h
    · exact .inr (List.mem_append_left _ h)
theorem Fld.same {L0 : List Cel} {c0 : Cel} {left part todo t2 : List Cel} (F : Fld L0 c0 left part todo) (h : ∀ x, x ∈ t2 ↔ x ∈ todo) (hl : t2.length = todo.length) : Fld L0 c0 left part t2 :=
  ⟨fun x => by rw [F.cov x, h x], fun x hx => ⟨(F.dis x hx).1, fun z => (F.dis x hx).2 ((h x).mp z)⟩, fun x hx => F.rch x (hx.imp id (h x).mp), F.cls, by rw [hl]; exact F.len, F.nd, F.c0.imp id (h c0).mpr⟩
/-- one is done: none of its neighbours is left -/
theorem Fld.pop {L0 : List Cel} {c0 here : Cel} {left part t2 : List Cel} (F : Fld L0 c0 left part (here :: t2)) (h : ∀ y ∈ left, ¬ Adj here y) : Fld L0 c0 left (part ++ [here]) t2 := by
  refine ⟨fun x => ?_, fun x hx => ?_, fun x hx => ?_, fun x hx y hy => ?_, ?_, F.nd, ?_⟩
  · rw [F.cov x]
    simp only [List.mem_append, List.mem_cons, List.not_mem_nil, or_false]
    constructor
    · rintro (h | h | h | h)
      · exact .inl h
      · exact .inr (.inl (.inl h))
      · exact .inr (.inl (.inr h))
      · exact .inr (.inr h)
    · rintro (h | (h | h) | h)
      · exact .inl h
      · exact .inr (.inl h)
      · exact .inr (.inr (.inl h))
      · exact .inr (.inr (.inr h))
  · obtain ⟨h1, h2⟩ := F.dis x hx
    refine ⟨fun z => ?_, fun z => h2 (List.mem_cons_of_mem _ z)⟩
    rcases List.mem_append.mp z with z | z
    · exact h1 z
    · exact h2 (List.mem_cons.mpr (.inl (List.mem_singleton.mp z)))
  · rcases hx with hx | hx
    · rcases List.mem_append.mp hx with hx | hx
      · exact F.rch x (.inl hx)
      · exact F.rch x (.inr (List.mem_cons.mpr (.inl (List.mem_singleton.mp hx))))
    · exact F.rch x (.inr (List.mem_cons_of_mem _ hx))
  · rcases List.mem_append.mp hx with hx | hx
    · exact F.cls x hx y hy
    · rw [List.mem_singleton.mp hx]
      exact h y hy
  · have := F.len
    simp only [List.length_append, List.length_nil, List.length_cons] at this ⊢
    omega
  · rcases F.c0 with h | h
    · exact .inl (List.mem_append_left _ h)
    · rcases List.mem_cons.mp h with h | h
      · exact .inl (List.mem_append_right _ (List.mem_singleton.mpr h))
      · exact .inr h
theorem Fld.done {L0 : List Cel} {c0 : Cel} {left part : List Cel} (F : Fld L0 c0 left part []) (x : Cel) : Rch L0 c0 x → x ∉ left := by
  intro r
  induction r with
  | refl =>
    intro z
    rcases F.c0 with h | h
    · exact (F.dis _ z).1 h
    · cases h
  | @step b c r hc a ih =>
    intro z
    have hb : b ∈ L0 := by
      cases r with
      | refl =>
        rcases F.c0 with h | h
        · exact (F.cov _).mpr (.inr (.inl h))
        · cases h
      | step _ h _ => exact h
    rcases (F.cov b).mp hb with h | h | h
    · exact ih h
    · exact F.cls b h c z a
    · cases h
/-! the law's rounds -/
structure Rnd (fl : List Cel) (near left : List Cel) : Prop where
  cov : ∀ x, x ∈ fl ↔ x ∈ near ∨ x ∈ left
  rch : ∀ x ∈ near, ∀ c, fl.head? = some c → Rch fl c x
  c0 : ∀ c, fl.head? = some c → c ∈ near
  dis : ∀ x ∈ left, x ∉ near
def isNear (near : List Cel) (x : Cel) : Bool := near.any fun y => decide (Adj y x)
theorem Rnd.turn {fl near left : List Cel} (R : Rnd fl near left) : Rnd fl (near ++ left.filter (isNear near)) (left.filter fun x => !decide (x ∈ left.filter (isNear near))) := by
  refine ⟨fun x => ?_, fun x hx c hc => ?_, fun c hc => List.mem_append_left _ (R.c0 c hc), fun x hx z => ?_⟩
  · rw [R.cov x, List.mem_append, List.mem_filter (p := fun x => !decide (x ∈ left.filter (isNear near)))]
    by_cases h : x ∈ left.filter (isNear near)
    · have := (List.mem_filter.mp h).1
      simp only [h, this, decide_true, Bool.not_true, Bool.false_eq_true, and_false, or_false, or_true]
    · simp only [h, decide_false, Bool.not_false, and_true, or_false]
  · rcases List.mem_append.mp hx with hx | hx
    · exact R.rch x hx c hc
    · obtain ⟨h1, h2⟩ := List.mem_filter.mp hx
      obtain ⟨y, hy, a⟩ := List.any_eq_true.mp h2
      exact .step (R.rch y hy c hc) ((R.cov x).mpr (.inr h1)) (of_decide_eq_true a)
  · obtain ⟨h1, h2⟩ := List.mem_filter.mp hx
    rcases List.mem_append.mp z with z | z
    · exact R.dis x h1 z
    · simp only [z, decide_true, Bool.not_true] at h2
      cases h2
theorem Rnd.stuck {fl near left : List Cel} (R : Rnd fl near left) {c : Cel} (hc : fl.head? = some c) (h : left.filter (isNear near) = []) {x : Cel} (r : Rch fl c x) : x ∈ near := by
  induction r with
  | refl => exact R.c0 c hc
  | @step b d r hd a ih =>
    rcases (R.cov d).mp hd with z | z
    · exact z
    · exfalso
      have : d ∈ left.filter (isNear near) := List.mem_filter.mpr ⟨z, List.any_eq_true.mpr ⟨b, ih, decide_eq_true a⟩⟩
      rw [h] at this
      cases this
theorem filter_shrinks {left more : List Cel} (h : more ≠ []) (hm : ∀ x ∈ more, x ∈ left) : (left.filter fun x => !decide (x ∈ more)).length < left.length := by
  cases more with
  | nil => exact absurd rfl h
  | cons m ms =>
    have hl := hm m List.mem_cons_self
    refine Nat.lt_of_le_of_ne (List.length_filter_le _ _) fun e => ?_
    have e2 := List.length_filter_eq_length_iff.mp e m hl
    simp at e2
end K83
end P_U6
section P_U7
set_option Elab.async false
set_option linter.all false
set_option maxRecDepth 100000
set_option maxHeartbeats 4000000
/-! U7: parts_there -/
namespace Mi
open PySem PySem.Spec PyProof.Rows L2
theorem methE_at (T : String) (op : MOp) (fo : EM) (fs : OM) (σ : Sl) (h : MH) : methE T op fo fs σ h = bindR (fo σ h) fun x h1 => if tyT h1 x = some T then bindR (fs σ h1) (fun xs h2 => opR (op h2 x xs)) else .no := rfl
theorem callNew_at (op : MH → List MV → Option MO) (fs : OM) (σ : Sl) (h : MH) : callNew op fs σ h = bindR (fs σ h) fun xs h1 => match op h1 xs with
  | some o => .ok (.ref h1.nx) (h1.push o)
  | none => .no := rfl
theorem popS_at (j i : Nat) (σ : Sl) (h : MH) {xs : List MV} {x : MV} (e : σ[i]? = some (.own (xs ++ [x]))) : popS j i σ h = .nx ((σ.set i (.own xs)).set j (.val x)) h := by
  unfold popS
  rw [e]
  simp
theorem MH.put_get (h : MH) (n : Nat) (o : MO) : (h.put n o).get n = some o := by
  show (if n = n then _ else _) = _
  rw [if_pos rfl]
theorem MH.put_put (h : MH) (n : Nat) (o o' : MO) : (h.put n o).put n o' = h.put n o' := by
  show MH.mk _ _ = MH.mk _ _
  congr 1
  funext k
  show (if k = n then some o' else if k = n then some o else h.get k) = _
  by_cases e : k = n
  · rw [if_pos e, if_pos e]
  · rw [if_neg e, if_neg e, if_neg e]
end Mi
namespace K83
open PySem PySem.Spec PyProof.Rows L2 Mi TL
def kC (c : Cel) : List Int := [c.1, c.2]
theorem kC_inj {a b : Cel} : kC a = kC b ↔ a = b := by
  obtain ⟨x, y⟩ := a
  obtain ⟨u, v⟩ := b
  simp [kC]
theorem mem_kC {c : Cel} {L : List Cel} : kC c ∈ L.map kC ↔ c ∈ L := by
  rw [List.mem_map]
  exact ⟨fun ⟨d, h, e⟩ => kC_inj.mp e ▸ h, fun h => ⟨c, h, rfl⟩⟩
theorem filter_kC (c : Cel) (L : List Cel) : (L.map kC).filter (fun k => decide (k ≠ kC c)) = (L.filter fun x => decide (x ≠ c)).map kC := by
  rw [List.filter_map]
  congr 1
  refine List.filter_congr fun x _ => ?_
  show decide (kC x ≠ kC c) = _
  by_cases e : x = c
  · subst e; simp
  · simp [e, kC_inj]
/-- the small heap, n being the dict of what is left -/
def hL (h : MH) (n : Nat) (L : List Cel) : MH := h.put n (.cel (L.map kC))
theorem in_cel {h : MH} {n : Nat} {L : List Cel} (c : Cel) : inCelM (hL h n L) (pairM c) (.ref n) = some (.bl (decide (c ∈ L))) := by
  unfold inCelM pairM hL
  dsimp only
  rw [MH.put_get]
  simp only [allM, unInt]
  congr 2
  show decide (kC c ∈ L.map kC) = _
  by_cases e : c ∈ L
  · simp [e, mem_kC]
  · simp [e, mem_kC]
theorem pop_cel {h : MH} {n : Nat} {L : List Cel} {c : Cel} (hc : c ∈ L) : celPopM (hL h n L) (.ref n) [pairM c] = some (.bl true, hL h n (L.filter fun x => decide (x ≠ c))) := by
  unfold celPopM pairM
  dsimp only
  unfold hL
  rw [MH.put_get]
  simp only [allM, unInt]
  have : [c.1, c.2] ∈ L.map kC := mem_kC.mpr hc
  rw [if_pos this, MH.put_put]
  have e := filter_kC c L
  unfold kC at e
  rw [show (List.map kC L) = List.map (fun c => [c.1, c.2]) L from rfl, e]
  rfl
theorem ty_cel {h : MH} {n : Nat} {L : List Cel} : tyT (hL h n L) (.ref n) = some "dict" := by
  unfold tyT hL
  dsimp only
  rw [MH.put_get]
theorem beside_ok {c : Cel} {h : MH} : F_beside [pairM c] h = .ok (.lst ((besideL c).map pairM)) h := by
  unfold F_beside b_beside
  rw [bodyF_at]
  simp [pairM, besideL]
/-- the loop over the neighbours -/
def bNb : SM := (ifS (andT (tstE (bin2 inCelM (peekE 8) (peekE 2))) (tstE (bin2 notIn0M (tupE (consA (callB minPM (consA (peekE 7) (consA (peekE 8) nilA))) (consA (callB maxPM (consA (peekE 7) (consA (peekE 8) nilA))) nilA))) (peekE 1)))) (seqS (exprS (methE "dict" celPopM (peekE 2) (consA (varE 8) nilA))) (mutS 6 appendM (consA (varE 8) nilA))) nextS)
theorem unP_pair (c : Cel) : unP (pairM c) = some c := rfl
theorem minP_pair (a b : Cel) (h : MH) : ∃ c : Cel, minPM h [pairM a, pairM b] = some (pairM c) := by
  show ∃ c : Cel, some (if DI.ltPB b a = true then pairM b else pairM a) = some (pairM c)
  by_cases e : DI.ltPB b a = true
  · exact ⟨b, by rw [if_pos e]⟩
  · exact ⟨a, by rw [if_neg e]⟩
theorem maxP_pair (a b : Cel) (h : MH) : ∃ c : Cel, maxPM h [pairM a, pairM b] = some (pairM c) := by
  show ∃ c : Cel, some (if DI.ltPB a b = true then pairM b else pairM a) = some (pairM c)
  by_cases e : DI.ltPB a b = true
  · exact ⟨b, by rw [if_pos e]⟩
  · exact ⟨a, by rw [if_neg e]⟩
/-- the slots of parts_there -/
def sP (fl : List Cel) (n : Nat) (found : List MV) (cell : MV) (part todo : List Cel) (s7 s8 : SV) : Sl := [.val (FL fl), .val (.dic []), .val (.ref n), .own found, .val cell, .own (part.map pairM), .own (todo.map pairM), s7, s8]
theorem nbs_ok {fl L0 : List Cel} {n : Nat} {found : List MV} {cell : MV} {c0 here : Cel} {h : MH} {pσ : List Cel} (l0 : L0.length ≤ 300000) : ∀ (nb : List Cel) (left part todo : List Cel) (s8 : SV), (∀ x ∈ nb, Adj here x) → Fld L0 c0 left part (here :: todo) →
    ∃ (left' todo2 : List Cel) (s8' : SV), forL (nameT 8) bNb (nb.map pairM) (sP fl n found cell pσ todo (.val (pairM here)) s8) (hL h n left) = .nx (sP fl n found cell pσ (todo ++ todo2) (.val (pairM here)) s8') (hL h n left') ∧ Fld L0 c0 left' part (here :: (todo ++ todo2)) ∧ (∀ x ∈ left', x ∈ left) ∧ ∀ x ∈ nb, x ∉ left'
  | [], left, part, todo, s8, _, F => ⟨left, [], s8, by simp, by simpa using F, fun _ h => h, fun x hx => (List.not_mem_nil hx).elim⟩
  | x :: nb, left, part, todo, s8, ha, F => by
    have z : zl = 16777216 := rfl
    rw [List.map_cons, forL_cons (ht := rfl)]
    have ty := ty_cel (h := h) (n := n) (L := left)
    have ic := in_cel (h := h) (n := n) (L := left) x
    by_cases e : x ∈ left
    · have F2 := F.take (.inr List.mem_cons_self) (ha x List.mem_cons_self) e
      obtain ⟨left', todo2, s8', h1, h2, h3, h4⟩ := nbs_ok (fl := fl) (n := n) (found := found) (cell := cell) (h := h) (pσ := pσ) l0 nb _ part (todo ++ [x]) (.val (pairM x)) (fun y hy => ha y (List.mem_cons_of_mem _ hy)) F2
      have hl : (todo.map pairM).length < zl := by
        have := F.len
        rw [List.length_cons] at this
        rw [List.length_map]
        omega
      obtain ⟨mn, hmn⟩ := minP_pair here x (hL h n left)
      obtain ⟨mxx, hmx⟩ := maxP_pair here x (hL h n left)
      have pc := pop_cel (h := h) (n := n) e
      have body : bNb (sP fl n found cell pσ todo (.val (pairM here)) (.val (pairM x))) (hL h n left) = .nx (sP fl n found cell pσ (todo ++ [x]) (.val (pairM here)) (.val (pairM x))) (hL h n (left.filter fun y => decide (y ≠ x))) := by
        unfold bNb sP
        simp [ic, e, hmn, hmx, notIn0M, unP_pair, methE_at, ty, pc, opR, appendM]
        simp at hl
        rw [if_pos hl]
      have st : (sP fl n found cell pσ todo (.val (pairM here)) s8).set 8 (.val (pairM x)) = sP fl n found cell pσ todo (.val (pairM here)) (.val (pairM x)) := rfl
      rw [st, body, turnFl_nx, h1]
      refine ⟨left', x :: todo2, s8', by simp, by simpa using h2, fun y hy => (List.mem_filter.mp (h3 y hy)).1, fun y hy => ?_⟩
      rcases List.mem_cons.mp hy with rfl | hy
      · intro z
        have := (List.mem_filter.mp (h3 y z)).2
        simp at this
      · exact h4 y hy
    · obtain ⟨left', todo2, s8', h1, h2, h3, h4⟩ := nbs_ok (fl := fl) (n := n) (found := found) (cell := cell) (h := h) (pσ := pσ) l0 nb left part todo (.val (pairM x)) (fun y hy => ha y (List.mem_cons_of_mem _ hy)) F
      have body : bNb (sP fl n found cell pσ todo (.val (pairM here)) (.val (pairM x))) (hL h n left) = .nx (sP fl n found cell pσ todo (.val (pairM here)) (.val (pairM x))) (hL h n left) := by
        unfold bNb sP
        simp [ic, e]
      have st : (sP fl n found cell pσ todo (.val (pairM here)) s8).set 8 (.val (pairM x)) = sP fl n found cell pσ todo (.val (pairM here)) (.val (pairM x)) := rfl
      rw [st, body, turnFl_nx, h1]
      refine ⟨left', todo2, s8', rfl, h2, h3, fun y hy => ?_⟩
      rcases List.mem_cons.mp hy with rfl | hy
      · exact fun z => e (h3 y z)
      · exact h4 y hy
/-- the flood -/
def cWh : TM := (tstE (bin2 neM (peekE 6) (wrapL (lstO nilA))))
def bWh : SM := (seqS (popS 7 6) (seqS (mutS 5 appendM (consA (varE 7) nilA)) (forS (nameT 8) (itAny (callE (callN 1 F_beside) [] (consA (varE 7) nilA))) bNb)))
theorem ok_pairs (L : List Cel) : okD (.lst (L.map pairM)) = true := by
  show (L.map pairM).all (okV 39) = true
  rw [List.all_map]
  exact List.all_eq_true.mpr fun x _ => rfl
theorem ne_nil (L : List Cel) (h : MH) : neM h (.lst (L.map pairM)) (.lst []) = some (.bl (decide (L ≠ []))) := by
  unfold neM
  rw [if_pos ⟨ok_pairs L, rfl⟩]
  cases L with
  | nil => rfl
  | cons x L => rfl
theorem eq_nil (L : List Cel) (h : MH) : eqM h (.lst (L.map pairM)) (.lst []) = some (.bl (decide (L = []))) := by
  unfold eqM
  rw [if_pos ⟨ok_pairs L, rfl⟩]
  cases L with
  | nil => rfl
  | cons x L => rfl
theorem flood_ok {fl L0 : List Cel} {n : Nat} {found : List MV} {cell : MV} {c0 : Cel} {h : MH} (l0 : L0.length ≤ 300000) : ∀ (m fuel : Nat) (left part todo : List Cel) (s7 s8 : SV), left.length + todo.length = m → m < fuel → Fld L0 c0 left part todo →
    ∃ (left' part' : List Cel) (s7' s8' : SV), whileL cWh bWh fuel (sP fl n found cell part todo s7 s8) (hL h n left) = .nx (sP fl n found cell part' [] s7' s8') (hL h n left') ∧ Fld L0 c0 left' part' [] ∧ (∀ x ∈ left', x ∈ left)
  | m, 0, _, _, _, _, _, _, h, _ => absurd h (Nat.not_lt_zero _)
  | m, fuel + 1, left, part, todo, s7, s8, hm, hf, F => by
    have z : zl = 16777216 := rfl
    rw [whileL_at]
    have cw : cWh (sP fl n found cell part todo s7 s8) (hL h n left) = .ok (decide (todo ≠ [])) (hL h n left) := by
      unfold cWh sP
      simp [ne_nil]
    rw [cw, bindFl_ok]
    by_cases e : todo = []
    · subst e
      simp only [ne_eq, not_true_eq_false, decide_false, Bool.false_eq_true, if_false]
      exact ⟨left, part, s7, s8, rfl, F, fun _ h => h⟩
    · rw [if_pos (by simpa using e)]
      obtain ⟨t2, here, rfl⟩ : ∃ t2 here, todo = t2 ++ [here] := ⟨todo.dropLast, todo.getLast e, (List.dropLast_concat_getLast e).symm⟩
      have F1 : Fld L0 c0 left part (here :: t2) := F.same (fun x => by simp [or_comm]) (by simp)
      obtain ⟨left', todo2, s8', h1, h2, h3, h4⟩ := nbs_ok (fl := fl) (n := n) (found := found) (cell := cell) (h := h) (pσ := part ++ [here]) l0 (besideL here) left part t2 s8 (fun x hx => mem_beside.mp hx) F1
      have F2 := h2.pop fun y hy a => h4 y (mem_beside.mpr a) hy
      have hl : (part.map pairM).length < zl := by
        have := F.len
        rw [List.length_append, List.length_singleton] at this
        rw [List.length_map]
        omega
      have body : bWh (sP fl n found cell part (t2 ++ [here]) s7 s8) (hL h n left) = .nx (sP fl n found cell (part ++ [here]) (t2 ++ todo2) (.val (pairM here)) s8') (hL h n left') := by
        unfold bWh
        rw [seqS_at, popS_at (xs := t2.map pairM) (x := pairM here) (e := by simp [sP])]
        have st : ((sP fl n found cell part (t2 ++ [here]) s7 s8).set 6 (.own (t2.map pairM))).set 7 (.val (pairM here)) = sP fl n found cell part t2 (.val (pairM here)) s8 := rfl
        rw [st, seqFl_nx, seqS_at]
        have ap : mutS 5 appendM (consA (varE 7) nilA) (sP fl n found cell part t2 (.val (pairM here)) s8) (hL h n left) = .nx (sP fl n found cell (part ++ [here]) t2 (.val (pairM here)) s8) (hL h n left) := by
          rw [mutS_at (ys := part.map pairM) (hy := rfl)]
          simp [sP, appendM]
          simp at hl
          rw [if_pos hl]
        rw [ap, seqFl_nx, forS_at]
        have it : itAny (callE (callN 1 F_beside) [] (consA (varE 7) nilA)) (sP fl n found cell (part ++ [here]) t2 (.val (pairM here)) s8) (hL h n left) = .ok ((besideL here).map pairM) (hL h n left) := by
          simp [sP, beside_ok]
        rw [it, bindFl_ok, h1]
      rw [body, turnFl_nx]
      have hm2 : left'.length + (t2 ++ todo2).length = m - 1 := by
        have a1 := F2.len
        have a2 := F.len
        simp only [List.length_append, List.length_singleton] at a1 a2 hm ⊢
        omega
      simp only [List.length_append, List.length_singleton] at hm
      obtain ⟨l3, p3, s7', s8'', g1, g2, g3⟩ := flood_ok (fl := fl) (n := n) (found := found) (cell := cell) (h := h) l0 (m - 1) fuel left' (part ++ [here]) (t2 ++ todo2) (.val (pairM here)) s8' hm2 (by omega) F2
      exact ⟨l3, p3, s7', s8'', g1, g2, fun x hx => h3 x (g3 x hx)⟩
end K83
end P_U7
section P_U8
set_option Elab.async false
set_option linter.all false
set_option maxRecDepth 100000
set_option maxHeartbeats 4000000
/-! U8: parts_there, is_floor -/
namespace K83
open PySem PySem.Spec PyProof.Rows L2 Mi TL
def bFl : SM := (seqS (par2S 5 6 (.o (lstO nilA)) (.o (lstO (consA (varE 4) nilA)))) (seqS (exprS (methE "dict" celPopM (peekE 2) (consA (varE 4) nilA))) (seqS (whileL cWh bWh 1000000) (mutS 3 appendM (consA (wrapL (callBO sortedPM (consA (peekE 5) nilA))) nilA)))))
def bCe : SM := (ifS (tstE (bin2 inCelM (peekE 4) (peekE 2))) bFl nextS)
theorem sorted_FL (L : List Cel) (h : MH) : sortedPM h [.lst (L.map pairM)] = some ((sortP L).map pairM) := by
  unfold sortedPM
  dsimp only
  rw [seqM_lst]
  dsimp only
  have e : allM unP (L.map pairM) = some (L.map id) := allM_map (f := unP) (g := pairM) (k := id) (fun x => rfl) L
  rw [e, List.map_id]
  rfl
theorem fl_ok {fl left : List Cel} {n : Nat} {found : List MV} {c : Cel} {h : MH} (s5 s6 s7 s8 : SV) (l0 : left.length ≤ 300000) (lf : found.length < 300000) (nd : left.Nodup) (hc : c ∈ left) :
    ∃ (left' part' : List Cel) (s5' s6' s7' s8' : SV), bFl [.val (FL fl), .val (.dic []), .val (.ref n), .own found, .val (pairM c), s5, s6, s7, s8] (hL h n left) = .nx [.val (FL fl), .val (.dic []), .val (.ref n), .own (found ++ [.lst ((sortP part').map pairM)]), .val (pairM c), s5', s6', s7', s8'] (hL h n left') ∧ Fld left c left' part' [] ∧ ∀ x ∈ left', x ∈ left := by
  have z : zl = 16777216 := rfl
  have F := Fld.start nd hc
  have lm : (left.filter fun x => decide (x ≠ c)).length + [c].length < 1000000 := by
    have := List.length_filter_le (fun x => decide (x ≠ c)) left
    simp only [List.length_singleton]
    omega
  obtain ⟨left', part', s7', s8', h1, h2, h3⟩ := flood_ok (fl := fl) (n := n) (found := found) (cell := pairM c) (h := h) l0 _ 1000000 _ [] [c] s7 s8 rfl lm F
  refine ⟨left', part', .own (part'.map pairM), .own [], s7', s8', ?_, h2, fun x hx => (List.mem_filter.mp (h3 x hx)).1⟩
  unfold bFl
  rw [seqS_at]
  have p2 : par2S 5 6 (.o (lstO nilA)) (.o (lstO (consA (varE 4) nilA))) [.val (FL fl), .val (.dic []), .val (.ref n), .own found, .val (pairM c), s5, s6, s7, s8] (hL h n left) = .nx (sP fl n found (pairM c) [] [c] s7 s8) (hL h n left) := by
    simp [sP]
  rw [p2, seqFl_nx, seqS_at]
  have pc := pop_cel (h := h) (n := n) hc
  have ty := ty_cel (h := h) (n := n) (L := left)
  have ex : exprS (methE "dict" celPopM (peekE 2) (consA (varE 4) nilA)) (sP fl n found (pairM c) [] [c] s7 s8) (hL h n left) = .nx (sP fl n found (pairM c) [] [c] s7 s8) (hL h n (left.filter fun x => decide (x ≠ c))) := by
    unfold sP
    simp [methE_at, ty, pc, opR]
  rw [ex, seqFl_nx, seqS_at, h1, seqFl_nx, mutS_at (ys := found) (hy := rfl)]
  have hl : found.length < zl := by omega
  unfold sP
  simp [sorted_FL, appendM, hl]
theorem rest_ok {fl : List Cel} {n : Nat} {h : MH} : ∀ (cells left : List Cel) (found : List MV) (s4 s5 s6 s7 s8 : SV), left.length ≤ 300000 → found.length + cells.length < 300001 → left.Nodup →
    ∃ (left' : List Cel) (found' : List MV) (s4' s5' s6' s7' s8' : SV), forL (nameT 4) bCe (cells.map pairM) [.val (FL fl), .val (.dic []), .val (.ref n), .own found, s4, s5, s6, s7, s8] (hL h n left) = .nx [.val (FL fl), .val (.dic []), .val (.ref n), .own found', s4', s5', s6', s7', s8'] (hL h n left') ∧
      (left = [] → found' = found) ∧ ((∃ x ∈ cells, x ∈ left) → found.length < found'.length) ∧ found.length ≤ found'.length
  | [], left, found, s4, s5, s6, s7, s8, _, _, _ => ⟨left, found, s4, s5, s6, s7, s8, rfl, fun _ => rfl, fun ⟨x, hx, _⟩ => (List.not_mem_nil hx).elim, Nat.le_refl _⟩
  | c :: cells, left, found, s4, s5, s6, s7, s8, l0, lf, nd => by
    rw [List.length_cons] at lf
    rw [List.map_cons, forL_cons (ht := rfl)]
    have ic := in_cel (h := h) (n := n) (L := left) c
    have st : ([.val (FL fl), .val (.dic []), .val (.ref n), .own found, s4, s5, s6, s7, s8] : Sl).set 4 (.val (pairM c)) = [.val (FL fl), .val (.dic []), .val (.ref n), .own found, .val (pairM c), s5, s6, s7, s8] := rfl
    rw [st]
    unfold bCe
    by_cases e : c ∈ left
    · obtain ⟨left', part', s5', s6', s7', s8', h1, h2, h3⟩ := fl_ok (fl := fl) (n := n) (found := found) (h := h) s5 s6 s7 s8 l0 (by omega) nd e
      have ll : left'.length ≤ 300000 := by
        have := h2.len
        omega
      obtain ⟨l2, f2, t4, t5, t6, t7, t8, g1, g2, g3, g4⟩ := rest_ok (fl := fl) (n := n) (h := h) cells left' (found ++ [.lst ((sortP part').map pairM)]) (.val (pairM c)) s5' s6' s7' s8' ll (by simp; omega) h2.nd
      refine ⟨l2, f2, t4, t5, t6, t7, t8, ?_, fun z => ?_, fun _ => ?_, ?_⟩
      · simp [ic, e]
        rw [h1, turnFl_nx]
        exact g1
      · rw [z] at e; cases e
      · simp at g4; omega
      · simp at g4; omega
    · obtain ⟨l2, f2, t4, t5, t6, t7, t8, g1, g2, g3, g4⟩ := rest_ok (fl := fl) (n := n) (h := h) cells left found (.val (pairM c)) s5 s6 s7 s8 l0 (by omega) nd
      refine ⟨l2, f2, t4, t5, t6, t7, t8, ?_, g2, fun ⟨x, hx, hl⟩ => ?_, g4⟩
      · simp [ic, e]
        exact g1
      · rcases List.mem_cons.mp hx with rfl | hx
        · exact absurd hl e
        · exact g3 ⟨x, hx, hl⟩
theorem conn_iff {fl left part : List Cel} {c : Cel} (F : Fld fl c left part []) (hc : fl.head? = some c) : Conn fl ↔ left = [] := by
  cases fl with
  | nil => cases hc
  | cons d fl =>
    cases hc
    show (∀ x ∈ c :: fl, Rch (c :: fl) c x) ↔ _
    constructor
    · intro h
      cases left with
      | nil => rfl
      | cons x left =>
        have hx : x ∈ c :: fl := (F.cov x).mpr (.inl List.mem_cons_self)
        exact absurd List.mem_cons_self (F.done x (h x hx))
    · intro h x hx
      subst h
      rcases (F.cov x).mp hx with z | z | z
      · cases z
      · exact F.rch x (.inl z)
      · cases z
theorem cel_keys {L : List Cel} {h : MH} (nd : L.Nodup) : newCelM h [.lst (L.map fun c => .tup [pairM c, .bl true])] = some (.cel (L.map kC)) := by
  unfold newCelM
  dsimp only
  rw [seqM_lst]
  dsimp only
  rw [show allM unCel (L.map fun c => .tup [pairM c, .bl true]) = some (L.map kC) from allM_map (k := kC) (fun x => rfl) L]
  dsimp only
  rw [if_pos (show (L.map kC).Nodup from List.Pairwise.map _ (fun a b hab z => hab (kC_inj.mp z)) nd)]
theorem push_hL (h : MH) (L : List Cel) : h.push (.cel (L.map kC)) = hL (h.push (.cel (L.map kC))) h.nx L := by
  unfold hL
  show MH.mk _ _ = MH.mk _ _
  congr 1
  funext k
  show _ = if k = h.nx then _ else if k = h.nx then _ else h.get k
  by_cases e : k = h.nx
  · rw [if_pos e, if_pos e]
  · rw [if_neg e, if_neg e]
theorem parts_ok {fl : List Cel} {h : MH} (l0 : fl.length ≤ 300000) (hne : fl ≠ []) (nd : fl.Nodup) (hs : sortP fl = fl) : ∃ (parts : List MV) (h' : MH), F_parts_there [FL fl, .dic []] h = .ok (.lst parts) h' ∧ (parts.length = 1 ↔ Conn fl) := by
  have z : zl = 16777216 := rfl
  obtain ⟨c, cs, rfl⟩ : ∃ c cs, fl = c :: cs := by
    cases fl with
    | nil => exact absurd rfl hne
    | cons c cs => exact ⟨c, cs, rfl⟩
  have hl : cs.length + 1 ≤ 300000 := l0
  have comp := compO_data (vs := [4]) (fi := itAny (varE 0)) (t := nameT 4) (f := tupE (consA (varE 4) (consA (cE (.bl true)) nilA))) (σ := [.val (FL (c :: cs)), .val (.dic []), .un, .un, .un, .un, .un, .un, .un]) (h := h) (xs := c :: cs) pairM (fun c => .tup [pairM c, .bl true]) (by simp [FL]) (by rw [List.length_cons]; omega) (fun x hx => ⟨_, rfl, by simp [wipeM]⟩)
  have ck := cel_keys (h := h) nd
  generalize hh : h.push (.cel ((c :: cs).map kC)) = h1 at *
  have e1 : h1 = hL h1 h.nx (c :: cs) := by rw [← hh]; exact push_hL h _
  obtain ⟨left', part', s5', s6', s7', s8', g1, g2, g3⟩ := fl_ok (fl := c :: cs) (n := h.nx) (found := []) (h := h1) .un .un .un .un l0 (by simp) nd (List.mem_cons_self (a := c) (l := cs))
  have ll : left'.length ≤ 300000 := by
    have := g2.len
    omega
  obtain ⟨l2, f2, t4, t5, t6, t7, t8, k1, k2, k3, k4⟩ := rest_ok (fl := c :: cs) (n := h.nx) (h := h1) cs left' [.lst ((sortP part').map pairM)] (.val (pairM c)) s5' s6' s7' s8' ll (by simp; omega) g2.nd
  have body : F_parts_there [FL (c :: cs), .dic []] h = .ok (.lst f2) (hL h1 h.nx l2) := by
    unfold F_parts_there b_parts_there
    rw [bodyF_at]
    have st0 : [FL (c :: cs), MV.dic []].map SV.val ++ List.replicate (9 - 2) SV.un = [.val (FL (c :: cs)), .val (.dic []), .un, .un, .un, .un, .un, .un, .un] := rfl
    rw [st0]
    have st1 : par2S 2 3 (.v (callNew newCelM (consA (wrapL (compO [4] (itAny (varE 0)) (nameT 4) yesT (tupE (consA (varE 4) (consA (cE (.bl true)) nilA))))) nilA))) (.o (lstO nilA)) [.val (FL (c :: cs)), .val (.dic []), .un, .un, .un, .un, .un, .un, .un] h = .nx [.val (FL (c :: cs)), .val (.dic []), .val (.ref h.nx), .own [], .un, .un, .un, .un, .un] h1 := by
      have cn : callNew newCelM (consA (wrapL (compO [4] (itAny (varE 0)) (nameT 4) yesT (tupE (consA (varE 4) (consA (cE (.bl true)) nilA))))) nilA) [.val (FL (c :: cs)), .val (.dic []), .un, .un, .un, .un, .un, .un, .un] h = .ok (.ref h.nx) h1 := by
        rw [callNew_at]
        simp only [consA_at, wrapL_at, nilA_at]
        rw [comp]
        simp only [bindR_ok]
        rw [ck]
        simp only [hh]
      simp [cn]
    have st2 : forS (nameT 4) (itAny (wrapL (callBO sortedPM (consA (peekE 0) nilA)))) bCe [.val (FL (c :: cs)), .val (.dic []), .val (.ref h.nx), .own [], .un, .un, .un, .un, .un] h1 = .nx [.val (FL (c :: cs)), .val (.dic []), .val (.ref h.nx), .own f2, t4, t5, t6, t7, t8] (hL h1 h.nx l2) := by
      rw [forS_at]
      have it : itAny (wrapL (callBO sortedPM (consA (peekE 0) nilA))) [.val (FL (c :: cs)), .val (.dic []), .val (.ref h.nx), .own [], .un, .un, .un, .un, .un] h1 = .ok ((c :: cs).map pairM) h1 := by
        simp only [itAny_at, wrapL_at, callBO_at, consA_at, nilA_at, peekE_at, List.getElem?_cons_zero, bindR_ok, FL]
        rw [sorted_FL, hs]
        rfl
      rw [it, bindFl_ok, List.map_cons, forL_cons (ht := rfl)]
      have ic := in_cel (h := h1) (n := h.nx) (L := c :: cs) c
      rw [← e1] at ic g1
      have bc : bCe [.val (FL (c :: cs)), .val (.dic []), .val (.ref h.nx), .own [], .val (pairM c), .un, .un, .un, .un] h1 = .nx [.val (FL (c :: cs)), .val (.dic []), .val (.ref h.nx), .own [.lst ((sortP part').map pairM)], .val (pairM c), s5', s6', s7', s8'] (hL h1 h.nx left') := by
        unfold bCe
        simp [ic]
        exact g1
      have st : ([.val (FL (c :: cs)), .val (.dic []), .val (.ref h.nx), .own [], .un, .un, .un, .un, .un] : Sl).set 4 (.val (pairM c)) = [.val (FL (c :: cs)), .val (.dic []), .val (.ref h.nx), .own [], .val (pairM c), .un, .un, .un, .un] := rfl
      rw [st, bc, turnFl_nx]
      exact k1
    rw [seqS_at, st1, seqFl_nx, seqS_at]
    have st3 := congrArg (fun x : Fl => endFl (seqFl x (fzS 3 (retS (varE 3))))) st2
    refine Eq.trans st3 ?_
    rw [seqFl_nx, fzS_at (xs := f2) (hy := rfl)]
    simp [endFl]
  refine ⟨f2, _, body, ?_⟩
  rw [conn_iff g2 rfl]
  constructor
  · intro hf
    cases left' with
    | nil => rfl
    | cons x left' =>
      exfalso
      have hx : x ∈ c :: cs := g3 x List.mem_cons_self
      have xc : x ≠ c := fun e => by
        subst e
        rcases g2.c0 with z | z
        · exact (g2.dis x List.mem_cons_self).1 z
        · cases z
      have := k3 ⟨x, (List.mem_cons.mp hx).resolve_left xc, List.mem_cons_self⟩
      simp at this
      omega
  · intro e
    rw [k2 e]
    rfl
end K83
end P_U8
section P_U9
set_option Elab.async false
set_option linter.all false
set_option maxRecDepth 100000
set_option maxHeartbeats 4000000
/-! U9: is_floor of cells -/
namespace K83
open PySem PySem.Spec PyProof.Rows L2 Mi TL
abbrev ltC (a b : Cel) : Prop := SrtO.lexB a b = true
theorem ltC_iff {p q : Cel} : ltC p q ↔ p.1 < q.1 ∨ (p.1 = q.1 ∧ p.2 < q.2) := SrtO.lexB_iff
theorem lexLt_C (a b : Cel) : HT.lexLt [a.1, a.2] [b.1, b.2] = SrtO.lexB a b := by
  rw [HT.lexLt_cons, HT.lexLt_cons, HT.lexLt_nil_nil]
  unfold SrtO.lexB
  by_cases h : a.1 = b.1
  · rw [if_pos h, if_pos h]
    by_cases h2 : a.2 = b.2
    · rw [if_pos h2]; simp [h2]
    · rw [if_neg h2]
  · rw [if_neg h, if_neg h]
def chn (fl : List Cel) : Bool := (fl.zip fl.tail).all fun p => SrtO.lexB p.1 p.2
theorem chn_cons (a b : Cel) (l : List Cel) : chn (a :: b :: l) = (SrtO.lexB a b && chn (b :: l)) := rfl
theorem chn_lt : ∀ (l : List Cel) (a : Cel), chn (a :: l) = true → ∀ b ∈ l, ltC a b
  | [], _, _, _, h => (List.not_mem_nil h).elim
  | c :: l, a, h, b, hb => by
    rw [chn_cons] at h
    obtain ⟨h1, h2⟩ := Bool.and_eq_true_iff.mp h
    rcases List.mem_cons.mp hb with rfl | hb
    · exact h1
    · have h3 := ltC_iff.mp (chn_lt l c h2 b hb)
      have h1 := ltC_iff.mp h1
      exact ltC_iff.mpr (by omega)
theorem chn_pw : ∀ (l : List Cel), chn l = true → l.Pairwise ltC
  | [], _ => .nil
  | a :: l, h => by
    refine List.Pairwise.cons (chn_lt l a h) (chn_pw l ?_)
    cases l with
    | nil => rfl
    | cons b l =>
      rw [chn_cons] at h
      exact (Bool.and_eq_true_iff.mp h).2
theorem pw_chn : ∀ (l : List Cel), l.Pairwise ltC → chn l = true
  | [], _ => rfl
  | [a], _ => rfl
  | a :: b :: l, h => by
    rw [chn_cons]
    cases h with
    | cons h1 h2 =>
      rw [pw_chn (b :: l) h2, h1 b List.mem_cons_self]
      rfl
theorem pw_nodup {l : List Cel} (h : l.Pairwise ltC) : l.Nodup := h.imp fun {a b} h e => by
  subst e
  have := ltC_iff.mp h
  omega
theorem pw_sort {l : List Cel} (h : l.Pairwise ltC) : sortP l = l := by
  refine (sortP_uniq (List.Perm.refl l) (h.imp fun {a b} h => ?_)).symm
  have := ltC_iff.mp h
  exact SrtO.lexB_no.mpr (by omega)
theorem sort_pw {l : List Cel} (h : l.Nodup) : (sortP l).Pairwise ltC := by
  have n : (sortP l).Nodup := (sortP_perm l).nodup_iff.mpr h
  refine (List.pairwise_and_iff.mpr ⟨sortP_pw l, n⟩).imp fun {a b} h => ?_
  have h1 := SrtO.lexB_no.mp h.1
  refine ltC_iff.mpr ?_
  obtain ⟨x, y⟩ := a
  obtain ⟨u, v⟩ := b
  have h2 : ¬ (x = u ∧ y = v) := fun z => h.2 (by rw [z.1, z.2])
  simp only at h1 ⊢
  omega
def posC (c : Cel) : Bool := decide (0 ≤ c.1) && decide (0 ≤ c.2)
theorem count_ok (x : Int) (h : MH) : F_is_count [.int x, .int 0] h = .ok (.bl (decide (0 ≤ x))) h := by
  unfold F_is_count b_is_count
  rw [bodyF_at]
  have w : F_is_whole [.int x] h = .ok (.bl true) h := by
    unfold F_is_whole b_is_whole
    rw [bodyF_at]
    simp [isB]
  have m : maxM h [.int 0, .int 0] = some (.int 0) := rfl
  simp [w, m]
theorem cell_ok (c : Cel) (h : MH) : F_is_cell [pairM c] h = .ok (.bl (posC c)) h := by
  unfold F_is_cell b_is_cell
  rw [bodyF_at]
  have w : F_is_tuple_of [pairM c, .int 2] h = .ok (.bl true) h := by
    unfold F_is_tuple_of b_is_tuple_of
    rw [bodyF_at]
    simp [isB, pairM]
  have p : pairM c = .tup [.int c.1, .int c.2] := rfl
  rw [p] at w ⊢
  simp [w, count_ok, posC]
  by_cases e : 0 ≤ c.1 <;> simp [e, count_ok]
/-- floors -/
structure FlR (fl : List Cel) : Prop where
  ne : fl ≠ []
  pos : fl.all posC = true
  chn : chn fl = true
  conn : Conn fl
theorem zipL_tail : ∀ (l : List Cel), zipL (l.map pairM) (l.map pairM).tail = (l.zip l.tail).map fun p => .tup [pairM p.1, pairM p.2]
  | [] => rfl
  | [a] => rfl
  | a :: b :: l => by
    show MV.tup [pairM a, pairM b] :: zipL ((b :: l).map pairM) ((b :: l).map pairM).tail = _
    rw [zipL_tail (b :: l)]
    rfl
theorem zipL_tail' (l : List Cel) : zipL (l.map pairM) (l.tail.map pairM) = (l.zip l.tail).map fun p => .tup [pairM p.1, pairM p.2] := by
  rw [← zipL_tail l, List.map_tail]
theorem is_floor_ok {fl : List Cel} {h : MH} (l0 : fl.length ≤ 300000) : ∃ (b : Bool) (h' : MH), F_is_floor [FL fl] h = .ok (.bl b) h' ∧ (b = true ↔ FlR fl) := by
  have z : zl = 16777216 := rfl
  have c1 := compO_data (vs := [1]) (fi := itAny (varE 0)) (t := nameT 1) (f := callE (callN 1 F_is_cell) [] (consA (varE 1) nilA)) (σ := [.val (FL fl), .un, .un, .un]) (h := h) (xs := fl) pairM (fun c => .bl (posC c)) (by simp [FL]) (by omega) (fun x hx => ⟨_, rfl, by simp [wipeM, cell_ok]⟩)
  have zl' : (fl.zip fl.tail).length ≤ zl := by
    rw [List.length_zip]
    have := Nat.min_le_left fl.length fl.tail.length
    omega
  have c2 := compO_data (vs := [2, 3]) (fi := itB zipM (consA (varE 0) (consA (slV (peekE 0) (prtP (cE (.int 1))) noP) nilA))) (t := tupT 2 (consT (nameT 2) (consT (nameT 3) nilT))) (f := bin2 ltTM (peekE 2) (peekE 3)) (σ := [.val (FL fl), .un, .un, .un]) (h := h) (xs := fl.zip fl.tail) (fun p => .tup [pairM p.1, pairM p.2]) (fun p => .bl (SrtO.lexB p.1 p.2)) (by simp [FL, zipM, zipL_tail]) zl' (fun x hx => ⟨_, rfl, by
    have e := lexLt_C x.1 x.2
    simp [wipeM, pairM, ltTM, allM, unInt, e]⟩)
  have a1 := allBM_map posC fl h
  have a2 := allBM_map (fun p : Cel × Cel => SrtO.lexB p.1 p.2) (fl.zip fl.tail) h
  have en := eq_nil fl h
  have ty : tyM h (FL fl) = some .list := rfl
  by_cases e1 : fl = []
  · subst e1
    refine ⟨false, h, ?_, fun z => (nomatch z), fun z => absurd rfl z.ne⟩
    unfold F_is_floor b_is_floor
    rw [bodyF_at]
    have : eqM h (FL []) (.lst []) = some (.bl true) := rfl
    simp [ty, isB, this]
  · have en' : eqM h (FL fl) (.lst []) = some (.bl false) := by
      have := en
      simp only [e1, decide_false] at this
      exact this
    by_cases e2 : fl.all posC = true
    · by_cases e3 : chn fl = true
      · have pw := chn_pw fl e3
        obtain ⟨parts, h', p1, p2⟩ := parts_ok (h := h) l0 e1 (pw_nodup pw) (pw_sort pw)
        refine ⟨decide (parts.length = 1), h', ?_, ?_⟩
        · unfold F_is_floor b_is_floor
          rw [bodyF_at]
          have a2' : allBM h [.lst ((fl.zip fl.tail).map fun p => .bl (SrtO.lexB p.1 p.2))] = some (.bl true) := by
            rw [a2]
            exact congrArg (fun b => some (MV.bl b)) e3
          have lm : eqM h' (.int (parts.length : Nat)) (.int 1) = some (.bl (decide (parts.length = 1))) := by
            unfold eqM
            rw [if_pos ⟨rfl, rfl⟩]
            simp only [meq]
            congr 2
            by_cases e : parts.length = 1
            · rw [e]; rfl
            · have : ¬ ((parts.length : Nat) : Int) = 1 := by omega
              simp [e, this]
          simp [ty, isB, en', c1, a1, e2, c2, a2', p1, lm]
        · rw [decide_eq_true_eq, p2]
          exact ⟨fun c => ⟨e1, e2, e3, c⟩, fun c => c.conn⟩
      · have e3' : chn fl = false := by simpa using e3
        refine ⟨false, h, ?_, fun z => (nomatch z), fun z => absurd z.chn e3⟩
        unfold F_is_floor b_is_floor
        rw [bodyF_at]
        have a2' : allBM h [.lst ((fl.zip fl.tail).map fun p => .bl (SrtO.lexB p.1 p.2))] = some (.bl false) := by
          rw [a2]
          exact congrArg (fun b => some (MV.bl b)) e3'
        simp [ty, isB, en', c1, a1, e2, c2, a2']
    · have e2' : fl.all posC = false := by simpa using e2
      refine ⟨false, h, ?_, fun z => (nomatch z), fun z => absurd z.pos e2⟩
      unfold F_is_floor b_is_floor
      rw [bodyF_at]
      simp [ty, isB, en', c1, a1, e2']
end K83
end P_U9
section P_U10
set_option Elab.async false
set_option linter.all false
set_option maxRecDepth 100000
set_option maxHeartbeats 4000000
/-! U10: the law's own search -/
namespace K83
open PySem PySem.Spec PyProof.Rows L2 Mi TL
theorem notIn_FL (c : Cel) (fl : List Cel) (h : MH) : notInM h (pairM c) (FL fl) = some (.bl (!decide (c ∈ fl))) := by
  have e := in_FL c fl h
  unfold inM at e
  unfold notInM
  have p : pairM c = .tup [.int c.1, .int c.2] := rfl
  rw [p]
  cases q : inMb (.tup [.int c.1, .int c.2]) (FL fl) with
  | none => rw [q] at e; cases e
  | some b =>
    rw [q] at e
    have : MV.bl b = .bl (decide (c ∈ fl)) := Option.some.inj e
    have hb : b = decide (c ∈ fl) := by injection this
    rw [hb]
    rfl
theorem ne_ones (n : Nat) (h : MH) : neM h (.lst (List.replicate n (.int 1))) (.lst []) = some (.bl (decide (n ≠ 0))) := by
  unfold neM
  have : okD (.lst (List.replicate n (.int 1))) = true := by
    show (List.replicate n (MV.int 1)).all (okV 39) = true
    exact List.all_eq_true.mpr fun x hx => by rw [List.eq_of_mem_replicate hx]; rfl
  rw [if_pos ⟨this, rfl⟩]
  cases n with
  | zero => rfl
  | succ n => rfl
def bMo : EM := (wrapL (compO [5] (itAny (varE 2)) (nameT 5) (tstE (bin2 neM (wrapL (compO [6, 7] (itAny (varE 1)) (tupT 2 (consT (nameT 6) (consT (nameT 7) nilT))) (tstE (bin2 eqM (bin2 addM (callB absM (consA (bin2 subM (peekE 6) (bin2 ixDM (peekE 5) (cE (.int 0)))) nilA)) (callB absM (consA (bin2 subM (peekE 7) (bin2 ixDM (peekE 5) (cE (.int 1)))) nilA))) (cE (.int 1)))) (cE (.int 1)))) (wrapL (lstO nilA)))) (varE 5)))
def bLf : EM := (wrapL (compO [5] (itAny (varE 2)) (nameT 5) (tstE (bin2 notInM (peekE 5) (peekE 4))) (varE 5)))
def bRd : SM := seqS (setS 4 bMo) (par2S 1 2 (.v (bin2 addM (peekE 1) (peekE 4))) (.v bLf))
theorem near_eq (near : List Cel) (c : Cel) : (near.filter fun y => decide (Adj y c)).length ≠ 0 ↔ isNear near c = true := by
  unfold isNear
  rw [List.any_eq_true]
  constructor
  · intro h
    obtain ⟨y, hy⟩ := List.exists_mem_of_length_pos (Nat.pos_of_ne_zero h)
    obtain ⟨h1, h2⟩ := List.mem_filter.mp hy
    exact ⟨y, h1, by exact h2⟩
  · rintro ⟨y, h1, h2⟩
    have := List.length_pos_of_mem (List.mem_filter (p := fun y => decide (Adj y c)).mpr ⟨h1, h2⟩)
    omega
theorem more_ok {fl near left : List Cel} {s3 s4 : SV} {h : MH} (l1 : near.length ≤ 300000) (l2 : left.length ≤ 300000) :
    bMo [.val (FL fl), .val (FL near), .val (FL left), s3, s4, .un, .un, .un] h = .ok (FL (left.filter (isNear near))) h := by
  have z : zl = 16777216 := rfl
  have inner : ∀ c : Cel, compO [6, 7] (itAny (varE 1)) (tupT 2 (consT (nameT 6) (consT (nameT 7) nilT))) (tstE (bin2 eqM (bin2 addM (callB absM (consA (bin2 subM (peekE 6) (bin2 ixDM (peekE 5) (cE (.int 0)))) nilA)) (callB absM (consA (bin2 subM (peekE 7) (bin2 ixDM (peekE 5) (cE (.int 1)))) nilA))) (cE (.int 1)))) (cE (.int 1)) [.val (FL fl), .val (FL near), .val (FL left), s3, s4, .val (pairM c), .un, .un] h = .ok (List.replicate (near.filter fun y => decide (Adj y c)).length (.int 1)) h := by
    intro c
    have e := compO_filter (vs := [6, 7]) (fi := itAny (varE 1)) (t := tupT 2 (consT (nameT 6) (consT (nameT 7) nilT))) (c := (tstE (bin2 eqM (bin2 addM (callB absM (consA (bin2 subM (peekE 6) (bin2 ixDM (peekE 5) (cE (.int 0)))) nilA)) (callB absM (consA (bin2 subM (peekE 7) (bin2 ixDM (peekE 5) (cE (.int 1)))) nilA))) (cE (.int 1))))) (f := cE (.int 1))
      (σ := [.val (FL fl), .val (FL near), .val (FL left), s3, s4, .val (pairM c), .un, .un]) (h := h) (xs := near) pairM (fun y => decide (Adj y c)) (fun _ => .int 1) (by simp [FL]) (by omega) (fun y hy => ⟨_, rfl, by
        have ei : ∀ i : Int, eqM h (.int i) (.int 1) = some (.bl (decide (i = 1))) := fun i => by
          unfold eqM
          rw [if_pos ⟨rfl, rfl⟩]
          simp only [meq]
          congr 2
        simp only [wipeM, List.foldl, List.set_cons_succ, List.set_cons_zero]
        simp [pairM, absM, ei]
        unfold Adj
        have a1 : ∀ i : Int, (if i < 0 then -i else i) = ((i.natAbs : Nat) : Int) := fun i => by split <;> omega
        rw [a1, a1]
        omega, fun _ => by simp⟩)
    rw [e]
    exact congrArg (fun l => Res.ok l h) List.map_const'
  have o := compO_filter (vs := [5]) (fi := itAny (varE 2)) (t := nameT 5) (c := (tstE (bin2 neM (wrapL (compO [6, 7] (itAny (varE 1)) (tupT 2 (consT (nameT 6) (consT (nameT 7) nilT))) (tstE (bin2 eqM (bin2 addM (callB absM (consA (bin2 subM (peekE 6) (bin2 ixDM (peekE 5) (cE (.int 0)))) nilA)) (callB absM (consA (bin2 subM (peekE 7) (bin2 ixDM (peekE 5) (cE (.int 1)))) nilA))) (cE (.int 1)))) (cE (.int 1)))) (wrapL (lstO nilA))))) (f := varE 5)
    (σ := [.val (FL fl), .val (FL near), .val (FL left), s3, s4, .un, .un, .un]) (h := h) (xs := left) pairM (isNear near) pairM (by simp [FL]) (by omega) (fun c hc => ⟨_, rfl, by
      have e := inner c
      have n := ne_ones (near.filter fun y => decide (Adj y c)).length h
      have q : decide ((near.filter fun y => decide (Adj y c)).length ≠ 0) = isNear near c := by
        by_cases hh : isNear near c = true
        · rw [hh]; exact decide_eq_true ((near_eq near c).mpr hh)
        · rw [Bool.not_eq_true _ |>.mp hh]
          exact decide_eq_false fun z => hh ((near_eq near c).mp z)
      rw [q] at n
      simp only [wipeM, List.foldl, List.set_cons_succ, List.set_cons_zero] at e ⊢
      simp [e, n], fun _ => by simp [wipeM]⟩)
  unfold bMo
  rw [wrapL_at, o]
  rfl
theorem left_ok {fl near left more : List Cel} {s3 : SV} {h : MH} (l2 : left.length ≤ 300000) :
    bLf [.val (FL fl), .val (FL near), .val (FL left), s3, .val (FL more), .un, .un, .un] h = .ok (FL (left.filter fun x => !decide (x ∈ more))) h := by
  have z : zl = 16777216 := rfl
  have o := compO_filter (vs := [5]) (fi := itAny (varE 2)) (t := nameT 5) (c := (tstE (bin2 notInM (peekE 5) (peekE 4)))) (f := varE 5)
    (σ := [.val (FL fl), .val (FL near), .val (FL left), s3, .val (FL more), .un, .un, .un]) (h := h) (xs := left) pairM (fun x => !decide (x ∈ more)) pairM (by simp [FL]) (by omega) (fun c hc => ⟨_, rfl, by
      have n := notIn_FL c more h
      simp [wipeM, n], fun _ => by simp [wipeM]⟩)
  unfold bLf
  rw [wrapL_at, o]
  rfl
theorem len_split (left near : List Cel) : (left.filter (isNear near)).length + (left.filter fun x => !decide (x ∈ left.filter (isNear near))).length = left.length := by
  have e : left.filter (fun x => !decide (x ∈ left.filter (isNear near))) = left.filter (fun x => !isNear near x) := by
    refine List.filter_congr fun x hx => ?_
    congr 1
    by_cases h : isNear near x = true
    · rw [h]; exact decide_eq_true (List.mem_filter.mpr ⟨hx, h⟩)
    · rw [Bool.not_eq_true _ |>.mp h]
      exact decide_eq_false fun z => h (List.mem_filter.mp z).2
  rw [e]
  have := List.length_eq_countP_add_countP (isNear near) (l := left)
  rw [List.countP_eq_length_filter, List.countP_eq_length_filter] at this
  have e2 : left.filter (fun a => decide ¬isNear near a = true) = left.filter (fun x => !isNear near x) := List.filter_congr fun x _ => by cases isNear near x <;> rfl
  rw [e2] at this
  omega
theorem round_ok {fl near left : List Cel} {s3 s4 : SV} {h : MH} (l : near.length + left.length ≤ 300000) :
    bRd [.val (FL fl), .val (FL near), .val (FL left), s3, s4, .un, .un, .un] h = .nx [.val (FL fl), .val (FL (near ++ left.filter (isNear near))), .val (FL (left.filter fun x => !decide (x ∈ left.filter (isNear near)))), s3, .val (FL (left.filter (isNear near))), .un, .un, .un] h := by
  have z : zl = 16777216 := rfl
  have m := more_ok (fl := fl) (near := near) (left := left) (s3 := s3) (s4 := s4) (h := h) (by omega) (by omega)
  have q := left_ok (fl := fl) (near := near) (left := left) (more := left.filter (isNear near)) (s3 := s3) (h := h) (by omega)
  have ls := len_split left near
  have ad : addM h (FL near) (FL (left.filter (isNear near))) = some (FL (near ++ left.filter (isNear near))) := by
    unfold FL
    rw [add_Ml _ _ _ (by simp only [List.length_map]; omega), List.map_append]
  unfold bRd
  rw [seqS_at, setS_at, m]
  simp only [bindFl_ok, List.set_cons_succ, List.set_cons_zero, seqFl_nx]
  simp [q, ad]
theorem law_floor_ok {fl : List Cel} {h : MH} (l0 : fl.length ≤ 300000) (nd : fl.Nodup) : ∃ b : Bool, F__law_is_floor [FL fl] h = .ok (.bl b) h ∧ (b = true ↔ Conn fl) := by
  have z : zl = 16777216 := rfl
  cases fl with
  | nil =>
    refine ⟨false, ?_, ?_⟩
    · unfold F__law_is_floor b__law_is_floor
      rw [bodyF_at]
      have : eqM h (FL []) (.lst []) = some (.bl true) := rfl
      simp [this]
    · exact ⟨fun z => (nomatch z), fun z => z.elim⟩
  | cons c cs =>
    rw [List.length_cons] at l0
    obtain ⟨n1, n2⟩ := List.nodup_cons.mp nd
    have R0 : Rnd (c :: cs) [c] cs := ⟨fun x => by simp, fun x hx d hd => by
      cases hd
      rw [List.mem_singleton.mp hx]
      exact .refl, fun d hd => by cases hd; exact List.mem_cons_self, fun x hx z => n1 (by rw [← List.mem_singleton.mp z]; exact hx)⟩
    obtain ⟨σ', h', e, rfl, near, left, s3, s4, rfl, R, hl, hc⟩ := forL_inv (α := Nat) (t := nameT 3) (b := bRd) (fun y => .int y)
      (fun pre post σ h' => h' = h ∧ ∃ (near left : List Cel) (s3 s4 : SV), σ = [.val (FL (c :: cs)), .val (FL near), .val (FL left), s3, s4, .un, .un, .un] ∧ Rnd (c :: cs) near left ∧ near.length + left.length = cs.length + 1 ∧ (Conn (c :: cs) → left = [] ∨ left.length + pre.length ≤ cs.length))
      (by
        rintro pre y post σ h' ⟨rfl, near, left, s3, s4, rfl, R, hl, hc⟩
        refine ⟨_, rfl, ?_⟩
        have st : ([.val (FL (c :: cs)), .val (FL near), .val (FL left), s3, s4, .un, .un, .un] : Sl).set 3 (.val (.int y)) = [.val (FL (c :: cs)), .val (FL near), .val (FL left), .val (.int y), s4, .un, .un, .un] := rfl
        refine ⟨_, h', .inl (by rw [st]; exact round_ok (by omega)), rfl, _, _, _, _, rfl, R.turn, ?_, fun cn => ?_⟩
        · have := len_split left near
          rw [List.length_append]
          omega
        · rcases hc cn with hc | hc
          · subst hc; exact .inl rfl
          · by_cases hm : left.filter (isNear near) = []
            · left
              cases left with
              | nil => rfl
              | cons x left =>
                exfalso
                have hx : x ∈ c :: cs := (R.cov x).mpr (.inr List.mem_cons_self)
                exact R.dis x List.mem_cons_self (R.stuck rfl hm (cn x hx))
            · right
              have := filter_shrinks hm fun x hx => (List.mem_filter.mp hx).1
              rw [List.length_append, List.length_singleton]
              omega)
      (List.range (cs.length + 1)) [] [.val (FL (c :: cs)), .val (FL [c]), .val (FL cs), .un, .un, .un, .un, .un] h ⟨rfl, _, _, _, _, rfl, R0, by simp; omega, fun _ => .inr (by simp)⟩
    refine ⟨decide (left = []), ?_, ?_⟩
    · unfold F__law_is_floor b__law_is_floor
      rw [bodyF_at]
      have en : eqM h' (FL (c :: cs)) (.lst []) = some (.bl false) := (eq_nil (c :: cs) h')
      have el : eqM h' (FL left) (.lst []) = some (.bl (decide (left = []))) := eq_nil left h'
      have rg := rng1_nat (show cs.length + 1 ≤ zl by omega)
      have cut : cutL ((c :: cs).map pairM) (some 1) none = cs.map pairM := by simp
      have e' : forS (nameT 3) (itB rng1M (consA (callB lenM (consA (peekE 0) nilA)) nilA)) bRd [.val (FL (c :: cs)), .val (FL [c]), .val (FL cs), .un, .un, .un, .un, .un] h' = .nx [.val (FL (c :: cs)), .val (FL near), .val (FL left), s3, s4, .un, .un, .un] h' := by
        rw [forS_at]
        have it : itB rng1M (consA (callB lenM (consA (peekE 0) nilA)) nilA) [.val (FL (c :: cs)), .val (FL [c]), .val (FL cs), .un, .un, .un, .un, .un] h' = .ok ((List.range (cs.length + 1)).map fun y : Nat => .int y) h' := by
          simp [FL]
          exact congrArg (optR · h') rg
        rw [it, bindFl_ok, e]
      have f0 : (seqS (ifS (tstE (bin2 eqM (peekE 0) (wrapL (lstO nilA)))) (retS (cE (.bl false))) nextS) (seqS (par2S 1 2 (.v (wrapL (lstO (consA (bin2 ixDM (peekE 0) (cE (.int 0))) nilA)))) (.v (slV (peekE 0) (prtP (cE (.int 1))) noP))) (seqS (forS (nameT 3) (itB rng1M (consA (callB lenM (consA (peekE 0) nilA)) nilA)) bRd) (retS (bin2 eqM (peekE 2) (wrapL (lstO nilA))))))) [.val (FL (c :: cs)), .un, .un, .un, .un, .un, .un, .un] h' = .rt (.bl (decide (left = []))) h' := by
        simp [en, -forS_at]
        have s1 : ixDM h' (FL (c :: cs)) (.int 0) = some (pairM c) := by simp [FL]
        have s2 : slM (some 1) none h' (FL (c :: cs)) = some (FL cs) := by
          unfold FL
          rw [slM_lst, cut]
        simp [s1, s2, -forS_at]
        have w1 : MV.lst [pairM c] = FL [c] := rfl
        rw [w1, e']
        simp [el]
      exact congrArg endFl f0
    · rw [decide_eq_true_eq]
      constructor
      · intro hl0
        subst hl0
        intro x hx
        rcases (R.cov x).mp hx with z | z
        · exact R.rch x z c rfl
        · cases z
      · intro cn
        rcases hc cn with hc | hc
        · exact hc
        · simp at hc
          have : left.length = 0 := by omega
          exact List.length_eq_zero_iff.mp this
end K83
end P_U10
section P_U11
set_option Elab.async false
set_option linter.all false
set_option maxRecDepth 100000
set_option maxHeartbeats 4000000
/-! U11: texts read, and what is due -/
namespace Mi
open PySem PySem.Spec PyProof.Rows L2
@[simp] theorem raiseS_at (c : Str) (f : EM) (σ : Sl) (h : MH) : raiseS c f σ h = bindFl (f σ h) σ fun m h' => .ex c m σ h' := (bindS_at ..)
@[simp] theorem chainE_at (f f' : MH → MV → MV → Option MV) (fa fb fc : EM) (σ : Sl) (h : MH) : chainE f f' fa fb fc σ h = bindR (fa σ h) fun x h1 => bindR (fb σ h1) fun y h2 => bindR (optR (f h2 x y) h2) fun z h3 => match z with
  | .bl true => bindR (fc σ h3) fun w h4 => optR (f' h4 y w) h4
  | .bl false => .ok (.bl false) h3
  | _ => .no := by
  unfold chainE
  rfl
@[simp] theorem seqFl_ex (c : Str) (m : MV) (σ : Sl) (h : MH) (k : Sl → MH → Fl) : seqFl (.ex c m σ h) k = .ex c m σ h := (rfl)
@[simp] theorem turnFl_ex (c : Str) (m : MV) (σ : Sl) (h : MH) (k : Sl → MH → Fl) : turnFl (.ex c m σ h) k = .ex c m σ h := (rfl)
theorem retOwnS_at (i : Nat) (σ : Sl) (h : MH) {xs : List MV} (e : σ[i]? = some (.own xs)) : retOwnS i σ h = .rt (.ref h.nx) (h.push (.lst xs)) := by
  unfold retOwnS
  rw [e]
end Mi
namespace K83
open PySem PySem.Spec PyProof.Rows L2 Mi TL
theorem zl_def : zl = 16777216 := rfl
/-- texts of signs that may stand -/
def okC (c : Nat) : Bool := c == 10 || (decide (32 ≤ c) && decide (c ≤ 126))
structure Txt (t : List Nat) : Prop where
  c : t.all okC = true
  l : t.length ≤ 600
theorem Txt.o {t : List Nat} (T : Txt t) : Txo t := ⟨fun c hc => by
  have := List.all_eq_true.mp T.c c hc
  unfold okC at this
  simp at this
  omega, Nat.le_trans T.l (by decide)⟩
theorem check_rows_gen {t : List Nat} (hc : ∀ c ∈ t, c < 0x110000) (l : t.length ≤ 1000000) (h : MH) : F_check_rows [.str t] h = if t.all okC = true then .ok .non h else .ex "InvalidText" (.str t) h := by
  have z := zl_def
  have c1 := compO_data (vs := [1]) (fi := itAny (varE 0)) (t := nameT 1) (f := orE (bin2 eqM (peekE 1) (cE (.str [10]))) (chainE leM leM (cE (.str [32])) (peekE 1) (cE (.str [126])))) (σ := [.val (.str t), .un]) (h := h) (xs := t) (fun c => .str [c]) (fun c => .bl (okC c)) (by simp [itemsM]) (by omega) (fun c hx => ⟨_, rfl, by
    have e1 : eqM h (.str [c]) (.str [10]) = some (.bl (c == 10)) := by
      unfold eqM
      rw [if_pos ⟨by simp [okV]; exact hc c hx, rfl⟩]
      simp only [meq]
      congr 2
      by_cases e : c = 10 <;> simp [e]
    have e2 : leM h (.str [32]) (.str [c]) = some (.bl (decide (32 ≤ c))) := by
      show some (MV.bl (!ltL [c] [32])) = _
      congr 2
      unfold ltL
      by_cases e : c < 32
      · rw [if_pos e]; simp; omega
      · rw [if_neg e]
        by_cases e' : 32 < c
        · rw [if_pos e']; simp; omega
        · rw [if_neg e']; simp [ltL]; omega
    have e3 : leM h (.str [c]) (.str [126]) = some (.bl (decide (c ≤ 126))) := by
      show some (MV.bl (!ltL [126] [c])) = _
      congr 2
      unfold ltL
      by_cases e : 126 < c
      · rw [if_pos e]; simp; omega
      · rw [if_neg e]
        by_cases e' : c < 126
        · rw [if_pos e']; simp; omega
        · rw [if_neg e']; simp [ltL]; omega
    simp [wipeM, e1]
    unfold okC
    by_cases e : c = 10
    · simp [e]
    · have e0 : (c == 10) = false := by simp [e]
      simp [e0, e2]
      by_cases e4 : 32 ≤ c
      · simp [e4, e3]
        exact fun z => absurd z e
      · simp [e4]
        exact e⟩)
  have al := allBM_map okC t h
  unfold F_check_rows b_check_rows
  rw [bodyF_at]
  have ty : tyM h (.str t) = some .str := rfl
  by_cases e : t.all okC = true
  · rw [if_pos e]
    simp [ty, isB, c1, al, e, endFl]
  · rw [if_neg e]
    have e' : t.all okC = false := by simpa using e
    simp [ty, isB, c1, al, e', endFl]
theorem check_rows_ok {t : List Nat} (T : Txt t) (h : MH) : F_check_rows [.str t] h = .ok .non h := by
  rw [check_rows_gen T.o.1 (Nat.le_trans T.l (by decide)) h, if_pos T.c]
theorem allM_self {f : MV → Option MV} {xs : List MV} (h : ∀ x ∈ xs, f x = some x) : allM f xs = some xs := by
  induction xs with
  | nil => rfl
  | cons x xs ih =>
    unfold allM
    rw [h x List.mem_cons_self, ih fun y hy => h y (List.mem_cons_of_mem _ hy)]
theorem der_pair (h : MH) (n : Nat) (c : Cel) : der h (n + 2) (pairM c) = some (pairM c) := rfl
theorem der_FL (h : MH) (n : Nat) (fl : List Cel) : der h (n + 3) (FL fl) = some (FL fl) := by
  show (allM (der h (n + 2)) (fl.map pairM)).map MV.lst = _
  rw [allM_self fun x hx => by
    obtain ⟨c, _, rfl⟩ := List.mem_map.mp hx
    exact der_pair h n c]
  rfl
/-- the cells of a text, in order -/
def flT (t : List Nat) : List Cel := sortP (cellsOf t)
theorem flT_mem {t : List Nat} {c : Cel} : c ∈ flT t ↔ c ∈ cellsOf t := (sortP_perm _).mem_iff
theorem flT_len (t : List Nat) : (flT t).length ≤ t.length := by
  unfold flT
  rw [(sortP_perm _).length_eq]
  exact cellsOf_len t
theorem flT_pw (t : List Nat) : (flT t).Pairwise ltC := sort_pw (cellsOf_nodup t)
theorem flT_pos (t : List Nat) : (flT t).all posC = true := List.all_eq_true.mpr fun c hc => by
  have := cellsOf_rng (flT_mem.mp hc)
  simp [posC, this.1, this.2.2.1]
theorem FlR.fin {fl : List Cel} (F : FlR fl) (hb : ∀ c ∈ fl, c.1 < 700 ∧ c.2 < 700) (l : fl.length ≤ 300000) : Fin fl := by
  refine ⟨F.ne, fun c hc => ?_, l⟩
  have := List.all_eq_true.mp F.pos c hc
  have p : 0 ≤ c.1 ∧ 0 ≤ c.2 := by simpa [posC] using this
  exact ⟨p.1, (hb c hc).1, p.2, (hb c hc).2⟩
theorem Txt.fin {t : List Nat} (T : Txt t) (F : FlR (flT t)) : Fin (flT t) := F.fin (fun c hc => by
  have := cellsOf_rng (flT_mem.mp hc)
  have := T.l
  omega) (by have := flT_len t; have := T.l; omega)
theorem joinL_mem {s : List Nat} {P : Nat → Prop} (hs : ∀ c ∈ s, P c) : ∀ ps : List (List Nat), (∀ p ∈ ps, ∀ c ∈ p, P c) → ∀ c ∈ joinL s ps, P c
  | [], _, c, hc => by cases hc
  | [p], h, c, hc => h p List.mem_cons_self c hc
  | p :: q :: r, h, c, hc => by
    rcases List.mem_append.mp (show c ∈ p ++ (s ++ joinL s (q :: r)) from hc) with hc | hc
    · exact h p List.mem_cons_self c hc
    · rcases List.mem_append.mp hc with hc | hc
      · exact hs c hc
      · exact joinL_mem hs (q :: r) (fun p hp => h p (List.mem_cons_of_mem _ hp)) c hc
theorem rowD_mem {fl : List Cel} {w y c : Nat} (h : c ∈ rowD fl w y) : c = 35 ∨ c = 46 := by
  obtain ⟨x, _, rfl⟩ := List.mem_map.mp h
  unfold sgC
  split
  · exact .inl rfl
  · exact .inr rfl
theorem drawL_mem {fl : List Cel} {c : Nat} (h : c ∈ drawL fl) : c = 10 ∨ c = 35 ∨ c = 46 := by
  refine joinL_mem (P := fun c => c = 10 ∨ c = 35 ∨ c = 46) (fun c hc => .inl (List.mem_singleton.mp hc)) _ (fun p hp c hc => ?_) c h
  obtain ⟨y, _, rfl⟩ := List.mem_map.mp (List.mem_reverse.mp hp)
  exact .inr (rowD_mem hc)
theorem ok_draw (fl : List Cel) : okD (.str (drawL fl)) = true := List.all_eq_true.mpr fun c hc => by
  have := drawL_mem hc
  simp
  omega
theorem ok_txt {t : List Nat} (T : Txo t) : okD (.str t) = true := List.all_eq_true.mpr fun c hc => by
  have := T.1 c hc
  simp
  omega
theorem meq_str (a b : List Nat) : meq (.str a) (.str b) = decide (a = b) := by
  simp only [meq]
  by_cases e : a = b <;> simp [e]
/-- read as a floor -/
def Told (t : List Nat) : Prop := FlR (flT t) ∧ drawL (flT t) = t
theorem sorted_FL' (L : List Cel) (h : MH) : sortedPM h [.lst (L.map pairM)] = some ((sortP L).map pairM) := sorted_FL L h
theorem read_ok {t : List Nat} (T : Txt t) (h : MH) : (Told t → F_read_floor [.str t] h = .ok (.ref h.nx) (h.push (.lst ((flT t).map pairM)))) ∧ (¬ Told t → F_read_floor [.str t] h = .ex "NotDrawn" (.str t) h) := by
  have z := zl_def
  have l0 : (flT t).length ≤ 300000 := by
    have := flT_len t
    have := T.l
    omega
  obtain ⟨b, h1, f1, f2⟩ := is_floor_ok (h := h.emp) l0
  obtain ⟨s2, s3, rw1⟩ := rows_RF (h := h) T.o (.str t)
  have ds : allM (der40 h) [.lst ((flT t).map pairM)] = some [FL (flT t)] := by
    have := der_FL h 37 (flT t)
    unfold allM
    rw [show der40 h (.lst ((flT t).map pairM)) = some (FL (flT t)) from this]
    rfl
  have pf : pureF F_is_floor [.lst ((flT t).map pairM)] h = .ok (.bl b) h := by
    unfold pureF
    rw [ds]
    dsimp only
    rw [f1]
    rfl
  have pd : b = true → pureF F_drawn [.lst ((flT t).map pairM)] h = .ok (.str (drawL (flT t))) h := fun hb => by
    unfold pureF
    rw [ds]
    dsimp only
    rw [drawn_ok (T.fin (f2.mp hb))]
    rfl
  have nm : neM h (.str (drawL (flT t))) (.str t) = some (.bl (!decide (drawL (flT t) = t))) := by
    unfold neM
    rw [if_pos ⟨ok_draw _, ok_txt T.o⟩, meq_str]
  have sp : splitM t h [.str [10]] = some ((splN t).map .str) := split10 (Nat.le_trans T.l (by decide))
  have so := sorted_FL' (cellsOf t) h
  have en := enum_strs (splN t).reverse
  have cr := check_rows_ok T h
  have loop : forS (tupT 2 (consT (nameT 2) (consT (nameT 3) nilT))) (itB enumM (consA (un1 revVM (wrapL (strO (peekE 0) fun s => bindE (cE (.str [10])) fun x _ h => optR (splitM s h [x]) h))) nilA)) bRF [.val (.str t), .own [], .un, .un, .un, .un] h = .nx [.val (.str t), .own ((cellsOf t).map pairM), s2, s3, .un, .un] h := by
    rw [forS_at]
    have it : itB enumM (consA (un1 revVM (wrapL (strO (peekE 0) fun s => bindE (cE (.str [10])) fun x _ h => optR (splitM s h [x]) h))) nilA) [.val (.str t), .own [], .un, .un, .un, .un] h = .ok ((splN t).reverse.zipIdx.map fun p => .tup [.int (p.2 : Nat), .str p.1]) h := by
      simp [bindE_at, sp, revVM]
      rw [← List.map_reverse, en]
      rfl
    rw [it, bindFl_ok, rw1]
  have key : F_read_floor [.str t] h = if b = true ∧ drawL (flT t) = t then .ok (.ref h.nx) (h.push (.lst ((flT t).map pairM))) else .ex "NotDrawn" (.str t) h := by
    have f0 : (seqS (exprS (callE (callN 1 F_check_rows) [] (consA (varE 0) nilA))) (seqS (ownS 1 (lstO nilA)) (seqS (forS (tupT 2 (consT (nameT 2) (consT (nameT 3) nilT))) (itB enumM (consA (un1 revVM (wrapL (strO (peekE 0) fun s => bindE (cE (.str [10])) fun x _ h => optR (splitM s h [x]) h))) nilA)) bRF) (seqS (ownS 1 (callBO sortedPM (consA (peekE 1) nilA))) (seqS (ifS (orT (notT (tstE (pureE 1 F_is_floor [] (consA (peekE 1) nilA)))) (tstE (bin2 neM (pureE 1 F_drawn [] (consA (peekE 1) nilA)) (peekE 0)))) (raiseS "NotDrawn" (varE 0)) nextS) (retOwnS 1)))))) [.val (.str t), .un, .un, .un, .un, .un] h = if b = true ∧ drawL (flT t) = t then .rt (.ref h.nx) (h.push (.lst ((flT t).map pairM))) else .ex "NotDrawn" (.str t) [.val (.str t), .own ((flT t).map pairM), s2, s3, .un, .un] h := by
      simp [cr, -forS_at]
      rw [loop]
      simp [so]
      rw [show sortP (cellsOf t) = flT t from rfl]
      cases b with
      | false => simp [pf]
      | true =>
        simp [pf, pd rfl, nm]
        by_cases e : drawL (flT t) = t
        · simp [e]
          exact retOwnS_at 1 _ h rfl
        · simp [e]
    have f3 := congrArg endFl f0
    refine Eq.trans f3 ?_
    by_cases c : b = true ∧ drawL (flT t) = t
    · rw [if_pos c, if_pos c]; rfl
    · rw [if_neg c, if_neg c]; rfl
  rw [key]
  constructor
  · intro td
    rw [if_pos ⟨f2.mpr td.1, td.2⟩]
  · intro td
    rw [if_neg fun c => td ⟨f2.mp c.1, c.2⟩]
end K83
end P_U11
section P_U12
set_option Elab.async false
set_option linter.all false
set_option maxRecDepth 100000
set_option maxHeartbeats 4000000
/-! U12: what is due and what is heard -/
namespace Mi
open PySem PySem.Spec PyProof.Rows L2
theorem tryS_at (tab : List (Str × Bool)) (i j : Nat) (b : SM) (σ : Sl) (h : MH) : tryS tab i j b σ h = match b σ h with
  | .ex c v σ' h' => (match tab.lookup c with
    | some true => if i < σ'.length then .nx ((σ'.set j (.val (.exc c v))).set i .un) h' else .no
    | some false => .ex c v σ' h'
    | none => .no)
  | r => r := rfl
end Mi
namespace K83
open PySem PySem.Spec PyProof.Rows L2 Mi TL
theorem due_ok {t : List Nat} (T : Txt t) (h : MH) : (Told t → F__law_due [.str t] h = .ok (.lst [.str [116, 111, 108, 100], FL (flT t)]) h) ∧ (¬ Told t → F__law_due [.str t] h = .ok (.lst [.str [110, 111, 110, 101], .str t]) h) := by
  have z := zl_def
  have l0 : (flT t).length ≤ 300000 := by
    have := flT_len t
    have := T.l
    omega
  obtain ⟨b, f1, f2⟩ := law_floor_ok (h := h) l0 (pw_nodup (flT_pw t))
  have f3 : b = true ↔ FlR (flT t) := f2.trans ⟨fun c => ⟨fun e => by rw [e] at c; exact c, flT_pos t, pw_chn _ (flT_pw t), c⟩, fun c => c.conn⟩
  obtain ⟨s2, s3, rw1⟩ := rows_Du (h := h) T.o (.str t)
  have pd : b = true → F__law_drawn [FL (flT t)] h = .ok (.str (drawL (flT t))) h := fun hb => lawdrawn_ok (T.fin (f3.mp hb))
  have nm : eqM h (.str (drawL (flT t))) (.str t) = some (.bl (decide (drawL (flT t) = t))) := by
    unfold eqM
    rw [if_pos ⟨ok_draw _, ok_txt T.o⟩, meq_str]
  have sp : splitM t h [.str [10]] = some ((splN t).map .str) := split10 (Nat.le_trans T.l (by decide))
  have so : sortedPM h [FL (cellsOf t)] = some ((flT t).map pairM) := sorted_FL' (cellsOf t) h
  have en := enum_strs (splN t).reverse
  have loop : forS (tupT 2 (consT (nameT 2) (consT (nameT 3) nilT))) (itB enumM (consA (un1 revVM (wrapL (strO (peekE 0) fun s => bindE (cE (.str [10])) fun x _ h => optR (splitM s h [x]) h))) nilA)) bDu [.val (.str t), .val (.lst []), .un, .un, .un, .un] h = .nx [.val (.str t), .val (FL (cellsOf t)), s2, s3, .un, .un] h := by
    rw [forS_at]
    have it : itB enumM (consA (un1 revVM (wrapL (strO (peekE 0) fun s => bindE (cE (.str [10])) fun x _ h => optR (splitM s h [x]) h))) nilA) [.val (.str t), .val (.lst []), .un, .un, .un, .un] h = .ok ((splN t).reverse.zipIdx.map fun p => .tup [.int (p.2 : Nat), .str p.1]) h := by
      simp [bindE_at, sp, revVM]
      rw [← List.map_reverse, en]
      rfl
    rw [it, bindFl_ok, rw1]
  have key : F__law_due [.str t] h = if b = true ∧ drawL (flT t) = t then .ok (.lst [.str [116, 111, 108, 100], FL (flT t)]) h else .ok (.lst [.str [110, 111, 110, 101], .str t]) h := by
    have f0 : (seqS (setS 1 (wrapL (lstO nilA))) (seqS (forS (tupT 2 (consT (nameT 2) (consT (nameT 3) nilT))) (itB enumM (consA (un1 revVM (wrapL (strO (peekE 0) fun s => bindE (cE (.str [10])) fun x _ h => optR (splitM s h [x]) h))) nilA)) bDu) (seqS (setS 1 (wrapL (callBO sortedPM (consA (peekE 1) nilA)))) (retS (ifE (andT (tstE (callE (callN 1 F__law_is_floor) [] (consA (varE 1) nilA))) (tstE (bin2 eqM (callE (callN 1 F__law_drawn) [] (consA (varE 1) nilA)) (peekE 0)))) (wrapL (lstO (consA (cE (.str [116, 111, 108, 100])) (consA (varE 1) nilA)))) (wrapL (lstO (consA (cE (.str [110, 111, 110, 101])) (consA (varE 0) nilA))))))))) [.val (.str t), .un, .un, .un, .un, .un] h = if b = true ∧ drawL (flT t) = t then .rt (.lst [.str [116, 111, 108, 100], FL (flT t)]) h else .rt (.lst [.str [110, 111, 110, 101], .str t]) h := by
      simp [-forS_at]
      rw [loop]
      simp [so]
      rw [show MV.lst ((flT t).map pairM) = FL (flT t) from rfl]
      cases b with
      | false => simp [f1]
      | true =>
        simp [f1, pd rfl, nm]
        by_cases e : drawL (flT t) = t <;> simp [e]
    have f3 := congrArg endFl f0
    refine Eq.trans f3 ?_
    by_cases c : b = true ∧ drawL (flT t) = t
    · rw [if_pos c, if_pos c]; rfl
    · rw [if_neg c, if_neg c]; rfl
  rw [key]
  constructor
  · intro td
    rw [if_pos ⟨f3.mpr td.1, td.2⟩]
  · intro td
    rw [if_neg fun c => td ⟨f3.mp c.1, c.2⟩]
/-- which of the two is asked -/
def askE : EM := (ifE (tstE (bin2 eqM (peekE 0) (cE (.int 0)))) (callE (callN 1 F_floor_drawing) [] (consA (varE 1) nilA)) (callE (callN 1 F_read_floor) [] (consA (varE 1) nilA)))
def ask (k : Int) (x : MV) (h : MH) : Res MV := if k = 0 then F_floor_drawing [x] h else F_read_floor [x] h
theorem ask_at {k : Int} {x : MV} {s2 s3 s4 : SV} {h : MH} : askE [.val (.int k), .val x, s2, s3, s4] h = ask k x h := by
  have e : eqM h (.int k) (.int 0) = some (.bl (decide (k = 0))) := by
    unfold eqM
    rw [if_pos ⟨rfl, rfl⟩]
    simp only [meq]
    congr 2
  unfold askE ask
  by_cases c : k = 0 <;> simp [e, c, callN]
def bTr : SM := retS (wrapL (lstO (consA (cE (.str [116, 111, 108, 100])) (consA askE nilA))))
def bRs : SM := (seqS (setS 4 (wrapL (lstO (consA (un1 (isCM is_InvalidFloor.1 is_InvalidFloor.2) (peekE 2)) (consA (un1 (isCM is_InvalidText.1 is_InvalidText.2) (peekE 2)) (consA (un1 (isCM is_NotDrawn.1 is_NotDrawn.2) (peekE 2)) nilA)))))) (retS (ifE (tstE (bin2 eqM (methE "list" countM (peekE 4) (consA (cE (.bl true)) nilA)) (cE (.int 1)))) (wrapL (lstO (consA (bin2 ixDM (wrapL (lstO (consA (cE (.str [102, 108, 111, 111, 114])) (consA (cE (.str [116, 101, 120, 116])) (consA (cE (.str [110, 111, 110, 101])) nilA))))) (methE "list" indexM (peekE 4) (consA (cE (.bl true)) nilA))) (consA (un1 (xvalM xvals) (varE 2)) nilA)))) (wrapL (lstO (consA (cE (.str [111, 116, 104, 101, 114])) (consA (cE .non) nilA)))))))
theorem heard_at {k : Int} {x : MV} {h : MH} : F__law_heard [.int k, x] h = endFl (seqFl (tryS ht_SightError 3 2 bTr [.val (.int k), .val x, .val .non, .un, .un] h) bRs) := by
  have e : seqS (setS 2 (cE .non)) (seqS (tryS ht_SightError 3 2 bTr) bRs) [.val (.int k), .val x, .un, .un, .un] h = seqFl (tryS ht_SightError 3 2 bTr [.val (.int k), .val x, .val .non, .un, .un] h) bRs := by
    simp
  exact congrArg endFl e
theorem heard_told {k : Int} {x m : MV} {h h' : MH} (e : ask k x h = .ok m h') : F__law_heard [.int k, x] h = .ok (.lst [.str [116, 111, 108, 100], m]) h' := by
  rw [heard_at]
  have a := ask_at (k := k) (x := x) (s2 := .val .non) (s3 := .un) (s4 := .un) (h := h)
  rw [e] at a
  have t : bTr [.val (.int k), .val x, .val .non, .un, .un] h = .rt (.lst [.str [116, 111, 108, 100], m]) h' := by
    unfold bTr
    simp [a]
  rw [tryS_at, t]
  rfl
def wordOf (c : Str) : List Nat := if c = "InvalidFloor" then [102, 108, 111, 111, 114] else if c = "InvalidText" then [116, 101, 120, 116] else [110, 111, 110, 101]
theorem xval_ok {c : Str} {m : MV} {h : MH} (hc : c = "InvalidFloor" ∨ c = "InvalidText" ∨ c = "NotDrawn") (hm : isNoV m = false) : xvalM xvals h (.exc c m) = some m := by
  show (if xvals.contains c = true ∧ isNoV m = false then some m else none) = _
  rw [if_pos ⟨by rcases hc with rfl | rfl | rfl <;> decide +kernel, hm⟩]
theorem rest_ex {k : Int} {c : Str} {x m : MV} {h' : MH} (hc : c = "InvalidFloor" ∨ c = "InvalidText" ∨ c = "NotDrawn") (hm : isNoV m = false) : bRs [.val (.int k), .val x, .val (.exc c m), .un, .un] h' = .rt (.lst [.str (wordOf c), m]) h' := by
  have xv := xval_ok (h := h') hc hm
  have e1 : eqM h' (.int 1) (.int 1) = some (.bl true) := rfl
  unfold bRs
  rcases hc with rfl | rfl | rfl
  · have a1 : isCM is_InvalidFloor.1 is_InvalidFloor.2 h' (.exc "InvalidFloor" m) = some (.bl true) := rfl
    have a2 : isCM is_InvalidText.1 is_InvalidText.2 h' (.exc "InvalidFloor" m) = some (.bl false) := rfl
    have a3 : isCM is_NotDrawn.1 is_NotDrawn.2 h' (.exc "InvalidFloor" m) = some (.bl false) := rfl
    have ty : tyT h' (.lst [.bl true, .bl false, .bl false]) = some "list" := rfl
    have ct : countM h' (.lst [.bl true, .bl false, .bl false]) [.bl true] = some (.int 1, h') := rfl
    have ix : indexM h' (.lst [.bl true, .bl false, .bl false]) [.bl true] = some (.int 0, h') := rfl
    simp [a1, a2, a3, methE_at, ty, ct, ix, opR, e1, xv]
    rfl
  · have a1 : isCM is_InvalidFloor.1 is_InvalidFloor.2 h' (.exc "InvalidText" m) = some (.bl false) := rfl
    have a2 : isCM is_InvalidText.1 is_InvalidText.2 h' (.exc "InvalidText" m) = some (.bl true) := rfl
    have a3 : isCM is_NotDrawn.1 is_NotDrawn.2 h' (.exc "InvalidText" m) = some (.bl false) := rfl
    have ty : tyT h' (.lst [.bl false, .bl true, .bl false]) = some "list" := rfl
    have ct : countM h' (.lst [.bl false, .bl true, .bl false]) [.bl true] = some (.int 1, h') := rfl
    have ix : indexM h' (.lst [.bl false, .bl true, .bl false]) [.bl true] = some (.int 1, h') := rfl
    simp [a1, a2, a3, methE_at, ty, ct, ix, opR, e1, xv]
    rfl
  · have a1 : isCM is_InvalidFloor.1 is_InvalidFloor.2 h' (.exc "NotDrawn" m) = some (.bl false) := rfl
    have a2 : isCM is_InvalidText.1 is_InvalidText.2 h' (.exc "NotDrawn" m) = some (.bl false) := rfl
    have a3 : isCM is_NotDrawn.1 is_NotDrawn.2 h' (.exc "NotDrawn" m) = some (.bl true) := rfl
    have ty : tyT h' (.lst [.bl false, .bl false, .bl true]) = some "list" := rfl
    have ct : countM h' (.lst [.bl false, .bl false, .bl true]) [.bl true] = some (.int 1, h') := rfl
    have ix : indexM h' (.lst [.bl false, .bl false, .bl true]) [.bl true] = some (.int 2, h') := rfl
    simp [a1, a2, a3, methE_at, ty, ct, ix, opR, e1, xv]
    rfl
theorem heard_ex {k : Int} {c : Str} {x m : MV} {h h' : MH} (e : ask k x h = .ex c m h') (hc : c = "InvalidFloor" ∨ c = "InvalidText" ∨ c = "NotDrawn") (hm : isNoV m = false) : F__law_heard [.int k, x] h = .ok (.lst [.str (wordOf c), m]) h' := by
  rw [heard_at]
  have a := ask_at (k := k) (x := x) (s2 := .val .non) (s3 := .un) (s4 := .un) (h := h)
  rw [e] at a
  have t : bTr [.val (.int k), .val x, .val .non, .un, .un] h = .ex c m [.val (.int k), .val x, .val .non, .un, .un] h' := by
    unfold bTr
    simp [a]
  have t2 : tryS ht_SightError 3 2 bTr [.val (.int k), .val x, .val .non, .un, .un] h = .nx [.val (.int k), .val x, .val (.exc c m), .un, .un] h' := by
    rw [tryS_at, t]
    rcases hc with rfl | rfl | rfl <;> rfl
  rw [t2, seqFl_nx, rest_ex hc hm]
  rfl
/-- the same by _law_exact -/
theorem same_ok {a b d : MV} {h : MH} (ha : der40 h a = some d) (hb : der40 h b = some d) (ok : okX 11 d = true) : pureF F__law_exact [a, b] h = .ok (.bl true) h := by
  unfold pureF
  have : allM (der40 h) [a, b] = some [d, d] := by
    simp only [allM, ha, hb]
  rw [this]
  dsimp only
  rw [exact_at ok]
  rfl
theorem okX_FL (n : Nat) (fl : List Cel) (l : fl.length ≤ 300000) : okX (n + 2) (FL fl) = true := by
  show (decide _ && (fl.map pairM).all (okX (n + 1))) = true
  have z := zl_def
  rw [Bool.and_eq_true]
  refine ⟨decide_eq_true (by rw [List.length_map]; omega), ?_⟩
  rw [List.all_map]
  exact List.all_eq_true.mpr fun x _ => by cases n <;> rfl
theorem okX_txt {n : Nat} {t : List Nat} (T : Txo t) : okX n (.str t) = true := by
  have h : t.all (· < 0x110000) = true := List.all_eq_true.mpr fun c hc => by
    have := T.1 c hc
    simp
    omega
  cases n <;> exact h
/-- a text is heard as it is due -/
theorem dh_ok {t : List Nat} (T : Txt t) (h : MH) : ∃ (a b : MV) (h' : MH), F__law_due [.str t] h = .ok a h ∧ F__law_heard [.int 1, .str t] h = .ok b h' ∧ pureF F__law_exact [a, b] h' = .ok (.bl true) h' ∧ (h' = h ∨ ∃ o, h' = h.push o) := by
  have l0 : (flT t).length ≤ 300000 := by
    have := flT_len t
    have := T.l
    omega
  by_cases td : Told t
  · refine ⟨_, _, _, (due_ok T h).1 td, heard_told (show ask 1 (.str t) h = _ from (read_ok T h).1 td), ?_, .inr ⟨_, rfl⟩⟩
    refine same_ok (d := .lst [.str [116, 111, 108, 100], FL (flT t)]) ?_ ?_ ?_
    · have := der_FL (h.push (.lst ((flT t).map pairM))) 36 (flT t)
      show (allM (der _ 39) [_, _]).map MV.lst = _
      simp only [allM]
      rw [show der (h.push (.lst ((flT t).map pairM))) 39 (.str [116, 111, 108, 100]) = some (.str [116, 111, 108, 100]) from rfl]
      rw [this]
      rfl
    · have e : der (h.push (.lst ((flT t).map pairM))) 39 (.ref h.nx) = some (FL (flT t)) := by
        have g : (h.push (.lst ((flT t).map pairM))).get h.nx = some (.lst ((flT t).map pairM)) := if_pos rfl
        unfold der
        dsimp only
        rw [g]
        dsimp only
        rw [allM_self fun x hx => by
          obtain ⟨c, _, rfl⟩ := List.mem_map.mp hx
          exact der_pair _ 36 c]
        rfl
      show (allM (der _ 39) [_, _]).map MV.lst = _
      simp only [allM]
      rw [show der (h.push (.lst ((flT t).map pairM))) 39 (.str [116, 111, 108, 100]) = some (.str [116, 111, 108, 100]) from rfl]
      rw [e]
      rfl
    · have := okX_FL 8 (flT t) l0
      show (decide _ && ((okX 10 (.str [116, 111, 108, 100])) && (okX 10 (FL (flT t)) && true))) = true
      rw [this]
      rfl
  · refine ⟨_, _, _, (due_ok T h).2 td, heard_ex (show ask 1 (.str t) h = _ from (read_ok T h).2 td) (.inr (.inr rfl)) rfl, ?_, .inl rfl⟩
    refine same_ok (d := .lst [.str [110, 111, 110, 101], .str t]) rfl rfl ?_
    have := okX_txt (n := 10) T.o
    show (decide _ && ((okX 10 (.str [110, 111, 110, 101])) && (okX 10 (.str t) && true))) = true
    rw [this]
    rfl
end K83
end P_U12
section P_U13
set_option Elab.async false
set_option linter.all false
set_option maxRecDepth 100000
set_option maxHeartbeats 4000000
/-! U13: bent texts -/
namespace K83
open PySem PySem.Spec PyProof.Rows L2 Mi TL
theorem len_strM (s : List Nat) (h : MH) (l : s.length ≤ zl) : lenM h [.str s] = some (.int s.length) := by
  unfold lenM mvLen
  dsimp only
  rw [if_pos l]
  rfl
theorem add_Ms (a b : List Nat) (h : MH) (l : a.length + b.length ≤ zl) : addM h (.str a) (.str b) = some (.str (a ++ b)) := if_pos l
theorem slS_to {s : List Nat} (i : Nat) (h : MH) (l : s.length ≤ zl) : slM none (some (i : Int)) h (.str s) = some (.str (s.take i)) := by rw [slM_str _ _ _ _ l, cutL_to]
theorem slS_from {s : List Nat} (i : Nat) (h : MH) (l : s.length ≤ zl) : slM (some (i : Int)) none h (.str s) = some (.str (s.drop i)) := by rw [slM_str _ _ _ _ l, cutL_from]
theorem slS_mid {s : List Nat} (i j : Nat) (h : MH) (l : s.length ≤ zl) : slM (some (i : Int)) (some (j : Int)) h (.str s) = some (.str ((s.take j).drop i)) := by rw [slM_str _ _ _ _ l, cutL_mid]
theorem rev_str {s : List Nat} (h : MH) (l : s.length ≤ zl) : revVM h (.str s) = some (.str s.reverse) := if_pos l
/-- only allowed signs, at most n -/
def Lm (n : Nat) (t : List Nat) : Prop := (∀ c ∈ t, okC c = true) ∧ t.length ≤ n
theorem Lm.take {n : Nat} {t : List Nat} (h : Lm n t) (d : Nat) : Lm n (t.take d) := ⟨fun c hc => h.1 c (List.mem_of_mem_take hc), by
  have := h.2
  rw [List.length_take]
  omega⟩
theorem Lm.drop {n : Nat} {t : List Nat} (h : Lm n t) (d : Nat) : Lm n (t.drop d) := ⟨fun c hc => h.1 c (List.mem_of_mem_drop hc), by
  have := h.2
  rw [List.length_drop]
  omega⟩
theorem Lm.app {n m : Nat} {a b : List Nat} (ha : Lm n a) (hb : Lm m b) : Lm (n + m) (a ++ b) := ⟨fun c hc => (List.mem_append.mp hc).elim (ha.1 c) (hb.1 c), by
  have := ha.2
  have := hb.2
  rw [List.length_append]
  omega⟩
theorem Lm.rev {n : Nat} {a : List Nat} (ha : Lm n a) : Lm n a.reverse := ⟨fun c hc => ha.1 c (List.mem_reverse.mp hc), by rw [List.length_reverse]; exact ha.2⟩
theorem Lm.up {n m : Nat} {a : List Nat} (ha : Lm n a) (l : n ≤ m) : Lm m a := ⟨ha.1, Nat.le_trans ha.2 l⟩
theorem Lm.txt {n : Nat} {a : List Nat} (ha : Lm n a) (l : n ≤ 600) : Txt a := ⟨List.all_eq_true.mpr ha.1, Nat.le_trans ha.2 l⟩
def SGN : MV := .lst [.str [35], .str [46], .str [10], .str [35, 35], .str [32], .str [120], .str [126]]
theorem sgn_mem {m : MV} (h : m ∈ [MV.str [35], .str [46], .str [10], .str [35, 35], .str [32], .str [120], .str [126]]) : ∃ s, m = .str s ∧ Lm 2 s := by
  simp only [List.mem_cons, List.not_mem_nil, or_false] at h
  rcases h with rfl | rfl | rfl | rfl | rfl | rfl | rfl <;> exact ⟨_, rfl, by decide, by decide⟩
def bE8 : EM := (wrapL (lstO (consA (bin2 addM (bin2 addM (slV (peekE 1) noP (prtP (peekE 3))) (peekE 4)) (slV (peekE 1) (prtP (peekE 3)) noP)) (consA (bin2 addM (slV (peekE 1) noP (prtP (peekE 3))) (slV (peekE 1) (prtP (bin2 addM (peekE 3) (cE (.int 1)))) noP)) (consA (bin2 addM (bin2 addM (slV (peekE 1) noP (prtP (peekE 3))) (peekE 4)) (slV (peekE 1) (prtP (bin2 addM (peekE 3) (cE (.int 1)))) noP)) (consA (slV (peekE 1) noP (prtP (peekE 3))) (consA (slV (peekE 1) (prtP (peekE 3)) noP) (consA (bin2 addM (peekE 1) (peekE 4)) (consA (bin2 addM (peekE 4) (peekE 1)) nilA)))))))))
def bE4 : EM := (wrapL (lstO (consA (bin2 addM (slV (peekE 1) noP (prtP (peekE 6))) (slV (peekE 1) (prtP (peekE 7)) noP)) (consA (bin2 addM (slV (peekE 1) noP (prtP (peekE 7))) (slV (peekE 1) (prtP (peekE 6)) noP)) (consA (bin2 addM (un1 revVM (slV (peekE 1) (prtP (peekE 6)) (prtP (peekE 7)))) (slV (peekE 1) (prtP (peekE 7)) noP)) (consA (bin2 addM (peekE 1) (peekE 1)) nilA))))))
section
variable {r N B : Nat} {t s : List Nat} {h : MH} {d lo hi : Nat} {s0 s2 s5 s6 s7 s8 : SV}
theorem e8_ok (T : Lm 280 t) (S : Lm 2 s) : ∃ L : List (List Nat), bE8 [s0, .val (.str t), s2, .val (.int (d : Nat)), .val (.str s), s5, s6, s7, s8] h = .ok (.lst (L.map .str)) h ∧ (∀ x ∈ L, Lm 600 x) ∧ L.length = 7 := by
  have z := zl_def
  have l := T.2
  have ls := S.2
  have lz : t.length ≤ zl := by omega
  have a1 := slS_to (s := t) d h lz
  have a2 := slS_from (s := t) d h lz
  have a3 := slS_from (s := t) (d + 1) h lz
  have l1 : (t.take d).length ≤ 280 := (T.take d).2
  have l2 : (t.drop d).length ≤ 280 := (T.drop d).2
  have l3 : (t.drop (d + 1)).length ≤ 280 := (T.drop (d + 1)).2
  have b1 := add_Ms (t.take d) s h (by omega)
  have b2 := add_Ms (t.take d ++ s) (t.drop d) h (by rw [List.length_append]; omega)
  have b3 := add_Ms (t.take d) (t.drop (d + 1)) h (by omega)
  have b4 := add_Ms (t.take d ++ s) (t.drop (d + 1)) h (by rw [List.length_append]; omega)
  have b5 := add_Ms t s h (by omega)
  have b6 := add_Ms s t h (by omega)
  refine ⟨[t.take d ++ s ++ t.drop d, t.take d ++ t.drop (d + 1), t.take d ++ s ++ t.drop (d + 1), t.take d, t.drop d, t ++ s, s ++ t], ?_, ?_, rfl⟩
  · unfold bE8
    have cd : ((d : Int) + 1) = ((d + 1 : Nat) : Int) := rfl
    simp only [wrapL_at, lstO_at, consA_at, nilA_at, bin2_at, slV_at, peekE_at, noP_at, prtP_at, cE_at, List.getElem?_cons_succ, List.getElem?_cons_zero, bindR_ok, optR_some, add_Mi, a1, a2, cd, a3, b1, b2, b3, b4, b5, b6]
    rfl
  · intro x hx
    simp only [List.mem_cons, List.not_mem_nil, or_false] at hx
    rcases hx with rfl | rfl | rfl | rfl | rfl | rfl | rfl
    · exact (((T.take d).app S).app (T.drop d)).up (by decide)
    · exact ((T.take d).app (T.drop _)).up (by decide)
    · exact (((T.take d).app S).app (T.drop _)).up (by decide)
    · exact (T.take d).up (by decide)
    · exact (T.drop d).up (by decide)
    · exact (T.app S).up (by decide)
    · exact (S.app T).up (by decide)
theorem e4_ok {s3 s4 : SV} (T : Lm 280 t) : ∃ L : List (List Nat), bE4 [s0, .val (.str t), s2, s3, s4, s5, .val (.int (lo : Nat)), .val (.int (hi : Nat)), s8] h = .ok (.lst (L.map .str)) h ∧ (∀ x ∈ L, Lm 600 x) ∧ L.length = 4 := by
  have z := zl_def
  have l := T.2
  have lz : t.length ≤ zl := by omega
  have a1 := slS_to (s := t) lo h lz
  have a2 := slS_from (s := t) lo h lz
  have a3 := slS_to (s := t) hi h lz
  have a4 := slS_from (s := t) hi h lz
  have a5 := slS_mid (s := t) lo hi h lz
  have l1 : (t.take lo).length ≤ 280 := (T.take _).2
  have l2 : (t.drop lo).length ≤ 280 := (T.drop _).2
  have l3 : (t.take hi).length ≤ 280 := (T.take _).2
  have l4 : (t.drop hi).length ≤ 280 := (T.drop _).2
  have l5 : ((t.take hi).drop lo).length ≤ 280 := ((T.take hi).drop lo).2
  have b1 := add_Ms (t.take lo) (t.drop hi) h (by omega)
  have b2 := add_Ms (t.take hi) (t.drop lo) h (by omega)
  have b3 := rev_str (s := (t.take hi).drop lo) h (by omega)
  have b4 := add_Ms ((t.take hi).drop lo).reverse (t.drop hi) h (by rw [List.length_reverse]; omega)
  have b5 := add_Ms t t h (by omega)
  refine ⟨[t.take lo ++ t.drop hi, t.take hi ++ t.drop lo, ((t.take hi).drop lo).reverse ++ t.drop hi, t ++ t], ?_, ?_, rfl⟩
  · unfold bE4
    simp only [wrapL_at, lstO_at, consA_at, nilA_at, bin2_at, un1_at, slV_at, peekE_at, noP_at, prtP_at, cE_at, List.getElem?_cons_succ, List.getElem?_cons_zero, bindR_ok, optR_some, a1, a2, a3, a4, a5, b1, b2, b3, b4, b5]
    rfl
  · intro x hx
    simp only [List.mem_cons, List.not_mem_nil, or_false] at hx
    rcases hx with rfl | rfl | rfl | rfl
    · exact ((T.take lo).app (T.drop hi)).up (by decide)
    · exact ((T.take hi).app (T.drop lo)).up (by decide)
    · exact (((T.take hi).drop lo).rev.app (T.drop hi)).up (by decide)
    · exact (T.app T).up (by decide)
end
theorem signs_ok {r N B : Nat} {t : List Nat} {h : MH} (T : Lm 280 t) (H : HP h N B) (hr : r < N) (hB : B + 4 < 1000000) : ∃ (x : List Nat) (h' : MH), F__law_of_signs [.ref r, .str t, SGN] h = .ok (.str x) h' ∧ Txt x ∧ HP h' N (B + 4) ∧ Dr N h h' := by
  have l := T.2
  have z := zl_def
  obtain ⟨d0, h1, e1, d1, H1, D1⟩ := draw_ok H hr (by omega) (m := t.length + 1) (by omega) (by omega)
  obtain ⟨m, h2, e2, hm, H2, D2⟩ := one_of_ok (xs := [MV.str [35], .str [46], .str [10], .str [35, 35], .str [32], .str [120], .str [126]]) H1 hr (by omega) (by decide) (by decide)
  obtain ⟨s, rfl, S⟩ := sgn_mem hm
  obtain ⟨d2, h3, e3, d3, H3, D3⟩ := draw_ok H2 hr (by omega) (m := t.length + 1) (by omega) (by omega)
  obtain ⟨lo, mn⟩ : ∃ lo : Nat, minM h3 [.int (d0 : Nat), .int (d2 : Nat)] = some (.int (lo : Nat)) := by
    show ∃ lo : Nat, some (MV.int (if (d2 : Int) < d0 then d2 else d0)) = _
    by_cases c : (d2 : Int) < d0
    · exact ⟨d2, by rw [if_pos c]⟩
    · exact ⟨d0, by rw [if_neg c]⟩
  obtain ⟨hi, mxx⟩ : ∃ lo : Nat, maxM h3 [.int (d0 : Nat), .int (d2 : Nat)] = some (.int (lo : Nat)) := by
    show ∃ lo : Nat, some (MV.int (if (d2 : Int) > d0 then d2 else d0)) = _
    by_cases c : (d2 : Int) > d0
    · exact ⟨d2, by rw [if_pos c]⟩
    · exact ⟨d0, by rw [if_neg c]⟩
  obtain ⟨L8, q1, q2, q3⟩ := e8_ok (h := h3) (d := d0) (s0 := .val (.ref r)) (s2 := .val SGN) (s5 := .val (.int (d2 : Nat))) (s6 := .val (.int (lo : Nat))) (s7 := .val (.int (hi : Nat))) (s8 := .un) T S
  obtain ⟨L4, p1, p2, p3⟩ := e4_ok (h := h3) (lo := lo) (hi := hi) (s0 := .val (.ref r)) (s2 := .val SGN) (s3 := .val (.int (d0 : Nat))) (s4 := .val (.str s)) (s5 := .val (.int (d2 : Nat))) (s8 := .val (.lst (L8.map .str))) T
  obtain ⟨m, h4, e4, hm, H4, D4⟩ := one_of_ok (xs := (L8 ++ L4).map .str) H3 hr (by omega) (by simp; omega) (by simp; omega)
  obtain ⟨x, hx, rfl⟩ := List.mem_map.mp hm
  have X : Lm 600 x := (List.mem_append.mp hx).elim (q2 x) (p2 x)
  refine ⟨x, h4, ?_, X.txt (by decide), H4, D1.trans (D2.trans (D3.trans D4))⟩
  have ct : ((t.length : Int) + 1) = ((t.length + 1 : Nat) : Int) := rfl
  have ad := add_Ml (L8.map .str) (L4.map .str) h3 (by rw [List.length_map, List.length_map]; omega)
  rw [← List.map_append] at ad
  have f0 : (seqS (par2S 3 4 (.v (callE (callN 2 F__law_draw) [] (consA (varE 0) (consA (bin2 addM (callB lenM (consA (peekE 1) nilA)) (cE (.int 1))) nilA)))) (.v (callE (callN 2 F__law_one_of) [] (consA (varE 0) (consA (varE 2) nilA))))) (seqS (setS 5 (callE (callN 2 F__law_draw) [] (consA (varE 0) (consA (bin2 addM (callB lenM (consA (peekE 1) nilA)) (cE (.int 1))) nilA)))) (seqS (par2S 6 7 (.v (callB minM (consA (peekE 3) (consA (peekE 5) nilA)))) (.v (callB maxM (consA (peekE 3) (consA (peekE 5) nilA))))) (seqS (setS 8 bE8) (retS (callE (callN 2 F__law_one_of) [] (consA (varE 0) (consA (bin2 addM (peekE 8) bE4) nilA)))))))) [.val (.ref r), .val (.str t), .val SGN, .un, .un, .un, .un, .un, .un] h = .rt (.str x) h4 := by
    have e2' : F__law_one_of [.ref r, SGN] h1 = .ok (.str s) h2 := e2
    have le : ∀ h, lenM h [.str t] = some (.int t.length) := fun h => len_strM t h (by omega)
    simp [le]
    rw [ct, e1]
    simp [e2', le]
    rw [ct, e3]
    simp [mn, mxx]
    rw [q1]
    simp
    rw [p1]
    simp only [bindR_ok, ad, optR_some]
    rw [e4]
    rfl
  exact congrArg endFl f0
end K83
end P_U13
section P_U14
set_option Elab.async false
set_option linter.all false
set_option maxRecDepth 100000
set_option maxHeartbeats 4000000
/-! U14: floors that are grown -/
namespace K83
open PySem PySem.Spec PyProof.Rows L2 Mi TL
theorem Rch.mono {S S' : List Cel} {a b : Cel} (h : ∀ x ∈ S, x ∈ S') (r : Rch S a b) : Rch S' a b := by
  induction r with
  | refl => exact .refl
  | step r hc a ih => exact .step ih (h _ hc) a
theorem Rch.trans {S : List Cel} {a b c : Cel} (r : Rch S a b) (q : Rch S b c) : Rch S a c := by
  induction q with
  | refl => exact r
  | step q hc a ih => exact .step ih hc a
theorem Rch.symm {S : List Cel} {a b : Cel} (r : Rch S a b) (ha : a ∈ S) : Rch S b a := by
  induction r with
  | refl => exact .refl
  | @step b c r hc ad ih =>
    have hb : b ∈ S := by
      cases r with
      | refl => exact ha
      | step _ h _ => exact h
    exact (Rch.step .refl hb ad.symm).trans ih
/-- grown in k steps -/
structure Gr (k : Nat) (L : List Cel) : Prop where
  nd : L.Nodup
  b : ∀ c ∈ L, 0 ≤ c.1 ∧ c.1 ≤ 2 + k ∧ 0 ≤ c.2 ∧ c.2 ≤ 2 + k
  l : L.length ≤ 1 + k
  ne : L ≠ []
  cn : ∀ x ∈ L, ∀ y ∈ L, Rch L x y
theorem Gr.one {c : Cel} (h : 0 ≤ c.1 ∧ c.1 ≤ 2 ∧ 0 ≤ c.2 ∧ c.2 ≤ 2) : Gr 0 [c] := ⟨List.pairwise_singleton _ _, fun d hd => by
  rw [List.mem_singleton.mp hd]
  exact h, Nat.le_refl _, by simp, fun x hx y hy => by
  rw [List.mem_singleton.mp hx, List.mem_singleton.mp hy]
  exact .refl⟩
theorem Gr.up {k : Nat} {L : List Cel} (g : Gr k L) : Gr (k + 1) L := ⟨g.nd, fun c hc => by
  have := g.b c hc
  omega, by have := g.l; omega, g.ne, g.cn⟩
theorem Gr.add {k : Nat} {L : List Cel} {o c : Cel} (g : Gr k L) (ho : o ∈ L) (a : Adj o c) (p : 0 ≤ c.1 ∧ 0 ≤ c.2) (hc : c ∉ L) : Gr (k + 1) (L ++ [c]) := by
  have sub : ∀ x ∈ L, x ∈ L ++ [c] := fun x hx => List.mem_append_left _ hx
  have cm : c ∈ L ++ [c] := List.mem_append_right _ List.mem_cons_self
  have toC : ∀ x ∈ L, Rch (L ++ [c]) x c := fun x hx => .step ((g.cn x hx o ho).mono sub) cm a
  refine ⟨?_, fun d hd => ?_, by rw [List.length_append, List.length_singleton]; have := g.l; omega, by simp, fun x hx y hy => ?_⟩
  · refine List.nodup_append.mpr ⟨g.nd, List.pairwise_singleton _ _, fun x hx y hy e => ?_⟩
    rw [List.mem_singleton.mp hy] at e
    exact hc (e ▸ hx)
  · rcases List.mem_append.mp hd with hd | hd
    · have := g.b d hd
      omega
    · rw [List.mem_singleton.mp hd]
      have := g.b o ho
      unfold Adj at a
      omega
  · rcases List.mem_append.mp hx with hx | hx
    · rcases List.mem_append.mp hy with hy | hy
      · exact (g.cn x hx y hy).mono sub
      · rw [List.mem_singleton.mp hy]
        exact toC x hx
    · rw [List.mem_singleton.mp hx]
      rcases List.mem_append.mp hy with hy | hy
      · exact (toC y hy).symm (sub y hy)
      · rw [List.mem_singleton.mp hy]
        exact .refl
theorem Gr.flr {k : Nat} {L : List Cel} (g : Gr k L) : FlR (sortP L) := by
  have pm := sortP_perm L
  have mm : ∀ x, x ∈ sortP L ↔ x ∈ L := fun x => pm.mem_iff
  refine ⟨fun z => g.ne ?_, List.all_eq_true.mpr fun c hc => ?_, pw_chn _ (sort_pw g.nd), ?_⟩
  · rw [z] at pm
    exact (List.nil_perm.mp pm)
  · have := g.b c ((mm c).mp hc)
    simp [posC, this.1, this.2.2.1]
  · cases e : sortP L with
    | nil =>
      rw [e] at pm
      exact (g.ne (List.nil_perm.mp pm)).elim
    | cons c cs =>
      intro x hx
      rw [e] at mm
      exact (g.cn c ((mm c).mp List.mem_cons_self) x ((mm x).mp hx)).mono fun y hy => (mm y).mpr hy
def stp (o : Cel) : List Cel := [(o.1 + 1, o.2), (o.1, o.2 + 1), (if 0 > o.1 - 1 then 0 else o.1 - 1, o.2), (o.1, if 0 > o.2 - 1 then 0 else o.2 - 1)]
theorem stp_ok {o c : Cel} (hp : 0 ≤ o.1 ∧ 0 ≤ o.2) (h : c ∈ stp o) : (c = o ∨ Adj o c) ∧ 0 ≤ c.1 ∧ 0 ≤ c.2 := by
  obtain ⟨x, y⟩ := o
  obtain ⟨u, v⟩ := c
  unfold stp at h
  unfold Adj
  simp only [List.mem_cons, List.not_mem_nil, or_false, Prod.mk.injEq] at h hp ⊢
  rcases h with h | h | h | h
  · omega
  · omega
  · split at h <;> omega
  · split at h <;> omega
def bG : SM := (seqS (asgS (tupT 2 (consT (nameT 3) (consT (nameT 4) nilT))) (callE (callN 2 F__law_one_of) [] (consA (varE 0) (consA (varE 1) nilA)))) (seqS (setS 5 (callE (callN 2 F__law_one_of) [] (consA (varE 0) (consA (wrapL (lstO (consA (tupE (consA (bin2 addM (peekE 3) (cE (.int 1))) (consA (varE 4) nilA))) (consA (tupE (consA (varE 3) (consA (bin2 addM (peekE 4) (cE (.int 1))) nilA))) (consA (tupE (consA (callB maxM (consA (bin2 subM (peekE 3) (cE (.int 1))) (consA (cE (.int 0)) nilA))) (consA (varE 4) nilA))) (consA (tupE (consA (varE 3) (consA (callB maxM (consA (bin2 subM (peekE 4) (cE (.int 1))) (consA (cE (.int 0)) nilA))) nilA))) nilA)))))) nilA)))) (setS 1 (bin2 addM (peekE 1) (bin2 mulM (wrapL (lstO (consA (varE 5) nilA))) (callB intM (consA (bin2 notInM (peekE 5) (peekE 1)) nilA)))))))
theorem mem_pair {m : MV} {L : List Cel} (h : m ∈ L.map pairM) : ∃ c ∈ L, m = pairM c := by
  obtain ⟨c, hc, rfl⟩ := List.mem_map.mp h
  exact ⟨c, hc, rfl⟩
theorem grow_step {r N B k : Nat} {L : List Cel} {h : MH} {s2 s3 s4 s5 : SV} (H : HP h N B) (hr : r < N) (hB : B + 2 < 1000000) (g : Gr k L) (hk : k < 100) :
    ∃ (L' : List Cel) (s3' s4' s5' : SV) (h' : MH), bG [.val (.ref r), .val (FL L), s2, s3, s4, s5] h = .nx [.val (.ref r), .val (FL L'), s2, s3', s4', s5'] h' ∧ Gr (k + 1) L' ∧ HP h' N (B + 2) ∧ Dr N h h' := by
  have z := zl_def
  have l := g.l
  have l0 : 0 < L.length := List.length_pos_iff.mpr g.ne
  obtain ⟨m, h1, e1, hm, H1, D1⟩ := one_of_ok (xs := L.map pairM) H hr (by omega) (by simpa using l0) (by simp; omega)
  obtain ⟨o, ho, rfl⟩ := mem_pair hm
  have op := g.b o ho
  obtain ⟨m, h2, e2, hm, H2, D2⟩ := one_of_ok (xs := (stp o).map pairM) H1 hr (by omega) (by simp [stp]) (by simp [stp])
  obtain ⟨c, hc, rfl⟩ := mem_pair hm
  obtain ⟨c1, c2⟩ := stp_ok ⟨op.1, op.2.2.1⟩ hc
  have mx1 : ∀ i : Int, ∀ h, maxM h [.int i, .int 0] = some (.int (if 0 > i then 0 else i)) := fun i h => rfl
  have ni := notIn_FL c L h2
  have e1' : F__law_one_of [.ref r, FL L] h = .ok (pairM o) h1 := e1
  have step1 : asgS (tupT 2 (consT (nameT 3) (consT (nameT 4) nilT))) (callE (callN 2 F__law_one_of) [] (consA (varE 0) (consA (varE 1) nilA))) [.val (.ref r), .val (FL L), s2, s3, s4, s5] h = .nx [.val (.ref r), .val (FL L), s2, .val (.int o.1), .val (.int o.2), s5] h1 := by
    simp [e1', pairM]
  have step2 : setS 5 (callE (callN 2 F__law_one_of) [] (consA (varE 0) (consA (wrapL (lstO (consA (tupE (consA (bin2 addM (peekE 3) (cE (.int 1))) (consA (varE 4) nilA))) (consA (tupE (consA (varE 3) (consA (bin2 addM (peekE 4) (cE (.int 1))) nilA))) (consA (tupE (consA (callB maxM (consA (bin2 subM (peekE 3) (cE (.int 1))) (consA (cE (.int 0)) nilA))) (consA (varE 4) nilA))) (consA (tupE (consA (varE 3) (consA (callB maxM (consA (bin2 subM (peekE 4) (cE (.int 1))) (consA (cE (.int 0)) nilA))) nilA))) nilA)))))) nilA))) [.val (.ref r), .val (FL L), s2, .val (.int o.1), .val (.int o.2), s5] h1 = .nx [.val (.ref r), .val (FL L), s2, .val (.int o.1), .val (.int o.2), .val (pairM c)] h2 := by
    have e2' := e2
    simp only [stp, List.map_cons, List.map_nil, pairM] at e2'
    simp [mx1]
    simp only [gt_iff_lt] at e2'
    rw [e2']
    simp [pairM]
  have step3 : ∀ b : Bool, decide (c ∈ L) = b → setS 1 (bin2 addM (peekE 1) (bin2 mulM (wrapL (lstO (consA (varE 5) nilA))) (callB intM (consA (bin2 notInM (peekE 5) (peekE 1)) nilA)))) [.val (.ref r), .val (FL L), s2, .val (.int o.1), .val (.int o.2), .val (pairM c)] h2 = .nx [.val (.ref r), .val (FL (if b then L else L ++ [c])), s2, .val (.int o.1), .val (.int o.2), .val (pairM c)] h2 := by
    intro b hb
    rw [hb] at ni
    cases b with
    | true =>
      have mu : mulM h2 (.lst [pairM c]) (.int 0) = some (.lst []) := rfl
      have ad : addM h2 (FL L) (.lst []) = some (FL L) := by
        unfold FL
        rw [add_Ml _ _ _ (by rw [List.length_map, List.length_nil]; omega), List.append_nil]
      simp [ni, mu, ad]
    | false =>
      have mu : mulM h2 (.lst [pairM c]) (.int 1) = some (.lst [pairM c]) := rfl
      have ad : addM h2 (FL L) (.lst [pairM c]) = some (FL (L ++ [c])) := by
        unfold FL
        rw [add_Ml _ _ _ (by rw [List.length_map, List.length_singleton]; omega), List.map_append]
        rfl
      simp [ni, mu, ad]
  have run : ∀ b : Bool, decide (c ∈ L) = b → bG [.val (.ref r), .val (FL L), s2, s3, s4, s5] h = .nx [.val (.ref r), .val (FL (if b then L else L ++ [c])), s2, .val (.int o.1), .val (.int o.2), .val (pairM c)] h2 := by
    intro b hb
    unfold bG
    rw [seqS_at, step1, seqFl_nx, seqS_at, step2, seqFl_nx, step3 b hb]
  by_cases e : c ∈ L
  · exact ⟨L, _, _, _, h2, run true (by simp [e]), g.up, H2, D1.trans D2⟩
  · exact ⟨L ++ [c], _, _, _, h2, run false (by simp [e]), g.add ho (c1.resolve_left fun z => e (z ▸ ho)) c2 e, H2, D1.trans D2⟩
theorem grow_loop {r N : Nat} (hr : r < N) : ∀ (is : List Nat) (B k : Nat) (L : List Cel) (h : MH) (s2 s3 s4 s5 : SV), HP h N B → B + 2 * is.length < 1000000 → Gr k L → k + is.length < 100 →
    ∃ (L' : List Cel) (s2' s3' s4' s5' : SV) (h' : MH), forL (nameT 2) bG (is.map fun i : Nat => .int i) [.val (.ref r), .val (FL L), s2, s3, s4, s5] h = .nx [.val (.ref r), .val (FL L'), s2', s3', s4', s5'] h' ∧ Gr (k + is.length) L' ∧ HP h' N (B + 2 * is.length) ∧ Dr N h h'
  | [], B, k, L, h, s2, s3, s4, s5, H, _, g, _ => ⟨L, s2, s3, s4, s5, h, rfl, g, H, .refl⟩
  | i :: is, B, k, L, h, s2, s3, s4, s5, H, hB, g, hk => by
    rw [List.length_cons] at hB hk
    obtain ⟨L1, t3, t4, t5, h1, e1, g1, H1, D1⟩ := grow_step (s2 := .val (.int (i : Nat))) (s3 := s3) (s4 := s4) (s5 := s5) H hr (by omega) g (by omega)
    obtain ⟨L2, u2, u3, u4, u5, h2, e2, g2, H2, D2⟩ := grow_loop hr is (B + 2) (k + 1) L1 h1 (.val (.int (i : Nat))) t3 t4 t5 H1 (by omega) g1 (by omega)
    refine ⟨L2, u2, u3, u4, u5, h2, ?_, ?_, ?_, D1.trans D2⟩
    · rw [List.map_cons, forL_cons (ht := rfl)]
      have st : ([.val (.ref r), .val (FL L), s2, s3, s4, s5] : Sl).set 2 (.val (.int (i : Nat))) = [.val (.ref r), .val (FL L), .val (.int (i : Nat)), s3, s4, s5] := rfl
      rw [st, e1, turnFl_nx]
      exact e2
    · rw [List.length_cons, show k + (is.length + 1) = k + 1 + is.length by omega]
      exact g2
    · rw [List.length_cons, show B + 2 * (is.length + 1) = B + 2 + 2 * is.length by omega]
      exact H2
theorem grown_ok {r N B : Nat} {h : MH} (H : HP h N B) (hr : r < N) (hB : B + 40 < 1000000) : ∃ (L : List Cel) (h' : MH), F__law_grown_floor [.ref r] h = .ok (FL (sortP L)) h' ∧ Gr 13 L ∧ HP h' N (B + 40) ∧ Dr N h h' := by
  obtain ⟨d0, h1, e1, l1, H1, D1⟩ := draw_ok H hr (by omega) (m := 3) (by omega) (by omega)
  obtain ⟨d1, h2, e2, l2, H2, D2⟩ := draw_ok H1 hr (by omega) (m := 3) (by omega) (by omega)
  obtain ⟨n, h3, e3, l3, H3, D3⟩ := draw_ok H2 hr (by omega) (m := 14) (by omega) (by omega)
  have g0 : Gr 0 [((d0 : Int), (d1 : Int))] := .one (by omega)
  obtain ⟨L, s2, s3, s4, s5, h4, e4, g4, H4, D4⟩ := grow_loop hr (List.range n) (B + 3) 0 [((d0 : Int), (d1 : Int))] h3 .un .un .un .un H3 (by simp; omega) g0 (by simp; omega)
  have up : ∀ (j k : Nat) (L : List Cel), Gr k L → Gr (k + j) L := by
    intro j
    induction j with
    | zero => intro k L g; exact g
    | succ j ih => intro k L g; exact (ih k L g).up
  have g5 : Gr 13 L := by
    have := up (13 - n) _ _ g4
    simp at this
    rw [show n + (13 - n) = 13 by omega] at this
    exact this
  simp only [List.length_range] at H4
  refine ⟨L, h4, ?_, g5, H4.up (by omega), D1.trans (D2.trans (D3.trans D4))⟩
  have z := zl_def
  have so := sorted_FL' L h4
  have f0 : (seqS (setS 1 (wrapL (lstO (consA (tupE (consA (callE (callN 2 F__law_draw) [] (consA (varE 0) (consA (cE (.int 3)) nilA))) (consA (callE (callN 2 F__law_draw) [] (consA (varE 0) (consA (cE (.int 3)) nilA))) nilA))) nilA)))) (seqS (forS (nameT 2) (itB rng1M (consA (callE (callN 2 F__law_draw) [] (consA (varE 0) (consA (cE (.int 14)) nilA))) nilA)) bG) (retS (wrapL (callBO sortedPM (consA (peekE 1) nilA)))))) [.val (.ref r), .un, .un, .un, .un, .un] h = .rt (FL (sortP L)) h4 := by
    have e1' : F__law_draw [.ref r, .int 3] h = .ok (.int d0) h1 := e1
    have e2' : F__law_draw [.ref r, .int 3] h1 = .ok (.int d1) h2 := e2
    have e3' : F__law_draw [.ref r, .int 14] h2 = .ok (.int n) h3 := e3
    have w : MV.lst [.tup [.int (d0 : Nat), .int (d1 : Nat)]] = FL [((d0 : Int), (d1 : Int))] := rfl
    have so' : sortedPM h4 [FL L] = some ((sortP L).map pairM) := so
    simp [e1', e2', e3', rng1_nat (show n ≤ zl by omega), w]
    rw [e4]
    simp [so']
    rfl
  exact congrArg endFl f0
end K83
end P_U14
section P_U15
set_option Elab.async false
set_option linter.all false
set_option maxRecDepth 100000
set_option maxHeartbeats 4000000
/-! U15: the drawing is read back; floors drawn; bent rows -/
namespace Mi
open PySem PySem.Spec PyProof.Rows L2
@[simp] theorem callKE_at (n n1 n2 : Nat) (F : List MV → MH → Res MV) (perm : List Nat) (fs gs : OM) (σ : Sl) (h : MH) : callKE n n1 n2 F perm fs gs σ h = bindR (fs σ h) fun us h1 => bindR (gs σ h1) fun ws h2 => if us.length = n1 ∧ ws.length = n2 ∧ (sel perm (us ++ ws)).length = n then F (sel perm (us ++ ws)) h2 else .no := (rfl)
theorem MH.push_get (h : MH) (o : MO) : (h.push o).get h.nx = some o := if_pos rfl
theorem MH.push_old (h : MH) (o : MO) {k : Nat} (l : k < h.nx) : (h.push o).get k = h.get k := if_neg (Nat.ne_of_lt l)
end Mi
namespace K83
open PySem PySem.Spec PyProof.Rows L2 Mi TL
theorem rowsD_get (fl : List Cel) (y : Nat) (row : List Nat) : (rowsD fl)[y]? = some row ↔ y < hgt fl ∧ row = rowD fl (wid fl) y := by
  unfold rowsD
  rw [List.getElem?_map]
  by_cases c : y < hgt fl
  · rw [List.getElem?_range c]
    simp [c, eq_comm]
  · rw [List.getElem?_eq_none (by rw [List.length_range]; omega)]
    simp [c]
theorem rowD_get (fl : List Cel) (w y x : Nat) : (rowD fl w y)[x]? = some 35 ↔ x < w ∧ ((x : Int), (y : Int)) ∈ fl := by
  unfold rowD
  rw [List.getElem?_map]
  by_cases c : x < w
  · rw [List.getElem?_range c]
    simp only [Option.map_some]
    by_cases e : ((x : Int), (y : Int)) ∈ fl <;> simp [e, sgC, c]
  · rw [List.getElem?_eq_none (by rw [List.length_range]; omega)]
    simp [c]
theorem split_draw {fl : List Cel} (F : Fin fl) : splN (drawL fl) = (rowsD fl).reverse := by
  have m2 := F.mx2
  refine splN_of ?_ ?_
  · intro z
    have l : (rowsD fl).length = hgt fl := by simp [rowsD]
    have : (rowsD fl).reverse.length = 0 := by rw [z]; rfl
    rw [List.length_reverse, l] at this
    unfold hgt at this
    omega
  · intro p hp hc
    obtain ⟨y, _, rfl⟩ := List.mem_map.mp (List.mem_reverse.mp hp)
    rcases rowD_mem hc with z | z <;> cases z
theorem back_mem {fl : List Cel} (F : Fin fl) (c : Cel) : c ∈ cellsOf (drawL fl) ↔ c ∈ fl := by
  rw [mem_cellsOf, split_draw F, List.reverse_reverse]
  constructor
  · rintro ⟨y, x, row, h1, h2, rfl⟩
    obtain ⟨_, rfl⟩ := (rowsD_get fl y row).mp h1
    exact ((rowD_get fl (wid fl) y x).mp h2).2
  · intro hc
    have p := F.p c hc
    have a : c.1 ≤ mx (fl.map (·.1)) := mx_le (List.mem_map.mpr ⟨c, hc, rfl⟩)
    have b : c.2 ≤ mx (fl.map (·.2)) := mx_le (List.mem_map.mpr ⟨c, hc, rfl⟩)
    have ec : (((c.1.toNat : Nat) : Int), ((c.2.toNat : Nat) : Int)) = c := by
      obtain ⟨x, y⟩ := c
      simp at p ⊢
      omega
    refine ⟨c.2.toNat, c.1.toNat, _, (rowsD_get fl _ _).mpr ⟨?_, rfl⟩, (rowD_get fl _ _ _).mpr ⟨?_, ?_⟩, ec.symm⟩
    · unfold hgt; omega
    · unfold wid; omega
    · rw [ec]; exact hc
theorem perm_of {a b : List Cel} (ha : a.Nodup) (hb : b.Nodup) (h : ∀ x, x ∈ a ↔ x ∈ b) : a.Perm b := (List.perm_ext_iff_of_nodup ha hb).mpr h
theorem flT_draw {fl : List Cel} (F : Fin fl) (pw : fl.Pairwise ltC) : flT (drawL fl) = fl := by
  unfold flT
  have p := perm_of (pw_nodup pw) (cellsOf_nodup (drawL fl)) fun x => (back_mem F x).symm
  refine (sortP_uniq p (pw.imp fun {a b} h => ?_)).symm
  have := ltC_iff.mp h
  exact SrtO.lexB_no.mpr (by omega)
theorem told_draw {fl : List Cel} (F : Fin fl) (R : FlR fl) : Told (drawL fl) := by
  have e := flT_draw F (chn_pw fl R.chn)
  exact ⟨by rw [e]; exact R, by rw [e]⟩
theorem rows_size (fl : List Cel) : ((rowsD fl).map List.length).sum = hgt fl * wid fl ∧ (rowsD fl).length = hgt fl := by
  refine ⟨?_, by simp [rowsD]⟩
  unfold rowsD
  rw [sum_const (wid fl) _ _ fun y _ => rowD_len fl _ y]
  simp
theorem join1_len : ∀ ps : List (List Nat), ps ≠ [] → (joinL [10] ps).length + 1 = (ps.map List.length).sum + ps.length
  | [], h => absurd rfl h
  | [p], _ => by simp [joinL]
  | p :: q :: r, _ => by
    have ih := join1_len (q :: r) (by simp)
    show (p ++ ([10] ++ joinL [10] (q :: r))).length + 1 = _
    rw [List.length_append, List.length_append, List.map_cons, List.sum_cons, List.length_cons (a := p), List.length_cons (a := 10), List.length_nil]
    omega
/-- small floors -/
def Sml (fl : List Cel) : Prop := ∀ c ∈ fl, c.1 ≤ 15 ∧ c.2 ≤ 15
theorem Sml.dim {fl : List Cel} (s : Sml fl) (F : Fin fl) : wid fl ≤ 16 ∧ hgt fl ≤ 16 := by
  have h1 := mx_mem (ns := fl.map (·.1)) (by simpa using F.ne)
  have h2 := mx_mem (ns := fl.map (·.2)) (by simpa using F.ne)
  obtain ⟨a, ha, e1⟩ := List.mem_map.mp h1
  obtain ⟨b, hb, e2⟩ := List.mem_map.mp h2
  have q1 := (s a ha).1
  have q2 := (s b hb).2
  unfold wid hgt
  rw [← e1, ← e2]
  omega
theorem Sml.rows {fl : List Cel} (s : Sml fl) (F : Fin fl) : ((rowsD fl).map List.length).sum ≤ 256 ∧ (rowsD fl).length ≤ 16 ∧ rowsD fl ≠ [] := by
  obtain ⟨w, h⟩ := s.dim F
  obtain ⟨e1, e2⟩ := rows_size fl
  have m2 := F.mx2
  refine ⟨?_, by omega, fun z => ?_⟩
  · rw [e1]
    exact Nat.mul_le_mul h w
  · rw [z] at e2
    unfold hgt at e2
    simp at e2
    omega
theorem okC_row {fl : List Cel} {w y : Nat} : ∀ c ∈ rowD fl w y, okC c = true := fun c hc => by
  rcases rowD_mem hc with rfl | rfl <;> rfl
theorem rows_okC {fl : List Cel} : ∀ p ∈ rowsD fl, ∀ c ∈ p, okC c = true := fun p hp => by
  obtain ⟨y, _, rfl⟩ := List.mem_map.mp hp
  exact okC_row
theorem draw_lm {fl : List Cel} (s : Sml fl) (F : Fin fl) : Lm 280 (drawL fl) := by
  obtain ⟨r1, r2, r3⟩ := s.rows F
  refine ⟨fun c hc => ?_, ?_⟩
  · rcases drawL_mem hc with rfl | rfl | rfl <;> rfl
  · have := join1_len (rowsD fl).reverse (by simpa using r3)
    rw [List.map_reverse, List.sum_reverse, List.length_reverse] at this
    unfold drawL
    omega
theorem check_ok {fl : List Cel} (F : FlR fl) (l : fl.length ≤ 300000) (h : MH) : F_check_floor [FL fl] h = .ok .non h := by
  obtain ⟨b, h1, f1, f2⟩ := is_floor_ok (h := h.emp) l
  have hb := f2.mpr F
  subst hb
  have ds : allM (der40 h) [FL fl] = some [FL fl] := by
    simp only [allM, show der40 h (FL fl) = some (FL fl) from der_FL h 37 fl]
  have pf : pureF F_is_floor [FL fl] h = .ok (.bl true) h := by
    unfold pureF
    rw [ds]
    dsimp only
    rw [f1]
    rfl
  unfold F_check_floor b_check_floor
  rw [bodyF_at]
  simp [pf, endFl]
theorem drawing_ok {fl : List Cel} (F : FlR fl) (Fi : Fin fl) (h : MH) : F_floor_drawing [FL fl] h = .ok (.str (drawL fl)) h := by
  have c := check_ok F Fi.l h
  have ds : allM (der40 h) [FL fl] = some [FL fl] := by
    simp only [allM, show der40 h (FL fl) = some (FL fl) from der_FL h 37 fl]
  have pd : pureF F_drawn [FL fl] h = .ok (.str (drawL fl)) h := by
    unfold pureF
    rw [ds]
    dsimp only
    rw [drawn_ok Fi]
    rfl
  unfold F_floor_drawing b_floor_drawing
  rw [bodyF_at]
  simp [c, pd, endFl]
theorem Gr.fin {k : Nat} {L : List Cel} (g : Gr k L) (hk : k ≤ 13) : Fin (sortP L) ∧ Sml (sortP L) := by
  have mm : ∀ x, x ∈ sortP L ↔ x ∈ L := fun x => (sortP_perm L).mem_iff
  refine ⟨⟨g.flr.ne, fun c hc => ?_, ?_⟩, fun c hc => ?_⟩
  · have := g.b c ((mm c).mp hc)
    omega
  · rw [(sortP_perm L).length_eq]
    have := g.l
    omega
  · have := g.b c ((mm c).mp hc)
    omega
/-- the bent rows -/
theorem join_lm {ps : List (List Nat)} {n : Nat} (hc : ∀ p ∈ ps, ∀ c ∈ p, okC c = true) (hn : (ps.map List.length).sum + ps.length ≤ n) : Lm n (joinL [10] ps) := by
  refine ⟨joinL_mem (P := fun c => okC c = true) (fun c h => by rw [List.mem_singleton.mp h]; rfl) ps hc, ?_⟩
  have := joinL_len [10] ps
  simp at this
  omega
theorem sum_map_len (ps : List (List Nat)) (f : List Nat → List Nat) (k : Nat) (h : ∀ p, (f p).length = p.length + k) : ((ps.map f).map List.length).sum = (ps.map List.length).sum + ps.length * k := by
  induction ps with
  | nil => simp
  | cons p ps ih =>
    simp only [List.map_cons, List.sum_cons, List.length_cons, ih, h, Nat.succ_mul]
    omega
end K83
end P_U15
section P_U16
set_option Elab.async false
set_option linter.all false
set_option maxRecDepth 100000
set_option maxHeartbeats 4000000
/-! U16: _law_right -/
namespace Mi
open PySem PySem.Spec PyProof.Rows L2 TL
/-- a comprehension whose turns change the small heap: I by the number of turns so far -/
theorem compL_inv {α β : Type} {t : Tgt} {f : EM} {σ : Sl} (em : α → MV) (g : β → MV) (P : β → Prop) (I : Nat → MH → Prop) : ∀ (xs : List α) (n : Nat) (h : MH), I n h →
    (∀ x ∈ xs, ∀ m h, m < n + xs.length → I m h → ∃ σ1, t (em x) σ = some σ1 ∧ ∃ y h', f σ1 h = .ok (g y) h' ∧ P y ∧ I (m + 1) h') → ∃ (ys : List β) (h' : MH), compL t yesT f σ (xs.map em) h = .ok (ys.map g) h' ∧ ys.length = xs.length ∧ (∀ y ∈ ys, P y) ∧ I (n + xs.length) h'
  | [], n, h, i, _ => ⟨[], h, rfl, rfl, fun y h => (by cases h), i⟩
  | x :: xs, n, h, i, H => by
    obtain ⟨σ1, h1, y, h2, e, p, i2⟩ := H x List.mem_cons_self n h (by rw [List.length_cons]; omega) i
    obtain ⟨ys, h3, e3, l3, p3, i3⟩ := compL_inv em g P I xs (n + 1) h2 i2 fun x hx m h hm => H x (List.mem_cons_of_mem _ hx) m h (by rw [List.length_cons]; omega)
    refine ⟨y :: ys, h3, ?_, by rw [List.length_cons, List.length_cons, l3], fun z hz => ?_, by rw [List.length_cons]; rwa [Nat.add_assoc, Nat.add_comm 1] at i3⟩
    · rw [List.map_cons]
      unfold compL
      rw [h1]
      dsimp only [yesT]
      rw [e]
      dsimp only
      rw [e3]
      rfl
    · rcases List.mem_cons.mp hz with rfl | hz
      · exact p
      · exact p3 z hz
theorem compO_inv {α β : Type} {vs : List Nat} {fi : OM} {t : Tgt} {f : EM} {σ : Sl} {h : MH} {xs : List α} (em : α → MV) (g : β → MV) (P : β → Prop) (I : Nat → MH → Prop) (hf : fi σ h = .ok (xs.map em) h) (hl : xs.length ≤ zl) (i : I 0 h)
    (H : ∀ x ∈ xs, ∀ m h, m < xs.length → I m h → ∃ σ1, t (em x) (wipeM σ vs) = some σ1 ∧ ∃ y h', f σ1 h = .ok (g y) h' ∧ P y ∧ I (m + 1) h') : ∃ (ys : List β) (h' : MH), compO vs fi t yesT f σ h = .ok (ys.map g) h' ∧ ys.length = xs.length ∧ (∀ y ∈ ys, P y) ∧ I xs.length h' := by
  obtain ⟨ys, h', e, l, p, i'⟩ := compL_inv (σ := wipeM σ vs) em g P I xs 0 h i fun x hx m h hm im => H x hx m h (by omega) im
  refine ⟨ys, h', ?_, l, p, by simpa using i'⟩
  unfold compO
  show bindR (fi σ h) _ = _
  rw [hf]
  dsimp only [bindR]
  rw [if_pos (by rw [List.length_map]; exact hl)]
  exact e
end Mi
namespace K83
open PySem PySem.Spec PyProof.Rows L2 Mi TL
theorem der_two {h : MH} {n : Nat} {a b a' b' : MV} (ha : der h n a = some a') (hb : der h n b = some b') : der h (n + 1) (.lst [a, b]) = some (.lst [a', b']) := by
  show (allM (der h n) [a, b]).map MV.lst = _
  simp only [allM, ha, hb]
  rfl
theorem der_ref {h : MH} {k n : Nat} {fl : List Cel} (g : h.get k = some (.lst (fl.map pairM))) : der h (n + 3) (.ref k) = some (FL fl) := by
  unfold der
  dsimp only
  rw [g]
  dsimp only
  rw [allM_self fun x hx => by
    obtain ⟨c, _, rfl⟩ := List.mem_map.mp hx
    exact der_pair _ n c]
  rfl
theorem okX_two {n : Nat} {a b : MV} (ha : okX n a = true) (hb : okX n b = true) : okX (n + 1) (.lst [a, b]) = true := by
  show (decide _ && (okX n a && (okX n b && true))) = true
  rw [ha, hb]
  rfl
theorem HP.putHi {h : MH} {N B n : Nat} (p : HP h N B) (l : N ≤ n) (o : MO) : HP (h.put n o) N B := by
  refine ⟨p.nx, fun k hk => ?_⟩
  obtain ⟨a', b', c', d', e', q'⟩ := p.ok k hk
  refine ⟨a', b', c', d', ?_, q'⟩
  show (if k = n then _ else h.get k) = _
  rw [if_neg (by omega)]
  exact e'
def bT (i : Nat) : SM := (ifS (notT (tstE (pureE 2 F__law_exact [] (consA (callE (callN 1 F__law_due) [] (consA (varE i) nilA)) (consA (callE (callN 2 F__law_heard) [] (consA (cE (.int 1)) (consA (varE i) nilA))) nilA))))) (retS (cE (.bl false))) nextS)
theorem turn_ok {i : Nat} {σ : Sl} {t : List Nat} {h : MH} (T : Txt t) (e : σ[i]? = some (.val (.str t))) : ∃ h', bT i σ h = .nx σ h' ∧ (h' = h ∨ ∃ o, h' = h.push o) := by
  obtain ⟨a, b, h', e1, e2, e3, e4⟩ := dh_ok T h
  refine ⟨h', ?_, e4⟩
  unfold bT
  simp [e, e1, e2, e3]
/-- purses, and an object that stays -/
structure Kp (h : MH) (N B n : Nat) (o : MO) : Prop where
  hp : HP h N B
  g : h.get n = some o
  l : n < h.nx
theorem Kp.push {h : MH} {N B n : Nat} {o : MO} (k : Kp h N B n o) (o' : MO) : Kp (h.push o') N B n o := ⟨k.hp.push o', by rw [MH.push_old _ _ k.l]; exact k.g, Nat.lt_succ_of_lt k.l⟩
theorem Kp.turn {h h' : MH} {N B n : Nat} {o : MO} (k : Kp h N B n o) (e : h' = h ∨ ∃ o, h' = h.push o) : Kp h' N B n o := by
  rcases e with rfl | ⟨o, rfl⟩
  · exact k
  · exact k.push o
def bRw : EM := (wrapL (lstO (consA (strE (cE (.str [10])) fun s => un1 (fun h x => joinM s h [x]) (un1 revVM (peekE 5))) (consA (strE (cE (.str [10])) fun s => un1 (fun h x => joinM s h [x]) (wrapL (compO [8] (itAny (varE 5)) (nameT 8) yesT (un1 revVM (peekE 8))))) (consA (strE (cE (.str [10])) fun s => un1 (fun h x => joinM s h [x]) (wrapL (compO [8] (itAny (varE 5)) (nameT 8) yesT (bin2 addM (peekE 8) (cE (.str [46])))))) (consA (strE (cE (.str [10])) fun s => un1 (fun h x => joinM s h [x]) (wrapL (compO [8] (itAny (varE 5)) (nameT 8) yesT (bin2 addM (cE (.str [46])) (peekE 8))))) (consA (bin2 addM (peekE 3) (cE (.str [10]))) (consA (bin2 addM (cE (.str [46])) (peekE 3)) nilA))))))))
theorem rows_ok {ps : List (List Nat)} {t : List Nat} {h : MH} {s0 s1 s2 s4 s6 s7 : SV} (T : Lm 280 t) (hc : ∀ p ∈ ps, ∀ c ∈ p, okC c = true) (l1 : (ps.map List.length).sum ≤ 256) (l2 : ps.length ≤ 16) :
    ∃ L : List (List Nat), bRw [s0, s1, s2, .val (.str t), s4, .val (.lst (ps.map .str)), s6, s7, .un, .un] h = .ok (.lst (L.map .str)) h ∧ (∀ x ∈ L, Lm 600 x) ∧ L.length = 6 := by
  have z := zl_def
  have lt := T.2
  have ml : ∀ p ∈ ps, p.length ≤ 256 := fun p hp => by
    have : ∀ (qs : List (List Nat)), p ∈ qs → p.length ≤ (qs.map List.length).sum := by
      intro qs
      induction qs with
      | nil => intro h; cases h
      | cons q qs ih =>
        intro h
        rw [List.map_cons, List.sum_cons]
        rcases List.mem_cons.mp h with rfl | h
        · omega
        · have := ih h
          omega
    exact Nat.le_trans (this ps hp) l1
  have c1 := compO_data (vs := [8]) (fi := itAny (varE 5)) (t := nameT 8) (f := un1 revVM (peekE 8)) (σ := [s0, s1, s2, .val (.str t), s4, .val (.lst (ps.map .str)), s6, s7, .un, .un]) (h := h) (xs := ps) .str (fun p => .str p.reverse) (by simp) (by omega) (fun p hp => ⟨_, rfl, by
    have := rev_str (s := p) h (by have := ml p hp; omega)
    simp [wipeM, this]⟩)
  have c2 := compO_data (vs := [8]) (fi := itAny (varE 5)) (t := nameT 8) (f := bin2 addM (peekE 8) (cE (.str [46]))) (σ := [s0, s1, s2, .val (.str t), s4, .val (.lst (ps.map .str)), s6, s7, .un, .un]) (h := h) (xs := ps) .str (fun p => .str (p ++ [46])) (by simp) (by omega) (fun p hp => ⟨_, rfl, by
    have := add_Ms p [46] h (by have := ml p hp; simp; omega)
    simp [wipeM, this]⟩)
  have c3 := compO_data (vs := [8]) (fi := itAny (varE 5)) (t := nameT 8) (f := bin2 addM (cE (.str [46])) (peekE 8)) (σ := [s0, s1, s2, .val (.str t), s4, .val (.lst (ps.map .str)), s6, s7, .un, .un]) (h := h) (xs := ps) .str (fun p => .str ([46] ++ p)) (by simp) (by omega) (fun p hp => ⟨_, rfl, by
    have := add_Ms [46] p h (by have := ml p hp; simp; omega)
    simp [wipeM, this]⟩)
  have m1 : ∀ f : List Nat → List Nat, ps.map (fun p => MV.str (f p)) = (ps.map f).map .str := fun f => by rw [List.map_map]; rfl
  rw [m1 List.reverse] at c1
  rw [m1 fun p => p ++ [46]] at c2
  rw [m1 fun p => [46] ++ p] at c3
  have q1 := sum_map_len ps List.reverse 0 (fun p => by simp)
  have q2 := sum_map_len ps (fun p => p ++ [46]) 1 (fun p => by simp)
  have q3 := sum_map_len ps (fun p => [46] ++ p) 1 (fun p => by simp)
  have r0 : (ps.reverse.map List.length).sum = (ps.map List.length).sum := by rw [List.map_reverse, List.sum_reverse]
  have j0 := join_M (s := [10]) (ps := ps.reverse) (h := h) (by rw [r0]; simp; omega)
  have j1 := join_M (s := [10]) (ps := ps.map List.reverse) (h := h) (by rw [q1]; simp; omega)
  have j2 := join_M (s := [10]) (ps := ps.map fun p => p ++ [46]) (h := h) (by rw [q2]; simp; omega)
  have j3 := join_M (s := [10]) (ps := ps.map fun p => [46] ++ p) (h := h) (by rw [q3]; simp; omega)
  have a1 := add_Ms t [10] h (by simp; omega)
  have a2 := add_Ms [46] t h (by simp; omega)
  have rv : revVM h (.lst (ps.map .str)) = some (.lst (ps.reverse.map .str)) := by
    simp [revVM, List.map_reverse]
  refine ⟨[joinL [10] ps.reverse, joinL [10] (ps.map List.reverse), joinL [10] (ps.map fun p => p ++ [46]), joinL [10] (ps.map fun p => [46] ++ p), t ++ [10], [46] ++ t], ?_, ?_, rfl⟩
  · unfold bRw
    simp only [wrapL_at, lstO_at, consA_at, nilA_at, strE_at, bin2_at, un1_at, peekE_at, cE_at, List.getElem?_cons_succ, List.getElem?_cons_zero, bindR_ok, optR_some, rv, c1, c2, c3, j0, j1, j2, j3, a1, a2]
    rfl
  · have okm : ∀ f : List Nat → List Nat, (∀ p, (∀ c ∈ p, okC c = true) → ∀ c ∈ f p, okC c = true) → ∀ p ∈ ps.map f, ∀ c ∈ p, okC c = true := fun f hf p hp => by
      obtain ⟨q, hq, rfl⟩ := List.mem_map.mp hp
      exact hf q (hc q hq)
    have o46 : ∀ c ∈ [46], okC c = true := by decide
    intro x hx
    simp only [List.mem_cons, List.not_mem_nil, or_false] at hx
    rcases hx with rfl | rfl | rfl | rfl | rfl | rfl
    · exact join_lm (fun p hp => hc p (List.mem_reverse.mp hp)) (by rw [r0, List.length_reverse]; omega)
    · exact join_lm (okm _ fun p hp c h => hp c (List.mem_reverse.mp h)) (by rw [q1, List.length_map]; omega)
    · exact join_lm (okm _ fun p hp c h => (List.mem_append.mp h).elim (hp c) (o46 c)) (by rw [q2, List.length_map]; omega)
    · exact join_lm (okm _ fun p hp c h => (List.mem_append.mp h).elim (o46 c) (hp c)) (by rw [q3, List.length_map]; omega)
    · exact (T.app (m := 1) ⟨by decide, by decide⟩).up (by decide)
    · exact (Lm.app (n := 1) (a := [46]) ⟨o46, by decide⟩ T).up (by decide)
theorem meqs_pairs : ∀ L : List Cel, meqs (L.map pairM) (L.map pairM) = true
  | [] => rfl
  | c :: L => by
    rw [List.map_cons]
    unfold meqs
    rw [pair_meq, meqs_pairs L]
    simp
theorem right_ok {r N B : Nat} {h : MH} (H : HP h N B) (hr : r < N) (hB : B + 100 < 1000000) : ∃ h', F__law_right [.ref r] h = .ok (.bl true) h' ∧ HP h' N (B + 100) := by
  have z := zl_def
  obtain ⟨L, h1, e1, g, H1, D1⟩ := grown_ok H hr (by omega)
  obtain ⟨Fi, Sm⟩ := g.fin (by decide)
  have R := g.flr
  generalize hfl : sortP L = fl at *
  have tl := told_draw Fi R
  have ft := flT_draw Fi (chn_pw fl R.chn)
  have T := draw_lm Sm Fi
  have Tx := T.txt (by decide)
  have ld := lawdrawn_ok (h := h1) Fi
  have rd : ∀ h : MH, F_read_floor [.str (drawL fl)] h = .ok (.ref h.nx) (h.push (.lst (fl.map pairM))) := fun h => by
    have := (read_ok Tx h).1 tl
    rw [ft] at this
    exact this
  have dr : ∀ h : MH, F_floor_drawing [FL fl] h = .ok (.str (drawL fl)) h := drawing_ok R Fi
  have ls : listM h1 [FL fl] = some (fl.map pairM) := rfl
  generalize ht : drawL fl = t at *
  generalize hh2 : h1.push (.lst (fl.map pairM)) = h2 at *
  generalize hh3 : h2.push (.lst (fl.map pairM)) = h3 at *
  have n2 : h2.nx = h1.nx + 1 := by rw [← hh2]; rfl
  have n3 : h3.nx = h1.nx + 2 := by rw [← hh3]; show h2.nx + 1 = _; omega
  have g2 : h2.get h1.nx = some (.lst (fl.map pairM)) := by rw [← hh2]; exact MH.push_get _ _
  have K2 : Kp h2 N (B + 40) h1.nx (.lst (fl.map pairM)) := ⟨by rw [← hh2]; exact H1.push _, g2, by omega⟩
  have K3 : Kp h3 N (B + 40) h1.nx (.lst (fl.map pairM)) := by rw [← hh3]; exact K2.push _
  have g3' : h3.get h2.nx = some (.lst (fl.map pairM)) := by rw [← hh3]; exact MH.push_get _ _
  have rd1 : F_read_floor [.str t] h1 = .ok (.ref h1.nx) h2 := by rw [rd h1, hh2]
  have rd2 : F_read_floor [.str t] h2 = .ok (.ref h2.nx) h3 := by rw [rd h2, hh3]
  have okt : ∀ n, okX n (.str t) = true := fun n => okX_txt Tx.o
  have x1 : pureF F__law_exact [.lst [.str t, .str t], .lst [.str t, .str t]] h3 = .ok (.bl true) h3 := same_ok (d := .lst [.str t, .str t]) rfl rfl (okX_two (okt 10) (okt 10))
  have dF := der_FL h3 36 fl
  have x2 : pureF F__law_exact [.lst [FL fl, FL fl], .lst [.ref h1.nx, .ref h2.nx]] h3 = .ok (.bl true) h3 := same_ok (d := .lst [FL fl, FL fl]) (der_two dF dF) (der_two (der_ref K3.g) (der_ref g3')) (okX_two (okX_FL 8 fl Fi.l) (okX_FL 8 fl Fi.l))
  have sp : splitM t h3 [.str [10]] = some ((rowsD fl).reverse.map .str) := by
    rw [split10 (by have := T.2; omega), ← ht, split_draw Fi]
  obtain ⟨rs1, rs2, rs3⟩ := Sm.rows Fi
  obtain ⟨L6, w1, w2, w3⟩ := rows_ok (ps := (rowsD fl).reverse) (t := t) (h := h3) (s0 := .val (.ref r)) (s1 := .val (FL fl)) (s2 := .val (FL fl)) (s4 := .val (.lst [.ref h1.nx, .ref h2.nx])) (s6 := .un) (s7 := .un) T (fun p hp => rows_okC p (List.mem_reverse.mp hp)) (by rw [List.map_reverse, List.sum_reverse]; exact rs1) (by rw [List.length_reverse]; exact rs2)
  obtain ⟨L9, h4, v1, v2, v3, K4⟩ := compO_inv (vs := [9]) (fi := itB rng1M (consA (cE (.int 9)) nilA)) (t := nameT 9) (f := callE (callN 3 F__law_of_signs) [] (consA (varE 0) (consA (varE 3) (consA (wrapL (lstO (consA (cE (.str [35])) (consA (cE (.str [46])) (consA (cE (.str [10])) (consA (cE (.str [35, 35])) (consA (cE (.str [32])) (consA (cE (.str [120])) (consA (cE (.str [126])) nilA))))))))) nilA))))
    (σ := [.val (.ref r), .val (FL fl), .val (FL fl), .val (.str t), .val (.lst [.ref h1.nx, .ref h2.nx]), .val (.lst ((rowsD fl).reverse.map .str)), .val (.lst (L6.map .str)), .un, .un, .un]) (h := h3) (xs := List.range 9) (fun i : Nat => .int i) (fun x : List Nat => .str x) Txt (fun m h => Kp h N (B + 40 + 4 * m) h1.nx (.lst (fl.map pairM)))
    (by simp; exact congrArg (optR · h3) (rng1_nat (show 9 ≤ zl by omega))) (by simp) K3 (fun i hi m h hm k => by
      rw [List.length_range] at hm
      obtain ⟨x, h', q1, q2, q3, q4⟩ := signs_ok T k.hp hr (by omega)
      refine ⟨_, rfl, x, h', ?_, q2, q3.up (by omega), ?_, ?_⟩
      · have e : SGN = .lst [.str [35], .str [46], .str [10], .str [35, 35], .str [32], .str [120], .str [126]] := rfl
        rw [e] at q1
        simp [wipeM, q1]
      · rw [q4.get _ H1.nx]
        exact k.g
      · rw [q4.nx]
        exact k.l)
  have ad := add_Ml (L6.map .str) (L9.map .str) h4 (by rw [List.length_map, List.length_map, v2, List.length_range]; omega)
  rw [← List.map_append] at ad
  obtain ⟨σ', h5, f1, K5, s7, rfl, _⟩ := forL_inv (α := List Nat) (t := nameT 7) (b := bT 7) (fun x => .str x)
    (fun pre post σ h' => Kp h' N (B + 76) h1.nx (.lst (fl.map pairM)) ∧ ∃ s7 : SV, σ = [.val (.ref r), .val (FL fl), .val (FL fl), .val (.str t), .val (.lst [.ref h1.nx, .ref h2.nx]), .val (.lst ((rowsD fl).reverse.map .str)), .val (.lst (L6.map .str)), s7, .un, .un] ∧ pre ++ post = L6 ++ L9)
    (by
      rintro pre x post σ h' ⟨k, s7, rfl, he⟩
      have hx : x ∈ L6 ++ L9 := by rw [← he]; simp
      have tx : Txt x := (List.mem_append.mp hx).elim (fun q => (w2 x q).txt (Nat.le_refl _)) (v3 x)
      obtain ⟨h'', q1, q2⟩ := turn_ok (i := 7) (σ := [.val (.ref r), .val (FL fl), .val (FL fl), .val (.str t), .val (.lst [.ref h1.nx, .ref h2.nx]), .val (.lst ((rowsD fl).reverse.map .str)), .val (.lst (L6.map .str)), .val (.str x), .un, .un]) (h := h') tx rfl
      exact ⟨_, rfl, _, h'', .inl q1, k.turn q2, _, rfl, by simpa using he⟩)
    (L6 ++ L9) [] [.val (.ref r), .val (FL fl), .val (FL fl), .val (.str t), .val (.lst [.ref h1.nx, .ref h2.nx]), .val (.lst ((rowsD fl).reverse.map .str)), .val (.lst (L6.map .str)), .un, .un, .un] h4 ⟨⟨K4.hp.up (by simp), K4.g, K4.l⟩, _, rfl, rfl⟩
  generalize hh6 : h5.put h1.nx (.lst (fl.map pairM ++ [.str [109, 111, 114, 101]])) = h6 at *
  have H6 : HP h6 N (B + 76) := by rw [← hh6]; exact K5.hp.putHi H1.nx _
  refine ⟨h6.push (.lst (fl.map pairM)), ?_, (H6.push _).up (by omega)⟩
  have rd3 := rd h6
  have x3 : pureF F__law_exact [FL fl, .ref h6.nx] (h6.push (.lst (fl.map pairM))) = .ok (.bl true) (h6.push (.lst (fl.map pairM))) := same_ok (d := FL fl) (der_FL _ 37 fl) (der_ref (MH.push_get _ _)) (okX_FL 9 fl Fi.l)
  have ty : tyT h5 (.ref h1.nx) = some "list" := by
    unfold tyT
    dsimp only
    rw [K5.g]
  have ap : lstR appendM h5 (.ref h1.nx) [.str [109, 111, 114, 101]] = some (.non, h6) := by
    unfold lstR
    dsimp only
    rw [K5.g]
    dsimp only
    have : (fl.map pairM).length < zl := by
      have := Fi.l
      rw [List.length_map]
      omega
    unfold appendM
    dsimp only
    rw [if_pos this]
    rw [← hh6]
    rfl
  have eq1 : eqM h6 (FL fl) (FL fl) = some (.bl true) := by
    unfold eqM FL
    rw [if_pos ⟨ok_pairs fl, ok_pairs fl⟩]
    unfold meq
    rw [meqs_pairs]
  have body : (seqS (setS 1 (callE (callN 1 F__law_grown_floor) [] (consA (varE 0) nilA))) (seqS (par2S 2 3 (.v (wrapL (callBO listM (consA (peekE 1) nilA)))) (.v (callE (callN 1 F__law_drawn) [] (consA (varE 1) nilA)))) (seqS (setS 4 (wrapL (lstO (consA (callE (callN 1 F_read_floor) [] (consA (varE 3) nilA)) (consA (callKE 1 0 1 F_read_floor [0] nilA (consA (varE 3) nilA)) nilA))))) (seqS (ifS (orT (notT (tstE (pureE 2 F__law_exact [] (consA (wrapL (lstO (consA (varE 3) (consA (varE 3) nilA)))) (consA (wrapL (lstO (consA (callE (callN 1 F_floor_drawing) [] (consA (varE 1) nilA)) (consA (callKE 1 0 1 F_floor_drawing [0] nilA (consA (varE 1) nilA)) nilA)))) nilA))))) (notT (tstE (pureE 2 F__law_exact [] (consA (wrapL (lstO (consA (varE 1) (consA (varE 1) nilA)))) (consA (peekE 4) nilA)))))) (retS (cE (.bl false))) nextS) (seqS (setS 5 (wrapL (strO (peekE 3) fun s => bindE (cE (.str [10])) fun x _ h => optR (splitM s h [x]) h))) (seqS (setS 6 bRw) (seqS (forS (nameT 7) (itAny (bin2 addM (peekE 6) (wrapL (compO [9] (itB rng1M (consA (cE (.int 9)) nilA)) (nameT 9) yesT (callE (callN 3 F__law_of_signs) [] (consA (varE 0) (consA (varE 3) (consA (wrapL (lstO (consA (cE (.str [35])) (consA (cE (.str [46])) (consA (cE (.str [10])) (consA (cE (.str [35, 35])) (consA (cE (.str [32])) (consA (cE (.str [120])) (consA (cE (.str [126])) nilA))))))))) nilA)))))))) (bT 7)) (seqS (exprS (methE "list" (lstR appendM) (bin2 ixDM (peekE 4) (cE (.int 0))) (consA (cE (.str [109, 111, 114, 101])) nilA))) (retS (andE (bin2 eqM (peekE 1) (peekE 2)) (pureE 2 F__law_exact [] (consA (peekE 1) (consA (callE (callN 1 F_read_floor) [] (consA (varE 3) nilA)) nilA))))))))))))) [.val (.ref r), .un, .un, .un, .un, .un, .un, .un, .un, .un] h = .rt (.bl true) (h6.push (.lst (fl.map pairM))) := by
    have s1 : setS 1 (callE (callN 1 F__law_grown_floor) [] (consA (varE 0) nilA)) [.val (.ref r), .un, .un, .un, .un, .un, .un, .un, .un, .un] h = .nx [.val (.ref r), .val (FL fl), .un, .un, .un, .un, .un, .un, .un, .un] h1 := by simp [e1]
    have s2 : par2S 2 3 (.v (wrapL (callBO listM (consA (peekE 1) nilA)))) (.v (callE (callN 1 F__law_drawn) [] (consA (varE 1) nilA))) [.val (.ref r), .val (FL fl), .un, .un, .un, .un, .un, .un, .un, .un] h1 = .nx [.val (.ref r), .val (FL fl), .val (FL fl), .val (.str t), .un, .un, .un, .un, .un, .un] h1 := by
      simp [ls, ld]
      rfl
    have s3 : setS 4 (wrapL (lstO (consA (callE (callN 1 F_read_floor) [] (consA (varE 3) nilA)) (consA (callKE 1 0 1 F_read_floor [0] nilA (consA (varE 3) nilA)) nilA)))) [.val (.ref r), .val (FL fl), .val (FL fl), .val (.str t), .un, .un, .un, .un, .un, .un] h1 = .nx [.val (.ref r), .val (FL fl), .val (FL fl), .val (.str t), .val (.lst [.ref h1.nx, .ref h2.nx]), .un, .un, .un, .un, .un] h3 := by
      have se : ∀ x : MV, sel [0] [x] = [x] := fun x => rfl
      simp [rd1, se, rd2]
    have s4 : ifS (orT (notT (tstE (pureE 2 F__law_exact [] (consA (wrapL (lstO (consA (varE 3) (consA (varE 3) nilA)))) (consA (wrapL (lstO (consA (callE (callN 1 F_floor_drawing) [] (consA (varE 1) nilA)) (consA (callKE 1 0 1 F_floor_drawing [0] nilA (consA (varE 1) nilA)) nilA)))) nilA))))) (notT (tstE (pureE 2 F__law_exact [] (consA (wrapL (lstO (consA (varE 1) (consA (varE 1) nilA)))) (consA (peekE 4) nilA)))))) (retS (cE (.bl false))) nextS [.val (.ref r), .val (FL fl), .val (FL fl), .val (.str t), .val (.lst [.ref h1.nx, .ref h2.nx]), .un, .un, .un, .un, .un] h3 = .nx [.val (.ref r), .val (FL fl), .val (FL fl), .val (.str t), .val (.lst [.ref h1.nx, .ref h2.nx]), .un, .un, .un, .un, .un] h3 := by
      have se : ∀ x : MV, sel [0] [x] = [x] := fun x => rfl
      simp [dr, se, x1, x2]
    have s5 : setS 5 (wrapL (strO (peekE 3) fun s => bindE (cE (.str [10])) fun x _ h => optR (splitM s h [x]) h)) [.val (.ref r), .val (FL fl), .val (FL fl), .val (.str t), .val (.lst [.ref h1.nx, .ref h2.nx]), .un, .un, .un, .un, .un] h3 = .nx [.val (.ref r), .val (FL fl), .val (FL fl), .val (.str t), .val (.lst [.ref h1.nx, .ref h2.nx]), .val (.lst ((rowsD fl).reverse.map .str)), .un, .un, .un, .un] h3 := by
      simp [bindE_at, sp]
    have s6 : setS 6 bRw [.val (.ref r), .val (FL fl), .val (FL fl), .val (.str t), .val (.lst [.ref h1.nx, .ref h2.nx]), .val (.lst ((rowsD fl).reverse.map .str)), .un, .un, .un, .un] h3 = .nx [.val (.ref r), .val (FL fl), .val (FL fl), .val (.str t), .val (.lst [.ref h1.nx, .ref h2.nx]), .val (.lst ((rowsD fl).reverse.map .str)), .val (.lst (L6.map .str)), .un, .un, .un] h3 := by
      rw [setS_at, w1]
      rfl
    have s7' : forS (nameT 7) (itAny (bin2 addM (peekE 6) (wrapL (compO [9] (itB rng1M (consA (cE (.int 9)) nilA)) (nameT 9) yesT (callE (callN 3 F__law_of_signs) [] (consA (varE 0) (consA (varE 3) (consA (wrapL (lstO (consA (cE (.str [35])) (consA (cE (.str [46])) (consA (cE (.str [10])) (consA (cE (.str [35, 35])) (consA (cE (.str [32])) (consA (cE (.str [120])) (consA (cE (.str [126])) nilA))))))))) nilA)))))))) (bT 7) [.val (.ref r), .val (FL fl), .val (FL fl), .val (.str t), .val (.lst [.ref h1.nx, .ref h2.nx]), .val (.lst ((rowsD fl).reverse.map .str)), .val (.lst (L6.map .str)), .un, .un, .un] h3 = .nx [.val (.ref r), .val (FL fl), .val (FL fl), .val (.str t), .val (.lst [.ref h1.nx, .ref h2.nx]), .val (.lst ((rowsD fl).reverse.map .str)), .val (.lst (L6.map .str)), s7, .un, .un] h5 := by
      rw [forS_at]
      simp only [itAny_at, bin2_at, wrapL_at, peekE_at, List.getElem?_cons_succ, List.getElem?_cons_zero, bindR_ok]
      rw [v1]
      simp only [bindR_ok, ad, optR_some, itemsM, bindFl_ok]
      exact f1
    rw [seqS_at, s1, seqFl_nx, seqS_at, s2, seqFl_nx, seqS_at, s3, seqFl_nx, seqS_at, s4, seqFl_nx, seqS_at, s5, seqFl_nx, seqS_at, s6, seqFl_nx, seqS_at, s7', seqFl_nx, seqS_at]
    simp [methE_at, ty, ap, opR, eq1, rd3, x3]
  exact congrArg endFl body
end K83
end P_U16
section P_U17
set_option Elab.async false
set_option linter.all false
set_option maxRecDepth 100000
set_option maxHeartbeats 4000000
/-! U17: the purses and their loops -/
namespace K83
open PySem PySem.Spec PyProof.Rows L2 Mi TL
theorem purses_ok {ns : List Int} : ∃ (h' : MH) (N : Nat) (rs : List Nat), F__law_purses [.scr (ns.map .int), .int 3] hm0 = .ok (.lst (rs.map fun r => .ref r)) h' ∧ HP h' N 0 ∧ (∀ r ∈ rs, r < N) ∧ rs.length ≤ 3 ∧ N ≤ h'.nx := by
  have z := zl_def
  obtain ⟨N, hN, n1, n3⟩ : ∃ N : Nat, (∀ h : MH, bindR (bindR (optR (lenM h [.scr (ns.map .int)]) h) fun x h => optR (minM h [.int 3, x]) h) (fun x h => optR (maxM h [.int 1, x]) h) = .ok (.int (N : Nat)) h) ∧ 1 ≤ N ∧ N ≤ 3 := by
    have le : ∀ h : MH, lenM h [.scr (ns.map .int)] = some (.int (ns.length : Nat)) := fun h => by
      show some (MV.int ((ns.map MV.int).length : Nat)) = _
      rw [List.length_map]
    have mn : ∀ h : MH, minM h [.int 3, .int (ns.length : Nat)] = some (.int (if (ns.length : Int) < 3 then (ns.length : Nat) else 3)) := fun h => rfl
    have mm : ∀ (h : MH) (i : Int), maxM h [.int 1, .int i] = some (.int (if i > 1 then i else 1)) := fun h i => rfl
    by_cases c : ns.length < 3
    · have c' : (ns.length : Int) < 3 := by omega
      by_cases d : 1 < ns.length
      · exact ⟨ns.length, fun h => by simp only [le, optR_some, bindR_ok, mn, if_pos c', mm]; rw [if_pos (by omega)], by omega, by omega⟩
      · exact ⟨1, fun h => by simp only [le, optR_some, bindR_ok, mn, if_pos c', mm]; rw [if_neg (by omega)]; rfl, by omega, by omega⟩
    · have c' : ¬ (ns.length : Int) < 3 := by omega
      exact ⟨3, fun h => by simp only [le, optR_some, bindR_ok, mn, if_neg c', mm]; rfl, by omega, by omega⟩
  have hN0 := hN hm0
  have src : itB rng1M (consA (callB maxM (consA (cE (.int 1)) (consA (callB minM (consA (cE (.int 3)) (consA (callB lenM (consA (peekE 0) nilA)) nilA))) nilA))) nilA) [.val (.scr (ns.map .int)), .val (.int 3), .un] hm0 = .ok ((List.range N).map fun i : Nat => .int i) hm0 := by
    have e := hN0
    cases q : lenM hm0 [.scr (ns.map .int)] with
    | none => rw [q] at e; cases e
    | some x =>
      rw [q] at e
      simp only [optR_some, bindR_ok] at e
      cases q2 : minM hm0 [.int 3, x] with
      | none => rw [q2] at e; cases e
      | some y =>
        rw [q2] at e
        simp only [optR_some, bindR_ok] at e
        cases q3 : maxM hm0 [.int 1, y] with
        | none => rw [q3] at e; cases e
        | some w =>
          rw [q3] at e
          simp only [optR_some] at e
          injection e with e _
          subst e
          simp only [itB_at, consA_at, callB_at, cE_at, peekE_at, nilA_at, List.getElem?_cons_zero, bindR_ok, q, q2, q3, optR_some, rng1_nat (show N ≤ zl by omega)]
  obtain ⟨rs, h', e, l, p, I⟩ := compO_inv (vs := [2]) (fi := itB rng1M (consA (callB maxM (consA (cE (.int 1)) (consA (callB minM (consA (peekE 1) (consA (callB lenM (consA (peekE 0) nilA)) nilA))) nilA))) nilA)) (t := nameT 2) (f := callE (callN 2 F__law_purse) [] (consA (varE 0) (consA (varE 2) nilA)))
    (σ := [.val (.scr (ns.map .int)), .val (.int 3), .un]) (h := hm0) (xs := List.range N) (fun i : Nat => .int i) (fun r : Nat => .ref r) (fun r => r < N) (fun m h => HP h m 0 ∧ h.nx = m)
    src (by simp; omega) ⟨HP0, rfl⟩ (fun i hi m h hm k => by
      rw [List.length_range] at hm
      obtain ⟨h', q1, q2, q3⟩ := purse_ok (xs := ns) (at_ := i) k.1 k.2 (by have := List.mem_range.mp hi; omega)
      exact ⟨_, rfl, m, h', by simp [wipeM, q1], hm, q2, q3⟩)
  rw [List.length_range] at l I
  refine ⟨h', N, rs, ?_, I.1, p, by omega, by omega⟩
  have f0 : retS (wrapL (compO [2] (itB rng1M (consA (callB maxM (consA (cE (.int 1)) (consA (callB minM (consA (peekE 1) (consA (callB lenM (consA (peekE 0) nilA)) nilA))) nilA))) nilA)) (nameT 2) yesT (callE (callN 2 F__law_purse) [] (consA (varE 0) (consA (varE 2) nilA))))) [.val (.scr (ns.map .int)), .val (.int 3), .un] hm0 = .rt (.lst (rs.map fun r => .ref r)) h' := by
    simp only [retS_at, wrapL_at]
    rw [e]
    rfl
  exact congrArg endFl f0
def bLi : SM := (ifS (notT (tstE (callE (callN 1 F__law_right) [] (consA (varE 1) nilA)))) (retS (cE (.bl false))) nextS)
def bLo : SM := (forS (nameT 2) (itB rng1M (consA (cE (.int 3)) nilA)) bLi)
theorem loops_ok {N : Nat} {sc : MV} {h : MH} {rs : List Nat} (H : HP h N 0) (hr : ∀ r ∈ rs, r < N) (hl : rs.length ≤ 3) : ∃ (s1 s2 : SV) (h' : MH), forL (nameT 1) bLo (rs.map fun r => .ref r) [.val sc, .un, .un, .un, .un, .un, .un, .un, .un] h = .nx [.val sc, s1, s2, .un, .un, .un, .un, .un, .un] h' := by
  have r3 : rng1M [.int 3] = some (([0, 1, 2] : List Nat).map fun i : Nat => .int i) := rfl
  have inner : ∀ (r B : Nat) (h : MH) (s2 : SV), r < N → B < 200000 → HP h N B → ∃ h' s2', bLo [.val sc, .val (.ref r), s2, .un, .un, .un, .un, .un, .un] h = .nx [.val sc, .val (.ref r), s2', .un, .un, .un, .un, .un, .un] h' ∧ HP h' N (B + 300) := by
    intro r B h s2 hr hB H
    obtain ⟨σ', h', e, s2', rfl, _, H'⟩ := forL_inv (α := Nat) (t := nameT 2) (b := bLi) (fun i : Nat => .int i)
      (fun pre post σ h' => ∃ s2, σ = [.val sc, .val (.ref r), s2, .un, .un, .un, .un, .un, .un] ∧ pre ++ post = [0, 1, 2] ∧ HP h' N (B + 100 * pre.length))
      (by
        rintro pre i post σ h1 ⟨s2, rfl, he, H1⟩
        refine ⟨_, rfl, ?_⟩
        have lpre : pre.length < 3 := by
          have := congrArg List.length he
          simp at this
          omega
        obtain ⟨h3, e3, H3⟩ := right_ok H1 hr (by omega)
        refine ⟨[.val sc, .val (.ref r), .val (.int i), .un, .un, .un, .un, .un, .un], h3, .inl ?_, _, rfl, by simpa using he, by rw [List.length_append]; exact H3.up (by simp; omega)⟩
        unfold bLi
        simp [e3])
      [0, 1, 2] [] [.val sc, .val (.ref r), s2, .un, .un, .un, .un, .un, .un] h ⟨_, rfl, rfl, by simpa using H⟩
    refine ⟨h', s2', ?_, by simpa using H'⟩
    unfold bLo
    simp only [forS_at, itB_at, consA_at, cE_at, nilA_at, bindR_ok]
    rw [r3]
    simp only [optR_some, bindFl_ok]
    exact e
  obtain ⟨σ', h', e, s1, s2, rfl, _, H'⟩ := forL_inv (α := Nat) (t := nameT 1) (b := bLo) (fun r : Nat => .ref r)
    (fun pre post σ h' => ∃ s1 s2, σ = [.val sc, s1, s2, .un, .un, .un, .un, .un, .un] ∧ pre ++ post = rs ∧ HP h' N (0 + 300 * pre.length))
    (by
      rintro pre r post σ h1 ⟨s1, s2, rfl, he, H1⟩
      refine ⟨_, rfl, ?_⟩
      have lpre : pre.length < 3 := by
        have := congrArg List.length he
        simp at this
        omega
      have hr : r < N := hr r (by rw [← he]; simp)
      obtain ⟨h2, s2', e2, H2⟩ := inner r _ h1 s2 hr (by omega) H1
      exact ⟨_, h2, .inl e2, _, _, rfl, by simpa using he, by rw [List.length_append]; exact H2.up (by simp; omega)⟩)
    rs [] [.val sc, .un, .un, .un, .un, .un, .un, .un, .un] h ⟨_, _, rfl, rfl, by simpa using H⟩
  exact ⟨s1, s2, h', e⟩
/-! the texts told by hand -/
def hands : List (List Nat) := [[], [10], [35], [46], [46, 35], [35, 46], [46, 35, 10, 35, 35], [35, 46, 10, 46, 35], [35, 35, 10, 46, 46], [46, 46, 10, 35, 35], [35, 10, 35], [35, 32], [35, 120], [126], [35, 10], [10, 35], [46, 46, 35, 10, 35, 35, 35], [35, 46, 35]]
theorem hands_txt : ∀ t ∈ hands, Txt t := fun t ht => by
  have a : hands.all (fun t => t.all okC && decide (t.length ≤ 600)) = true := by decide
  have b := List.all_eq_true.mp a t ht
  rw [Bool.and_eq_true] at b
  exact ⟨b.1, of_decide_eq_true b.2⟩
theorem hands_ok {sc : MV} {s1 s2 : SV} {h : MH} : ∃ (s3 : SV) (h' : MH), forL (nameT 3) (bT 3) (hands.map .str) [.val sc, s1, s2, .un, .un, .un, .un, .un, .un] h = .nx [.val sc, s1, s2, s3, .un, .un, .un, .un, .un] h' := by
  obtain ⟨σ', h', e, s3, rfl, _⟩ := forL_inv (α := List Nat) (t := nameT 3) (b := bT 3) (fun x => .str x)
    (fun pre post σ h' => ∃ s3 : SV, σ = [.val sc, s1, s2, s3, .un, .un, .un, .un, .un] ∧ pre ++ post = hands)
    (by
      rintro pre x post σ h' ⟨s3, rfl, he⟩
      have tx : Txt x := hands_txt x (by rw [← he]; simp)
      obtain ⟨h'', q1, q2⟩ := turn_ok (i := 3) (σ := [.val sc, s1, s2, .val (.str x), .un, .un, .un, .un, .un]) (h := h') tx rfl
      exact ⟨_, rfl, _, h'', .inl q1, _, rfl, by simpa using he⟩)
    hands [] [.val sc, s1, s2, .un, .un, .un, .un, .un, .un] h ⟨_, rfl, rfl⟩
  exact ⟨s3, h', e⟩
end K83
end P_U17
section P_U18
set_option Elab.async false
set_option linter.all false
set_option maxRecDepth 100000
set_option maxHeartbeats 4000000
/-! U18: what is no floor -/
namespace K83
open PySem PySem.Spec PyProof.Rows L2 Mi TL
theorem odd_ex {x d : MV} {h : MH} (hd : der40 h x = some d) (hf : ∃ h', F_is_floor [d] h.emp = .ok (.bl false) h') : ask 0 x h = .ex "InvalidFloor" x h := by
  obtain ⟨h', hf⟩ := hf
  have pf : pureF F_is_floor [x] h = .ok (.bl false) h := by
    unfold pureF
    simp only [allM, hd]
    rw [hf]
    rfl
  have c : F_check_floor [x] h = .ex "InvalidFloor" x h := by
    unfold F_check_floor b_check_floor
    rw [bodyF_at]
    simp [pf, endFl]
  show F_floor_drawing [x] h = _
  unfold F_floor_drawing b_floor_drawing
  rw [bodyF_at]
  simp [c, endFl]
def MORE : MV := .str [109, 111, 114, 101]
def bO : SM := (fzS 5 (seqS (setS 6 (callE (callN 2 F__law_heard) [] (consA (cE (.int 0)) (consA (varE 5) nilA)))) (seqS (ifS (tstE (un1 (isiM .list) (peekE 5))) (exprS (methE "list" (lstR appendM) (peekE 5) (consA (cE (.str [109, 111, 114, 101])) nilA))) nextS) (ifS (notT (tstE (pureE 2 F__law_exact [] (consA (wrapL (lstO (consA (cE (.str [102, 108, 111, 111, 114])) (consA (varE 5) nilA)))) (consA (peekE 6) nilA))))) (retS (cE (.bl false))) nextS))))
structure OdV (x : MV) : Prop where
  d : ∀ h : MH, der h 39 x = some x ∧ der40 h x = some x
  f : ∀ h : MH, ∃ h', F_is_floor [x] h = .ok (.bl false) h'
  t : ∀ h : MH, ∃ T, tyM h x = some T ∧ isB T .list = false
  n : isNoV x = false
  o : okX 10 x = true
structure OdR (h0 : MH) (N i : Nat) (ys ds : List MV) : Prop where
  g : h0.get (N + i) = some (.lst ys)
  d : ∀ h' : MH, h'.get (N + 4) = h0.get (N + 4) → allM (der h' 38) ys = some ds ∧ allM (der h' 39) ys = some ds
  f : ∀ h : MH, ∃ h', F_is_floor [.lst ds] h = .ok (.bl false) h'
  o : okX 10 (.lst (ds ++ [MORE])) = true
  l : ys.length < zl
  ne : i ≠ 4
theorem bO_val {x : MV} {sc s1 s2 s3 s4 s6 : SV} {h : MH} (V : OdV x) : ∃ s6', bO [sc, s1, s2, s3, s4, .val x, s6, .un, .un] h = .nx [sc, s1, s2, s3, s4, .val x, s6', .un, .un] h := by
  have a := odd_ex (V.d h).2 (V.f h.emp)
  have hd := heard_ex a (.inl rfl) V.n
  have w : wordOf "InvalidFloor" = [102, 108, 111, 111, 114] := rfl
  rw [w] at hd
  obtain ⟨T, t1, t2⟩ := V.t h
  have d2 : der h 39 (.str [102, 108, 111, 111, 114]) = some (.str [102, 108, 111, 111, 114]) := rfl
  have x1 : pureF F__law_exact [.lst [.str [102, 108, 111, 111, 114], x], .lst [.str [102, 108, 111, 111, 114], x]] h = .ok (.bl true) h := same_ok (der_two d2 (V.d h).1) (der_two d2 (V.d h).1) (okX_two (by decide) V.o)
  refine ⟨.val (.lst [.str [102, 108, 111, 111, 114], x]), ?_⟩
  unfold bO fzS
  simp [hd, t1, t2, x1]
theorem allM_snoc {f : MV → Option MV} {xs ds : List MV} {y d : MV} (h : allM f xs = some ds) (hy : f y = some d) : allM f (xs ++ [y]) = some (ds ++ [d]) := by
  induction xs generalizing ds with
  | nil =>
    cases h
    show allM f [y] = some [d]
    simp only [allM, hy]
  | cons x xs ih =>
    obtain ⟨a, bs, h1, h2, rfl⟩ := allM_cons h
    rw [List.cons_append]
    unfold allM
    rw [h1, ih h2]
    rfl
theorem bO_ref {N i : Nat} {ys ds : List MV} {sc s1 s2 s3 s4 s6 : SV} {h0 h : MH} (R : OdR h0 N i ys ds) (g : h.get (N + i) = some (.lst ys)) (g4 : h.get (N + 4) = h0.get (N + 4)) : ∃ s6', bO [sc, s1, s2, s3, s4, .val (.ref (N + i)), s6, .un, .un] h = .nx [sc, s1, s2, s3, s4, .val (.ref (N + i)), s6', .un, .un] (h.put (N + i) (.lst (ys ++ [MORE]))) := by
  have d40 : der40 h (.ref (N + i)) = some (.lst ds) := by
    show der h (39 + 1) _ = _
    unfold der
    dsimp only
    rw [g]
    dsimp only
    rw [(R.d h g4).2]
    rfl
  have a := odd_ex d40 (R.f h.emp)
  have hd := heard_ex a (.inl rfl) rfl
  have w : wordOf "InvalidFloor" = [102, 108, 111, 111, 114] := rfl
  rw [w] at hd
  have ty : tyM h (.ref (N + i)) = some .list := by
    unfold tyM
    dsimp only
    rw [g]
  have tyt : tyT h (.ref (N + i)) = some "list" := by
    unfold tyT
    dsimp only
    rw [g]
  have ap : lstR appendM h (.ref (N + i)) [.str [109, 111, 114, 101]] = some (.non, h.put (N + i) (.lst (ys ++ [MORE]))) := by
    unfold lstR
    dsimp only
    rw [g]
    unfold appendM
    dsimp only
    rw [if_pos R.l]
    rfl
  generalize hh : h.put (N + i) (.lst (ys ++ [MORE])) = h' at *
  have g' : h'.get (N + i) = some (.lst (ys ++ [MORE])) := by rw [← hh]; exact MH.put_get _ _ _
  have g4' : h'.get (N + 4) = h0.get (N + 4) := by
    rw [← hh, ← g4]
    show (if N + 4 = N + i then _ else _) = _
    rw [if_neg (by have := R.ne; omega)]
  have d39 : der h' 39 (.ref (N + i)) = some (.lst (ds ++ [MORE])) := by
    show der h' (38 + 1) _ = _
    unfold der
    dsimp only
    rw [g']
    dsimp only
    rw [allM_snoc (R.d h' g4').1 (show der h' 38 MORE = some MORE from rfl)]
    rfl
  have d2 : der h' 39 (.str [102, 108, 111, 111, 114]) = some (.str [102, 108, 111, 111, 114]) := rfl
  have x1 : pureF F__law_exact [.lst [.str [102, 108, 111, 111, 114], .ref (N + i)], .lst [.str [102, 108, 111, 111, 114], .ref (N + i)]] h' = .ok (.bl true) h' := same_ok (der_two d2 d39) (der_two d2 d39) (okX_two (by decide) R.o)
  refine ⟨.val (.lst [.str [102, 108, 111, 111, 114], .ref (N + i)]), ?_⟩
  have ib : isB .list .list = true := rfl
  unfold bO fzS
  simp [hd, ty, ib, methE_at, tyt, ap, opR, x1]
def em (N : Nat) : MV ⊕ Nat → MV
  | .inl x => x
  | .inr i => .ref (N + i)
def reI : MV ⊕ Nat → Option Nat
  | .inl _ => none
  | .inr i => some i
theorem odds_ok {N : Nat} {h0 : MH} {sc s1 s2 s3 s4 : SV} {items : List (MV ⊕ Nat)} (hv : ∀ x, .inl x ∈ items → OdV x) (hr : ∀ i, .inr i ∈ items → ∃ ys ds, OdR h0 N i ys ds) (nd : (items.filterMap reI).Nodup) :
    ∃ (s5 s6 : SV) (h' : MH), forL (nameT 5) bO (items.map (em N)) [sc, s1, s2, s3, s4, .un, .un, .un, .un] h0 = .nx [sc, s1, s2, s3, s4, s5, s6, .un, .un] h' := by
  obtain ⟨σ', h', e, s5, s6, rfl, _, _⟩ := forL_inv (α := MV ⊕ Nat) (t := nameT 5) (b := bO) (em N)
    (fun pre post σ h' => ∃ s5 s6 : SV, σ = [sc, s1, s2, s3, s4, s5, s6, .un, .un] ∧ pre ++ post = items ∧ ∀ k, (∀ i, .inr i ∈ pre → k ≠ N + i) → h'.get k = h0.get k)
    (by
      rintro pre x post σ h' ⟨s5, s6, rfl, he, hk⟩
      have hx : x ∈ items := by rw [← he]; simp
      cases x with
      | inl x =>
        obtain ⟨s6', q⟩ := bO_val (sc := sc) (s1 := s1) (s2 := s2) (s3 := s3) (s4 := s4) (s6 := s6) (h := h') (hv x hx)
        refine ⟨_, rfl, _, h', .inl q, _, _, rfl, by simpa using he, fun k hh => hk k fun i hi => hh i (List.mem_append_left _ hi)⟩
      | inr i =>
        obtain ⟨ys, ds, R⟩ := hr i hx
        have ni : ∀ j, .inr j ∈ pre → j ≠ i := by
          intro j hj e
          subst e
          rw [← he, List.filterMap_append] at nd
          have := (List.nodup_append.mp nd).2.2 j (List.mem_filterMap.mpr ⟨_, hj, rfl⟩) j (List.mem_filterMap.mpr ⟨.inr j, List.mem_cons_self, rfl⟩)
          exact this rfl
        have n4 : ∀ j, .inr j ∈ pre → j ≠ 4 := fun j hj => by
          obtain ⟨_, _, R'⟩ := hr j (by rw [← he]; exact List.mem_append_left _ hj)
          exact R'.ne
        have g : h'.get (N + i) = some (.lst ys) := by
          rw [hk (N + i) fun j hj => by have := ni j hj; omega]
          exact R.g
        have g4 : h'.get (N + 4) = h0.get (N + 4) := hk _ fun j hj => by have := n4 j hj; omega
        obtain ⟨s6', q⟩ := bO_ref (sc := sc) (s1 := s1) (s2 := s2) (s3 := s3) (s4 := s4) (s6 := s6) R g g4
        refine ⟨_, rfl, _, _, .inl q, _, _, rfl, by simpa using he, fun k hh => ?_⟩
        show (if k = N + i then _ else h'.get k) = _
        rw [if_neg (hh i (List.mem_append_right _ List.mem_cons_self))]
        exact hk k fun j hj => hh j (List.mem_append_left _ hj))
    items [] [sc, s1, s2, s3, s4, .un, .un, .un, .un] h0 ⟨_, _, rfl, rfl, fun k _ => rfl⟩
  exact ⟨s5, s6, h', e⟩
example (h : MH) : F_is_floor [.lst [.non]] h = .ok (.bl false) h := rfl
example (h : MH) : F_is_floor [.lst []] h = .ok (.bl false) h := rfl
example (h : MH) : F_is_floor [.lst [.tup [.int 0, .str [48]]]] h = .ok (.bl false) h := rfl
example (h : MH) : F_is_floor [.lst [.tup [.bl true, .int 0]]] h = .ok (.bl false) h := rfl
example (h : MH) : F_is_floor [.lst [.tup [.int (-1), .int 0]]] h = .ok (.bl false) h := rfl
example (h : MH) : F_is_floor [.tup [.tup [.int 0, .int 0]]] h = .ok (.bl false) h := rfl
example (h : MH) : F_is_floor [.lst [.tup [.int 1, .int 0], .tup [.int 0, .int 0]]] h = .ok (.bl false) h := rfl
end K83
end P_U18
section P_U19
set_option Elab.async false
set_option linter.all false
set_option maxRecDepth 100000
set_option maxHeartbeats 4000000
/-! U19: the odds, far, and the law -/
namespace Mi
open PySem PySem.Spec PyProof.Rows L2
@[simp] theorem newE_at (f : OM) (σ : Sl) (h : MH) : newE f σ h = bindR (f σ h) fun xs h' => .ok (.ref h'.nx) (h'.push (.lst xs)) := (rfl)
@[simp] theorem MH.push_nx (h : MH) (o : MO) : (h.push o).nx = h.nx + 1 := (rfl)
def pushes : List (List MV) → MH → MH
  | [], h => h
  | o :: os, h => pushes os (h.push (.lst o))
theorem pushes_old : ∀ (os : List (List MV)) (h : MH) {k : Nat}, k < h.nx → (pushes os h).get k = h.get k
  | [], _, _, _ => rfl
  | o :: os, h, k, l => by
    show (pushes os (h.push (.lst o))).get k = _
    rw [pushes_old os _ (Nat.lt_succ_of_lt l), MH.push_old _ _ l]
theorem pushes_get : ∀ (os : List (List MV)) (h : MH) (i : Nat) (o : List MV), os[i]? = some o → (pushes os h).get (h.nx + i) = some (.lst o)
  | [], _, _, _, e => by cases e
  | p :: os, h, 0, o, e => by
    cases e
    show (pushes os (h.push (.lst p))).get h.nx = _
    rw [pushes_old os _ (Nat.lt_succ_self _), MH.push_get]
  | p :: os, h, i + 1, o, e => by
    show (pushes os (h.push (.lst p))).get (h.nx + (i + 1)) = _
    have := pushes_get os (h.push (.lst p)) i o e
    rw [MH.push_nx] at this
    rw [show h.nx + (i + 1) = h.nx + 1 + i by omega]
    exact this
end Mi
namespace K83
open PySem PySem.Spec PyProof.Rows L2 Mi TL
def os (N : Nat) : List (List MV) := [[], [.non], [.tup [.int 0]], [.tup [.int 0, .int 0, .int 0]], [.int 0, .int 0], [.ref (N + 4)], [.tup [.int (-1), .int 0]], [.tup [.bl true, .int 0]], [.tup [.int 0, .str [48]]], [.tup [.int 0, .int 0], .tup [.int 1, .int 1]], [.tup [.int 1, .int 0], .tup [.int 0, .int 0]], [.tup [.int 0, .int 0], .tup [.int 0, .int 0]], [.tup [.int 0, .int 0], .tup [.int 0, .int 2]], [.tup [.int 0, .int 0], .non], [.tup [.int 0, .non]]]
def items : List (MV ⊕ Nat) := [.inl .non, .inl (.tup []), .inl (.dic []), .inl (.str [35]), .inl (.int 5), .inr 0, .inr 1, .inr 2, .inr 3, .inr 5, .inr 6, .inr 7, .inr 8, .inr 9, .inr 10, .inr 11, .inl (.tup [.tup [.int 0, .int 0]]), .inr 12, .inr 13, .inr 14]
theorem no_conn {a : Cel} {S : List Cel} (h : ∀ c ∈ S, ¬ Adj a c) {x : Cel} (r : Rch S a x) : x = a := by
  induction r with
  | refl => rfl
  | step r hc ad ih => subst ih; exact absurd ad (h _ hc)
theorem no_flr {fl : List Cel} (h : MH) (l : fl.length ≤ 300000) (n : ¬ FlR fl) : ∃ h', F_is_floor [FL fl] h = .ok (.bl false) h' := by
  obtain ⟨b, h', e, i⟩ := is_floor_ok (h := h) l
  cases b with
  | false => exact ⟨h', e⟩
  | true => exact absurd (i.mp rfl) n
theorem odr {h0 : MH} {N i : Nat} {ys : List MV} (g : h0.get (N + i) = some (.lst ys)) (d : ∀ h' : MH, allM (der h' 38) ys = some ys ∧ allM (der h' 39) ys = some ys) (f : ∀ h : MH, ∃ h', F_is_floor [.lst ys] h = .ok (.bl false) h') (o : okX 10 (.lst (ys ++ [MORE])) = true) (l : ys.length < zl) (ne : i ≠ 4) : ∃ ys ds, OdR h0 N i ys ds :=
  ⟨ys, ys, g, fun h' _ => d h', f, o, l, ne⟩
theorem items_r (h : MH) : ∀ i, .inr i ∈ items → ∃ ys ds, OdR (pushes (os h.nx) h) h.nx i ys ds := by
  intro i hi
  have G : ∀ (i : Nat) (o : List MV), (os h.nx)[i]? = some o → (pushes (os h.nx) h).get (h.nx + i) = some (.lst o) := pushes_get (os h.nx) h
  unfold items at hi
  simp only [List.mem_cons, List.not_mem_nil, or_false, reduceCtorEq, false_or, Sum.inr.injEq] at hi
  rcases hi with rfl | rfl | rfl | rfl | rfl | rfl | rfl | rfl | rfl | rfl | rfl | rfl | rfl | rfl
  · exact odr (G 0 _ rfl) (fun _ => ⟨rfl, rfl⟩) (fun h => ⟨h, rfl⟩) (by decide) (by decide) (by decide)
  · exact odr (G 1 _ rfl) (fun _ => ⟨rfl, rfl⟩) (fun h => ⟨h, rfl⟩) (by decide) (by decide) (by decide)
  · exact odr (G 2 _ rfl) (fun _ => ⟨rfl, rfl⟩) (fun h => ⟨h, rfl⟩) (by decide) (by decide) (by decide)
  · exact odr (G 3 _ rfl) (fun _ => ⟨rfl, rfl⟩) (fun h => ⟨h, rfl⟩) (by decide) (by decide) (by decide)
  · refine ⟨[.ref (h.nx + 4)], [.lst [.int 0, .int 0]], G 5 _ rfl, fun h' g4 => ?_, fun h => ⟨h, rfl⟩, by decide, (by decide : 1 < 16777216), by decide⟩
    rw [G 4 _ rfl] at g4
    have e : ∀ j, der h' (j + 2) (.ref (h.nx + 4)) = some (.lst [.int 0, .int 0]) := fun j => by
      unfold der
      dsimp only
      rw [g4]
      rfl
    constructor
    · simp only [allM, e 36]
    · simp only [allM, e 37]
  · exact odr (G 6 _ rfl) (fun _ => ⟨rfl, rfl⟩) (fun h => ⟨h, rfl⟩) (by decide) (by decide) (by decide)
  · exact odr (G 7 _ rfl) (fun _ => ⟨rfl, rfl⟩) (fun h => ⟨h, rfl⟩) (by decide) (by decide) (by decide)
  · exact odr (G 8 _ rfl) (fun _ => ⟨rfl, rfl⟩) (fun h => ⟨h, rfl⟩) (by decide) (by decide) (by decide)
  · refine odr (G 9 _ rfl) (fun _ => ⟨rfl, rfl⟩) (fun h => no_flr (fl := [(0, 0), (1, 1)]) h (by decide) fun c => ?_) (by decide) (by decide) (by decide)
    have := no_conn (by decide) (c.conn (1, 1) (by decide))
    cases this
  · exact odr (G 10 _ rfl) (fun _ => ⟨rfl, rfl⟩) (fun h => ⟨h, rfl⟩) (by decide) (by decide) (by decide)
  · exact odr (G 11 _ rfl) (fun _ => ⟨rfl, rfl⟩) (fun h => ⟨h, rfl⟩) (by decide) (by decide) (by decide)
  · refine odr (G 12 _ rfl) (fun _ => ⟨rfl, rfl⟩) (fun h => no_flr (fl := [(0, 0), (0, 2)]) h (by decide) fun c => ?_) (by decide) (by decide) (by decide)
    have := no_conn (by decide) (c.conn (0, 2) (by decide))
    cases this
  · exact odr (G 13 _ rfl) (fun _ => ⟨rfl, rfl⟩) (fun h => ⟨h, rfl⟩) (by decide) (by decide) (by decide)
  · exact odr (G 14 _ rfl) (fun _ => ⟨rfl, rfl⟩) (fun h => ⟨h, rfl⟩) (by decide) (by decide) (by decide)
theorem items_v : ∀ x, .inl x ∈ items → OdV x := by
  intro x hx
  unfold items at hx
  simp only [List.mem_cons, List.not_mem_nil, or_false, reduceCtorEq, false_or, Sum.inl.injEq] at hx
  rcases hx with rfl | rfl | rfl | rfl | rfl | rfl <;> exact ⟨fun _ => ⟨rfl, rfl⟩, fun h => ⟨h, rfl⟩, fun _ => ⟨_, rfl, rfl⟩, rfl, by decide⟩
/-! the texts that are none -/
def bX : SM := (fzS 5 (ifS (notT (tstE (pureE 2 F__law_exact [] (consA (wrapL (lstO (consA (cE (.str [116, 101, 120, 116])) (consA (varE 5) nilA)))) (consA (callE (callN 2 F__law_heard) [] (consA (cE (.int 1)) (consA (varE 5) nilA))) nilA))))) (retS (cE (.bl false))) nextS))
def tods : List MV := [.non, .int 5, .lst [], .tup [], .dic [], .bl true, .str [35, 9], .lst [.str [35]], .str [35, 10, 9]]
structure TdV (x : MV) : Prop where
  d : ∀ h : MH, der h 39 x = some x
  f : ∀ h : MH, F_check_rows [x] h = .ex "InvalidText" x h
  n : isNoV x = false
  o : okX 10 x = true
theorem tods_v : ∀ x ∈ tods, TdV x := by
  intro x hx
  unfold tods at hx
  simp only [List.mem_cons, List.not_mem_nil, or_false] at hx
  rcases hx with rfl | rfl | rfl | rfl | rfl | rfl | rfl | rfl | rfl
  · exact ⟨fun _ => rfl, fun h => rfl, rfl, by decide⟩
  · exact ⟨fun _ => rfl, fun h => rfl, rfl, by decide⟩
  · exact ⟨fun _ => rfl, fun h => rfl, rfl, by decide⟩
  · exact ⟨fun _ => rfl, fun h => rfl, rfl, by decide⟩
  · exact ⟨fun _ => rfl, fun h => rfl, rfl, by decide⟩
  · exact ⟨fun _ => rfl, fun h => rfl, rfl, by decide⟩
  · exact ⟨fun _ => rfl, fun h => by rw [check_rows_gen (by decide) (by decide), if_neg (by decide)], rfl, by decide⟩
  · exact ⟨fun _ => rfl, fun h => rfl, rfl, by decide⟩
  · exact ⟨fun _ => rfl, fun h => by rw [check_rows_gen (by decide) (by decide), if_neg (by decide)], rfl, by decide⟩
theorem bX_ok {x : MV} {sc s1 s2 s3 s4 s6 : SV} {h : MH} (V : TdV x) : bX [sc, s1, s2, s3, s4, .val x, s6, .un, .un] h = .nx [sc, s1, s2, s3, s4, .val x, s6, .un, .un] h := by
  have a : ask 1 x h = .ex "InvalidText" x h := by
    show F_read_floor [x] h = _
    unfold F_read_floor b_read_floor
    rw [bodyF_at]
    simp [V.f, endFl]
  have hd := heard_ex a (.inr (.inl rfl)) V.n
  have w : wordOf "InvalidText" = [116, 101, 120, 116] := rfl
  rw [w] at hd
  have d2 : der h 39 (.str [116, 101, 120, 116]) = some (.str [116, 101, 120, 116]) := rfl
  have x1 : pureF F__law_exact [.lst [.str [116, 101, 120, 116], x], .lst [.str [116, 101, 120, 116], x]] h = .ok (.bl true) h := same_ok (der_two d2 (V.d h)) (der_two d2 (V.d h)) (okX_two (by decide) V.o)
  unfold bX fzS
  simp [hd, x1]
theorem tods_ok {sc s1 s2 s3 s4 s5 s6 : SV} {h : MH} : ∃ s5' : SV, forL (nameT 5) bX (tods.map id) [sc, s1, s2, s3, s4, s5, s6, .un, .un] h = .nx [sc, s1, s2, s3, s4, s5', s6, .un, .un] h := by
  obtain ⟨σ', h', e, rfl, s5', rfl, _⟩ := forL_inv (α := MV) (t := nameT 5) (b := bX) id
    (fun pre post σ h' => h' = h ∧ ∃ s5 : SV, σ = [sc, s1, s2, s3, s4, s5, s6, .un, .un] ∧ pre ++ post = tods)
    (by
      rintro pre x post σ h' ⟨rfl, s5, rfl, he⟩
      have hx : x ∈ tods := by rw [← he]; simp
      exact ⟨_, rfl, _, h', .inl (bX_ok (tods_v x hx)), rfl, _, rfl, by simpa using he⟩)
    tods [] [sc, s1, s2, s3, s4, s5, s6, .un, .un] h ⟨rfl, _, rfl, rfl⟩
  exact ⟨s5', e⟩
/-! far -/
def far : List Cel := (List.range 90).map fun x : Nat => ((x : Int), (0 : Int))
theorem far_mem {c : Cel} : c ∈ far ↔ ∃ x : Nat, x < 90 ∧ c = ((x : Int), 0) := by
  unfold far
  rw [List.mem_map]
  constructor
  · rintro ⟨x, h, rfl⟩
    exact ⟨x, List.mem_range.mp h, rfl⟩
  · rintro ⟨x, h, rfl⟩
    exact ⟨x, List.mem_range.mpr h, rfl⟩
theorem far_conn : Conn far := by
  show ∀ x ∈ far, Rch far (0, 0) x
  intro c hc
  obtain ⟨x, h, rfl⟩ := far_mem.mp hc
  have go : ∀ x : Nat, x < 90 → Rch far (0, 0) ((x : Int), 0) := by
    intro x
    induction x with
    | zero => intro _; exact .refl
    | succ x ih =>
      intro h
      refine .step (ih (by omega)) (far_mem.mpr ⟨x + 1, h, rfl⟩) ?_
      unfold Adj
      simp
      omega
  exact go x h
theorem far_flr : FlR far := ⟨by decide, by decide +kernel, by decide +kernel, far_conn⟩
theorem far_fin : Fin far := far_flr.fin (fun c hc => by
  obtain ⟨x, h, rfl⟩ := far_mem.mp hc
  simp
  omega) (by decide)
theorem far_txt : Txt (drawL far) := by
  have a : ((drawL far).all okC && decide ((drawL far).length ≤ 600)) = true := by decide +kernel
  rw [Bool.and_eq_true] at a
  exact ⟨a.1, of_decide_eq_true a.2⟩
theorem s1_flr : FlR [(0, 0), (0, 1), (1, 0)] := ⟨by decide, by decide, by decide, fun x hx => by
  simp only [List.mem_cons, List.not_mem_nil, or_false] at hx
  rcases hx with rfl | rfl | rfl
  · exact .refl
  · exact .step .refl (by decide) (by decide)
  · exact .step .refl (by decide) (by decide)⟩
theorem s2_flr : FlR [(0, 0), (1, 0), (1, 1)] := ⟨by decide, by decide, by decide, fun x hx => by
  simp only [List.mem_cons, List.not_mem_nil, or_false] at hx
  rcases hx with rfl | rfl | rfl
  · exact .refl
  · exact .step .refl (by decide) (by decide)
  · exact .step (.step (c := (1, 0)) .refl (by decide) (by decide)) (by decide) (by decide)⟩
theorem s1_fin : Fin [(0, 0), (0, 1), (1, 0)] := s1_flr.fin (by decide) (by decide)
theorem s2_fin : Fin [(0, 0), (1, 0), (1, 1)] := s2_flr.fin (by decide) (by decide)
theorem s1_draw : drawL [(0, 0), (0, 1), (1, 0)] = [35, 46, 10, 35, 35] := by decide +kernel
theorem s2_draw : drawL [(0, 0), (1, 0), (1, 1)] = [46, 35, 10, 35, 35] := by decide +kernel
end K83
end P_U19
section P_U20
set_option Elab.async false
set_option linter.all false
set_option maxRecDepth 100000
set_option maxHeartbeats 4000000
/-! U20: the law -/
namespace K83
open PySem PySem.Spec PyProof.Rows L2 Mi TL
def q0 : SM := (forS (nameT 1) (itAny (callE (callN 2 F__law_purses) [] (consA (varE 0) (consA (cE (.int 3)) nilA)))) bLo)
def q1 : SM := (forS (nameT 3) (itAny (wrapL (lstO (consA (cE (.str [])) (consA (cE (.str [10])) (consA (cE (.str [35])) (consA (cE (.str [46])) (consA (cE (.str [46, 35])) (consA (cE (.str [35, 46])) (consA (cE (.str [46, 35, 10, 35, 35])) (consA (cE (.str [35, 46, 10, 46, 35])) (consA (cE (.str [35, 35, 10, 46, 46])) (consA (cE (.str [46, 46, 10, 35, 35])) (consA (cE (.str [35, 10, 35])) (consA (cE (.str [35, 32])) (consA (cE (.str [35, 120])) (consA (cE (.str [126])) (consA (cE (.str [35, 10])) (consA (cE (.str [10, 35])) (consA (cE (.str [46, 46, 35, 10, 35, 35, 35])) (consA (cE (.str [35, 46, 35])) nilA))))))))))))))))))))) (bT 3))
def q2 : SM := (setS 4 (wrapL (lstO (consA (cE .non) (consA (tupE nilA) (consA (cE (.dic [])) (consA (cE (.str [35])) (consA (cE (.int 5)) (consA (newE (lstO nilA)) (consA (newE (lstO (consA (cE .non) nilA))) (consA (newE (lstO (consA (tupE (consA (cE (.int 0)) nilA)) nilA))) (consA (newE (lstO (consA (tupE (consA (cE (.int 0)) (consA (cE (.int 0)) (consA (cE (.int 0)) nilA)))) nilA))) (consA (newE (lstO (consA (newE (lstO (consA (cE (.int 0)) (consA (cE (.int 0)) nilA)))) nilA))) (consA (newE (lstO (consA (tupE (consA (bin2 subM (cE (.int 0)) (cE (.int 1))) (consA (cE (.int 0)) nilA))) nilA))) (consA (newE (lstO (consA (tupE (consA (cE (.bl true)) (consA (cE (.int 0)) nilA))) nilA))) (consA (newE (lstO (consA (tupE (consA (cE (.int 0)) (consA (cE (.str [48])) nilA))) nilA))) (consA (newE (lstO (consA (tupE (consA (cE (.int 0)) (consA (cE (.int 0)) nilA))) (consA (tupE (consA (cE (.int 1)) (consA (cE (.int 1)) nilA))) nilA)))) (consA (newE (lstO (consA (tupE (consA (cE (.int 1)) (consA (cE (.int 0)) nilA))) (consA (tupE (consA (cE (.int 0)) (consA (cE (.int 0)) nilA))) nilA)))) (consA (newE (lstO (consA (tupE (consA (cE (.int 0)) (consA (cE (.int 0)) nilA))) (consA (tupE (consA (cE (.int 0)) (consA (cE (.int 0)) nilA))) nilA)))) (consA (tupE (consA (tupE (consA (cE (.int 0)) (consA (cE (.int 0)) nilA))) nilA)) (consA (newE (lstO (consA (tupE (consA (cE (.int 0)) (consA (cE (.int 0)) nilA))) (consA (tupE (consA (cE (.int 0)) (consA (cE (.int 2)) nilA))) nilA)))) nilA)))))))))))))))))))))
def q3i : OM := (itAny (bin2 addM (peekE 4) (wrapL (lstO (consA (newE (lstO (consA (tupE (consA (cE (.int 0)) (consA (cE (.int 0)) nilA))) (consA (cE .non) nilA)))) (consA (newE (lstO (consA (tupE (consA (cE (.int 0)) (consA (cE .non) nilA))) nilA))) nilA))))))
def q3 : SM := (forS (nameT 5) q3i bO)
def q4 : SM := (forS (nameT 5) (itAny (wrapL (lstO (consA (cE .non) (consA (cE (.int 5)) (consA (wrapL (lstO nilA)) (consA (tupE nilA) (consA (cE (.dic [])) (consA (cE (.bl true)) (consA (cE (.str [35, 9])) (consA (wrapL (lstO (consA (cE (.str [35])) nilA))) (consA (cE (.str [35, 10, 9])) nilA)))))))))))) bX)
def q5 : SM := (setS 7 (callE (callN 2 F__law_heard) [] (consA (cE (.int 0)) (consA (wrapL (compO [8] (itB rng1M (consA (cE (.int 90)) nilA)) (nameT 8) yesT (tupE (consA (varE 8) (consA (cE (.int 0)) nilA))))) nilA))))
def q6 : SM := (retS (andE (bin2 eqM (bin2 ixDM (peekE 7) (cE (.int 0))) (cE (.str [116, 111, 108, 100]))) (andE (bin2 eqM (bin2 ixDM (callE (callN 2 F__law_heard) [] (consA (cE (.int 1)) (consA (bin2 ixDM (peekE 7) (cE (.int 1))) nilA))) (cE (.int 0))) (cE (.str [116, 111, 108, 100]))) (pureE 2 F__law_exact [] (consA (wrapL (lstO (consA (cE (.str [35, 46, 10, 35, 35])) (consA (wrapL (lstO (consA (tupE (consA (cE (.int 0)) (consA (cE (.int 0)) nilA))) (consA (tupE (consA (cE (.int 1)) (consA (cE (.int 0)) nilA))) (consA (tupE (consA (cE (.int 1)) (consA (cE (.int 1)) nilA))) nilA))))) nilA)))) (consA (wrapL (lstO (consA (callE (callN 1 F_floor_drawing) [] (consA (wrapL (lstO (consA (tupE (consA (cE (.int 0)) (consA (cE (.int 0)) nilA))) (consA (tupE (consA (cE (.int 0)) (consA (cE (.int 1)) nilA))) (consA (tupE (consA (cE (.int 1)) (consA (cE (.int 0)) nilA))) nilA))))) nilA)) (consA (callE (callN 1 F_read_floor) [] (consA (cE (.str [46, 35, 10, 35, 35])) nilA)) nilA)))) nilA))))))
theorem law_eq : b_law = seqS q0 (seqS q1 (seqS q2 (seqS q3 (seqS q4 (seqS q5 q6))))) := rfl

section
variable {sc s1 s2 s3 s4 s5 s6 s7 : SV} {h : MH}
theorem q1_ok {sc : MV} : ∃ (s3 : SV) (h' : MH), q1 [.val sc, s1, s2, .un, .un, .un, .un, .un, .un] h = .nx [.val sc, s1, s2, s3, .un, .un, .un, .un, .un] h' := by
  obtain ⟨s3, h', e⟩ := hands_ok (sc := sc) (s1 := s1) (s2 := s2) (h := h)
  refine ⟨s3, h', ?_⟩
  unfold q1
  rw [forS_at]
  have it : (itAny (wrapL (lstO (consA (cE (.str [])) (consA (cE (.str [10])) (consA (cE (.str [35])) (consA (cE (.str [46])) (consA (cE (.str [46, 35])) (consA (cE (.str [35, 46])) (consA (cE (.str [46, 35, 10, 35, 35])) (consA (cE (.str [35, 46, 10, 46, 35])) (consA (cE (.str [35, 35, 10, 46, 46])) (consA (cE (.str [46, 46, 10, 35, 35])) (consA (cE (.str [35, 10, 35])) (consA (cE (.str [35, 32])) (consA (cE (.str [35, 120])) (consA (cE (.str [126])) (consA (cE (.str [35, 10])) (consA (cE (.str [10, 35])) (consA (cE (.str [46, 46, 35, 10, 35, 35, 35])) (consA (cE (.str [35, 46, 35])) nilA))))))))))))))))))))) [.val sc, s1, s2, .un, .un, .un, .un, .un, .un] h = .ok (hands.map .str) h := rfl
  rw [it, bindFl_ok, e]
def L18 (N : Nat) : List MV := (items.take 18).map (em N)
theorem q2_ok : q2 [sc, s1, s2, s3, .un, .un, .un, .un, .un] h = .nx [sc, s1, s2, s3, .val (.lst (L18 h.nx)), .un, .un, .un, .un] (pushes ((os h.nx).take 13) h) := by
  unfold q2
  simp
  exact ⟨rfl, rfl⟩
theorem q3i_ok : q3i [sc, s1, s2, s3, .val (.lst (L18 h.nx)), .un, .un, .un, .un] (pushes ((os h.nx).take 13) h) = .ok (items.map (em h.nx)) (pushes (os h.nx) h) := by
  unfold q3i
  have nx : (pushes ((os h.nx).take 13) h).nx = h.nx + 13 := rfl
  simp [nx]
  have ad : ∀ h' : MH, addM h' (.lst (L18 h.nx)) (.lst [.ref (h.nx + 13), .ref (h.nx + 13 + 1)]) = some (.lst (L18 h.nx ++ [.ref (h.nx + 13), .ref (h.nx + 13 + 1)])) := fun h' => by
    refine add_Ml _ _ _ ?_
    have e1 : (L18 h.nx).length = 18 := rfl
    have e2 : [MV.ref (h.nx + 13), .ref (h.nx + 13 + 1)].length = 2 := rfl
    rw [e1, e2]
    exact (by decide : 18 + 2 ≤ 16777216)
  rw [ad]
  rfl
theorem q3_ok : ∃ (s5 s6 : SV) (h' : MH), q3 [sc, s1, s2, s3, .val (.lst (L18 h.nx)), .un, .un, .un, .un] (pushes ((os h.nx).take 13) h) = .nx [sc, s1, s2, s3, .val (.lst (L18 h.nx)), s5, s6, .un, .un] h' := by
  obtain ⟨s5, s6, h', e⟩ := odds_ok (N := h.nx) (h0 := pushes (os h.nx) h) (sc := sc) (s1 := s1) (s2 := s2) (s3 := s3) (s4 := .val (.lst (L18 h.nx))) items_v (items_r h) (by decide)
  refine ⟨s5, s6, h', ?_⟩
  unfold q3
  rw [forS_at, q3i_ok, bindFl_ok, e]
theorem q4_ok : ∃ s5' : SV, q4 [sc, s1, s2, s3, s4, s5, s6, .un, .un] h = .nx [sc, s1, s2, s3, s4, s5', s6, .un, .un] h := by
  obtain ⟨s5', e⟩ := tods_ok (sc := sc) (s1 := s1) (s2 := s2) (s3 := s3) (s4 := s4) (s5 := s5) (s6 := s6) (h := h)
  refine ⟨s5', ?_⟩
  unfold q4
  rw [forS_at]
  have it : (itAny (wrapL (lstO (consA (cE .non) (consA (cE (.int 5)) (consA (wrapL (lstO nilA)) (consA (tupE nilA) (consA (cE (.dic [])) (consA (cE (.bl true)) (consA (cE (.str [35, 9])) (consA (wrapL (lstO (consA (cE (.str [35])) nilA))) (consA (cE (.str [35, 10, 9])) nilA)))))))))))) [sc, s1, s2, s3, s4, s5, s6, .un, .un] h = .ok (tods.map id) h := rfl
  rw [it, bindFl_ok, e]
theorem q5_ok : q5 [sc, s1, s2, s3, s4, s5, s6, .un, .un] h = .nx [sc, s1, s2, s3, s4, s5, s6, .val (.lst [.str [116, 111, 108, 100], .str (drawL far)]), .un] h := by
  have z := zl_def
  have c := compO_data (vs := [8]) (fi := itB rng1M (consA (cE (.int 90)) nilA)) (t := nameT 8) (f := tupE (consA (varE 8) (consA (cE (.int 0)) nilA))) (σ := [sc, s1, s2, s3, s4, s5, s6, .un, .un]) (h := h) (xs := List.range 90) (fun i : Nat => .int i) (fun i : Nat => pairM ((i : Int), 0)) (by simp; exact congrArg (optR · h) (rng1_nat (show 90 ≤ zl by omega))) (by simp; omega) (fun x hx => ⟨_, rfl, by simp [wipeM, pairM]⟩)
  have e : (List.range 90).map (fun i : Nat => pairM ((i : Int), 0)) = far.map pairM := by
    unfold far
    rw [List.map_map]
    rfl
  rw [e] at c
  have hd : F__law_heard [.int 0, .lst (far.map pairM)] h = .ok (.lst [.str [116, 111, 108, 100], .str (drawL far)]) h := heard_told (k := 0) (x := FL far) (drawing_ok far_flr far_fin h)
  unfold q5
  simp only [setS_at, callE_at, consA_at, cE_at, nilA_at, wrapL_at, bindR_ok]
  rw [c]
  simp [hd]
theorem q6_ok : ∃ h', q6 [sc, s1, s2, s3, s4, s5, s6, .val (.lst [.str [116, 111, 108, 100], .str (drawL far)]), .un] h = .rt (.bl true) h' := by
  have td := told_draw far_fin far_flr
  have hd := heard_told (k := 1) (x := .str (drawL far)) (h := h) (show ask 1 _ h = _ from (read_ok far_txt h).1 td)
  generalize hh : h.push (.lst ((flT (drawL far)).map pairM)) = h1 at *
  have d1 : F_floor_drawing [.lst [.tup [.int 0, .int 0], .tup [.int 0, .int 1], .tup [.int 1, .int 0]]] h1 = .ok (.str [35, 46, 10, 35, 35]) h1 := by
    have := drawing_ok s1_flr s1_fin h1
    rw [s1_draw] at this
    exact this
  have d2 : F_read_floor [.str [46, 35, 10, 35, 35]] h1 = .ok (.ref h1.nx) (h1.push (.lst [.tup [.int 0, .int 0], .tup [.int 1, .int 0], .tup [.int 1, .int 1]])) := by
    have tx : Txt [46, 35, 10, 35, 35] := ⟨by decide, by decide⟩
    have t2 := told_draw s2_fin s2_flr
    have f2 := flT_draw s2_fin (chn_pw _ s2_flr.chn)
    rw [s2_draw] at t2 f2
    have := (read_ok tx h1).1 t2
    rw [f2] at this
    exact this
  have e1 : ∀ h : MH, eqM h (.str [116, 111, 108, 100]) (.str [116, 111, 108, 100]) = some (.bl true) := fun h => rfl
  generalize hh2 : h1.push (.lst [.tup [.int 0, .int 0], .tup [.int 1, .int 0], .tup [.int 1, .int 1]]) = h2 at *
  have g2 : h2.get h1.nx = some (.lst (([(0, 0), (1, 0), (1, 1)] : List Cel).map pairM)) := by rw [← hh2]; exact MH.push_get _ _
  have x1 : pureF F__law_exact [.lst [.str [35, 46, 10, 35, 35], .lst [.tup [.int 0, .int 0], .tup [.int 1, .int 0], .tup [.int 1, .int 1]]], .lst [.str [35, 46, 10, 35, 35], .ref h1.nx]] h2 = .ok (.bl true) h2 :=
    same_ok (d := .lst [.str [35, 46, 10, 35, 35], FL [(0, 0), (1, 0), (1, 1)]]) rfl (der_two rfl (der_ref (n := 36) g2)) (by decide)
  refine ⟨h2, ?_⟩
  unfold q6
  simp [hd, e1, d1, d2, x1]
end
theorem plain (ns : List Int) (l : ns.length ≤ 63) : ∃ h', F_law [.scr (ns.map .int)] hm0 = .ok (.bl true) h' := by
  obtain ⟨h0, N, rs, e0, H0, hr, hl, _⟩ := purses_ok (ns := ns)
  obtain ⟨s1, s2, h1, e1⟩ := loops_ok (sc := .scr (ns.map .int)) H0 hr hl
  obtain ⟨s3, h2, e2⟩ := q1_ok (sc := .scr (ns.map .int)) (s1 := s1) (s2 := s2) (h := h1)
  have e3 := q2_ok (sc := .val (.scr (ns.map .int))) (s1 := s1) (s2 := s2) (s3 := s3) (h := h2)
  obtain ⟨s5, s6, h3, e4⟩ := q3_ok (sc := .val (.scr (ns.map .int))) (s1 := s1) (s2 := s2) (s3 := s3) (h := h2)
  obtain ⟨s5', e5⟩ := q4_ok (sc := .val (.scr (ns.map .int))) (s1 := s1) (s2 := s2) (s3 := s3) (s4 := .val (.lst (L18 h2.nx))) (s5 := s5) (s6 := s6) (h := h3)
  have e6 := q5_ok (sc := .val (.scr (ns.map .int))) (s1 := s1) (s2 := s2) (s3 := s3) (s4 := .val (.lst (L18 h2.nx))) (s5 := s5') (s6 := s6) (h := h3)
  obtain ⟨h4, e7⟩ := q6_ok (sc := .val (.scr (ns.map .int))) (s1 := s1) (s2 := s2) (s3 := s3) (s4 := .val (.lst (L18 h2.nx))) (s5 := s5') (s6 := s6) (h := h3)
  refine ⟨h4, ?_⟩
  have eq0 : q0 [.val (.scr (ns.map .int)), .un, .un, .un, .un, .un, .un, .un, .un] hm0 = .nx [.val (.scr (ns.map .int)), s1, s2, .un, .un, .un, .un, .un, .un] h1 := by
    unfold q0
    rw [forS_at]
    have it : itAny (callE (callN 2 F__law_purses) [] (consA (varE 0) (consA (cE (.int 3)) nilA))) [.val (.scr (ns.map .int)), .un, .un, .un, .un, .un, .un, .un, .un] hm0 = .ok (rs.map fun r => .ref r) h0 := by
      simp [e0]
    rw [it, bindFl_ok, e1]
  have body : b_law [.val (.scr (ns.map .int)), .un, .un, .un, .un, .un, .un, .un, .un] hm0 = .rt (.bl true) h4 := by
    rw [law_eq, seqS_at, eq0, seqFl_nx, seqS_at, e2, seqFl_nx, seqS_at, e3, seqFl_nx, seqS_at, e4, seqFl_nx, seqS_at, e5, seqFl_nx, seqS_at, e6, seqFl_nx, e7]
  exact congrArg endFl body
end K83
end P_U20
section P_E83
set_option Elab.async false
set_option linter.all false
set_option maxRecDepth 100000
set_option maxHeartbeats 0
open PySem PySem.W PySem.Calls PyProof.Rows
theorem PySem.Challenge.cw_seenfromwithin_k83_whole_floors_drawn_holds : PySem.Challenge.rw_seenfromwithin_k83_whole_floors_drawn.Holds := by
  w_on; o_law
  refine HeadRun.head_imp (r := OpenLaw.row PySem.Challenge.rw_seenfromwithin_k83_whole_floors_drawn) (q := view (OpenLaw.row PySem.Challenge.rw_seenfromwithin_k83_whole_floors_drawn).prog [36]) (H := K83.hk) (ob := K83.ob) (M := 9000) (loose := K83.loose) (d := HeadRun.topDef (OpenLaw.row PySem.Challenge.rw_seenfromwithin_k83_whole_floors_drawn).prog 36) (kwd := []) K83.ob_eq K83.run
    (by kernel_rfl) (by kernel_rfl) (by kernel_rfl) (by rfl) (by first | assumption | decide +kernel) (by decide +kernel) ⟨rfl, rfl, rfl, rfl, rfl, by decide +kernel⟩ ?hw ?hc
  case hw => w_witness2
  case hc =>
    exact Mi.walk_mini (l := PySem.Challenge.rw_seenfromwithin_k83_whole_floors_drawn) (n := 63) (k := 15) (i := 28) (gi := 25) (x := "script") (y := "law") (dd := K83.d_law) rfl (by decide) (by kernel_rfl) ⟨rfl, by decide, by decide⟩ (by kernel_rfl) rfl rfl rfl rfl rfl (fun _ _ _ _ _ _ us hl => match us, hl with | [_], _ => rfl)
      (fun w K mg base M => K83.fb_law M) K83.plain
end P_E83
