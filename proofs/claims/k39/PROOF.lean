import PyProof.Rows.All
import Wide.All
import OpenK.AllK
import Wide.FinOn
import HandS.ForMost
import HandS.SetKeys
import KE.KDictOf
import PyProof.DictMoreH
import PyProof.DictUpdate
import KE.KUnpackStar
import HandS.Zip
import KE.KDictZip
import KE.GoesEnumKw
import HandS.SortKw
import HandS.ListItems
import HandS.TupAny
import HandS.Conv
import KE.KDictPairs
import HandS.Deep
import HandS.IsInst
import HandS.Steps
import HandS.DictComp
import HandS.Defaults
import HandS.MakeKwOnly
import HandS.TupSets
import KE.SortData
import HandS.HeadHook1
import HandS.HeadHook2
import HandS.HeadHook3
import KE.KStateDown
import Lean
import HandS.Base
import HandS.Call
import HandS.Ends
import HandS.More
import HandS.Words
import HandS.WordsExc
import HandS.Head0
import HandS.Head1
import HandS.Head2
import HandS.HeadEnd
import PySem.Challenge.RW_crossedwishes_k39_whole_nothing_refused
set_option Elab.async false
set_option linter.all false
set_option maxRecDepth 100000
set_option maxHeartbeats 0
section
/-! dict(d), d.update(e), d.setdefault(k, x) with tuple keys: what HandS lacks. -/
namespace Cw
open PySem PySem.Spec PyProof.Rows L2

/-- a written dict with text and int keys -/
def KDk (P : Program) (w : World) (K : PySem.W.Frag) (a : Addr) (kvs : List (Key × V)) : Prop :=
  (a == sysModules) = false ∧ ∃ (o : Obj) (es : Array DictEntry) (ep : Nat) (vs : List (Key × Value)), K.lookup a = some o ∧ o.ExactDict ∧ o.data = .dict es ep ∧
    PySem.KeysOf (mixKind P w) es ∧ Pairs (mixKind P w) es.toList vs ∧ (vs.map (·.1)).Nodup ∧ KV kvs vs
/-- a dict that may be read -/
def DkR (P : Program) (w : World) (K : PySem.W.Frag) (H : Hp) (a : Addr) (kvs : List (Key × V)) : Prop := Rd H a (.dK kvs) ∨ KDk P w K a kvs
section
variable {X : Cx} {pins : List (Addr × Obj)} {σ : L2.St} {H : Hp} {s : Shared} {a : Addr} {kvs : List (Key × V)}
theorem DkR.at (I : Inv X pins σ H s) (h : DkR X.prog X.w X.K H a kvs) : (a == sysModules) = false ∧ ∃ vs, KV kvs vs ∧ s.heap.DictOf (mixKind X.prog X.w) a vs := by
  rcases h with h | ⟨hd, o, es, ep, vs, hk, hx, hdt, k1, k2, k3, rel⟩
  · obtain ⟨_, hd, vs, rel, dd⟩ := dk_rd I.hok h
    exact ⟨hd, vs, rel, dd⟩
  · exact ⟨hd, vs, rel, o, es, ep, I.kIn a o hk, hx, hdt, k1, k2, k3⟩
/-- dict(d) -/
def rDictD (P : Program) (w : World) (K : PySem.W.Frag) : List V → Hp → VK → Prop := fun xs H Q => ∃ (a : Addr) (kvs : List (Key × V)), xs = [.ref a] ∧ DkR P w K H a kvs ∧ kvs.length ≤ 1000 ∧
  ∀ p, H p = none → Q (.ref p) (upd H p (.dK kvs))
theorem cr_dictD : CallR X (.type "dict") (rDictD X.prog X.w X.K) := by
  intro pins s σ H xs us Q I r h
  obtain ⟨a, kvs, rfl, hr, hl, q⟩ := h
  rw [Vals.ref1 r]
  obtain ⟨hd, vs, rel, dd⟩ := hr.at I
  have hz : kvs.length ≤ sizeLine := Nat.le_trans hl (by decide)
  refine kt_call_dict (knd := mixKind X.prog X.w) hd dd (by rw [← rel.length]; exact hz) fun h' dd' sb => ?_
  have big := I.big
  have e0 : (s.heap.objs.size == sysModules) = false := beq_eq_false_iff_ne.mpr (Nat.ne_of_gt big)
  refine ⟨.ref s.heap.objs.size, _, I.laid (t' := s.toks) (o := .dK kvs) (fun b o e => ?_) (Nat.le_refl _) (dk_new hz e0 rel dd'), rfl, q _ (I.hok.fresh (Nat.le_refl _))⟩
  have hb : b ≠ s.heap.objs.size := Nat.ne_of_lt (Heap.lt_size e)
  rw [sb.2 b hb]
  exact Heap.get?_push_of_some _ e
/-- d.update(e) -/
theorem d_update {b : Addr} {more : List (Key × V)} {A : Around} {E : Value → Shared → Prop} {Q : Value → Shared → Prop} (I : Inv X pins σ H s) (e : H a = some (.dK kvs)) (hb : DkR X.prog X.w X.K H b more) (hab : a ≠ b) (hz : kvs.length + more.length ≤ 1000)
    (h : ∀ s', Inv X pins σ (upd H a (.dK (mergeK kvs more))) s' → Q .none s') : wpAny (model X.prog X.w) A (call (.builtin "dict.update") [.ref a, .ref b]) Q E s := by
  obtain ⟨_, hd, vs, rel, dd⟩ := dk_of I.hok e
  obtain ⟨hdb, ws, rel2, dd2⟩ := hb.at I
  have hz1 : vs.length + ws.length ≤ sizeLine := by rw [← rel.length, ← rel2.length]; exact Nat.le_trans hz (by decide)
  refine call_meetsIn PySem.F.slot_dict_update dd.typeIs PySem.F.entry_dict_update (PySem.F.args_dict_update_2 _ _) (meets_dict_update (mixKind X.prog X.w) a b hab hdb) ⟨vs, ws, dd, dd2, hz1, fun h' d1 _ sb => h _ ?_⟩
  have he : ∃ q, h'.get? a = some q := let ⟨q, _, _, hq, _⟩ := d1; ⟨q, hq⟩
  have hl : (mergeK kvs more).length ≤ sizeLine := by
    have h1 := length_mergeK more kvs
    have h2 : (1000 : Nat) ≤ sizeLine := by decide
    omega
  exact d_write I (by rw [e]; exact True.intro) sb he (dk_new hl hd (rel2.merge rel) d1)
def tDUpd (P : Program) (w : World) (K : PySem.W.Frag) (td te : TE) : TE := fun σ H Q => td σ H fun x H1 => ∃ a, x = .ref a ∧ IsD H1 a ∧ te σ H1 fun y H2 => ∃ b kvs more, y = .ref b ∧ H2 a = some (.dK kvs) ∧ DkR P w K H2 b more ∧ a ≠ b ∧
  kvs.length + more.length ≤ 1000 ∧ Q .non (upd H2 a (.dK (mergeK kvs more)))
variable {o e f : Expr} {apos cpos : Pos} {td te ty tx : TE}
theorem pe_dupd (ho : PE X o td) (he : PE X e te) (m : M1 X o "update" apos e cpos) : PE X (.Call (.Attribute o "update" apos) [e] [] cpos) (tDUpd X.prog X.w X.K td te) := by
  refine ⟨fun pins s σ H Q I h => ?_⟩
  refine wpAny_Call_method m.base m.few m.line PySem.F.plainAttrs_dict PySem.F.slot_dict_update PySem.F.type_dict_update (thn (ho.run pins s σ H _ I h) fun u s1 ⟨x, H1, I1, rx, a, ex, d, q1⟩ => ?_)
  subst ex
  obtain rfl : u = Value.ref a := rx
  obtain ⟨t1, t2, _⟩ := isD_at I1 d
  refine ⟨t1, t2, ?_⟩
  rw [m.trees]
  refine Calls.callWith_builtin rfl (Calls.evalArgs_plain (Calls.spliced_cons (thn (he.run pins s1 σ H1 _ I1 q1) fun iv s2 ⟨y, H2, I2, ry, b, kvs, more, ey, ea, hb, hab, hz, q2⟩ => Calls.spliced_nil ?_)))
  subst ey
  obtain rfl : iv = Value.ref b := ry
  exact d_update I2 ea hb hab hz fun s3 I3 => ⟨.non, _, I3, rfl, q2⟩
/-- d.setdefault(k, x), k a tuple of texts and ints -/
theorem d_setdT {b : Addr} {kvs : List (List Key × V)} {k : List Key} {z : V} {r : Value} {A : Around} {E : Value → Shared → Prop} {Q : Value → Shared → Prop} (hu : A.units + 1 < cLine) (I : Inv X pins σ H s) (e : H a = some (.dT kvs)) (eb : H b = some (.tup (k.map kV))) (rz : RelV z r)
    (hl : kvs.length < sizeLine) (h1 : ∀ v, valV kvs k = some v → ∀ w' s', Inv X pins σ H s' → RelV v w' → Q w' s')
    (h2 : valV kvs k = none → ∀ s', Inv X pins σ (upd H a (.dT (putK kvs k z))) s' → Q r s') : wpAny (model X.prog X.w) A (call (.builtin "dict.setdefault") [.ref a, .ref b, r]) Q E s := by
  obtain ⟨_, hd, xs, rel, dd⟩ := dt_of I.hok e
  have hz : xs.length ≤ sizeLine := by rw [← Paired.length rel]; exact Nat.le_of_lt hl
  have rk := rel.val k
  refine call_setdefault_heap (hsz := hz) (tupleKind_room_in1 hu) (key_of I.hok eb) hd dd (fun p hp => ?_) fun hn h' dd' hs => ?_
  · rw [hp] at rk
    cases q : valV kvs k with
    | none => rw [q] at rk; exact (show False from rk).elim
    | some v =>
      rw [q] at rk
      exact h1 v q _ _ (I.tok _) rk
  · rw [hn] at rk
    have q : valV kvs k = none := by
      cases q : valV kvs k with
      | none => rfl
      | some v => rw [q] at rk; exact (show False from rk).elim
    refine h2 q _ ?_
    obtain ⟨o', es, ep, hq, x2, x3, x4, _, x5⟩ := dd'
    have hz2 : (putK kvs k z).length ≤ sizeLine := by have := length_putK kvs k z; omega
    refine d_write I (by rw [e]; exact True.intro) hs ⟨o', hq⟩ ⟨hz2, hd, _, (rel.put k eb rz).keeps fun c ys ec => ?_, o', es, ep, hq, x2, x3, x4, x5⟩
    rw [upd_ne (ne_of ec e (fun z => nomatch z))]
    exact ec
end
end Cw
end
section
/-! a, *b, c = t: a star among the targets of a tuple. -/
namespace Cw
open PySem PySem.Spec PyProof.Rows L2
section
variable {prog : Program} {w : World} {A : Around} {E : Value → Shared → Prop} {s : Shared}
/-- the items ahead of the star, a new list, the items behind -/
theorem star_items {t : Addr} {items : Array Value} {n i : Nat} {Q : List Value → Shared → Prop} (ht : IsTup s.heap t items) (hh : A.handled = none) (hi : i < n) (hn : n ≤ items.size + 1) (hz : items.size ≤ 16384)
    (h : ∀ (h' : Heap) (tk : Nat), (∀ b o, s.heap.get? b = some o → h'.get? b = some o) →
      Q (items.toList.take i ++ [.ref h'.objs.size] ++ (items.toList.drop i).drop (items.size + 1 - n)) { s with heap := h'.push { cls := .type "list", data := .seq ((items.toList.drop i).take (items.size + 1 - n)).toArray }, toks := tk }) :
    wpAny (model prog w) A (unpackItems (.ref t) n (some i)) Q E s := by
  have htl : t < s.heap.objs.size := ht.lt
  have hne : t ≠ s.heap.objs.size := Nat.ne_of_lt htl
  unfold unpackItems
  refine wpAny_bind ?_
  unfold notIterableAtAll
  refine wpAny_bind (wpAny_specialOf ht.typeIs slot_tuple_iter.lookup (wpAny_pure ?_))
  simp only [Bool.false_eq_true, if_false]
  refine wpAny_bind (wpAny_holding (iter_tuple ht ?_))
  refine wpAny_bind (wpAny_holding (draw_tuple hne i 0 _ _ ⟨_, Heap.get?_push_size _ rfl, rfl, rfl⟩ (ht.push _) (by omega) fun h1 it1 x1 => ?_))
  rw [Nat.zero_add] at it1
  have t1 : IsTup h1 t items := (ht.push _).extBut x1.extBut hne
  obtain ⟨oi, hoi, _⟩ := id it1
  have sz1 : s.heap.objs.size < h1.objs.size := Heap.lt_size hoi
  have hfl : (items.toList.take i).length = i := by rw [List.length_take, Array.length_toList]; omega
  rw [List.drop_zero, if_neg (by rw [hfl]; exact Nat.lt_irrefl i)]
  have hrl : (items.toList.drop i).length = items.size - i := by rw [List.length_drop, Array.length_toList]
  refine wpAny_bind (wpAny_holding (PySem.W.kun_collect (s := { s with heap := h1 }) (T := "tuple_iterator") (.inr (.inr (.inr rfl))) (Walks.tuple (A := A.in1) hh s.heap.objs.size t hne items) (fun j u st => st.1.typeIs) (k := i) (by omega) ⟨it1, t1⟩ sz1 (Nat.lt_trans htl sz1) (fun h2 tk k2 => ?_) (by rw [sizeLine_eq]; omega)))
  have e1 : (items.toList.drop i).length - (n - 1 - i) = items.size + 1 - n := by rw [hrl]; omega
  show wpAny _ _ (if (items.toList.drop i).length < n - 1 - i then _ else _) _ _ _
  rw [if_neg (by rw [hrl]; omega)]
  show wpAny _ _ (newList ((items.toList.drop i).take ((items.toList.drop i).length - (n - 1 - i))) >>= fun d => pure (items.toList.take i ++ [d] ++ (items.toList.drop i).drop ((items.toList.drop i).length - (n - 1 - i)))) _ _ _
  rw [e1]
  have hk : ∀ b o, s.heap.get? b = some o → h2.get? b = some o := fun b o e => by
    have hb : b ≠ s.heap.objs.size := Nat.ne_of_lt (Heap.lt_size e)
    exact k2 b o hb (x1.extBut b o hb (Heap.get?_push_of_some _ e))
  exact wpAny_bind (wpAny_newList (wpAny_pure (h h2 tk hk)) (by rw [List.length_take, hrl, sizeLine_eq]; omega))
end
section
variable {X : Cx}
def gStar (K : PySem.W.Frag) (n i : Nat) (t : TGs) : TG := fun v σ H Q => ∃ a xs, v = .ref a ∧ SqT K H a xs ∧ n ≤ xs.length + 1 ∧ xs.length ≤ 1000 ∧
  ∀ p, H p = none → t (xs.take i ++ [.ref p] ++ (xs.drop i).drop (xs.length + 1 - n)) σ (upd H p (.lst ((xs.drop i).take (xs.length + 1 - n)))) Q
theorem pgs_star {e : Expr} {es : List Expr} {sp : Pos} {t : TG} {u : TGs} (h1 : PG X e t) (h2 : PGs X es u) : PGs X (.Starred e sp :: es) (gCons t u) := by
  refine ⟨fun pins s σ H vs us Q I r h => ?_⟩
  obtain ⟨v, vr, e1, h⟩ := h
  subst e1
  cases r with
  | cons r rr =>
    show wpAny _ _ (assignInOrder (assign e X.env :: (assignEach es X.env).map (·.2)) _) _ _ s
    refine assignInOrder_cons (thn (h1.run pins s σ H _ _ _ I r h) fun _ s1 ⟨σ1, H1, I1, q1⟩ => ?_)
    exact h2.run pins s1 σ1 H1 _ _ Q I1 rr q1
theorem pg_starT {es : List Expr} {k : Nat} {pos : Pos} {t : TGs} {n i : Nat} (hc : X.calm = true) (h : PGs X es t) (hn : (assignEach es X.env).length = n := by rfl) (hst : (assignEach es X.env).findIdx? (·.1) = some i := by rfl) (hin : i < n := by decide) :
    PG X (.Tuple es k pos) (gStar X.K n i t) := by
  refine ⟨fun pins s σ H v u Q I r hw => ?_⟩
  obtain ⟨a, xs, e1, hq, hl, hz, hw⟩ := hw
  subst e1
  cases r
  obtain ⟨its, rv, ht, _⟩ := I.tuple hq
  have hlen := rv.length
  rw [assign_Tuple]
  refine wpAny_bind (wpAny_standAt ?_)
  unfold unpack
  rw [hn, hst]
  refine wpAny_bind (wpAny_holding (star_items (items := its.toArray) ht (I.ok.hd hc) hin (by rw [List.size_toArray]; omega) (by rw [List.size_toArray]; omega) fun h' tk hk => ?_))
  have I0 : Inv X pins σ H { s with heap := h', toks := tk } := I.kept hk
  have hfree : H h'.objs.size = none := I0.hok.fresh (Nat.le_refl _)
  have hle : ((xs.drop i).take (xs.length + 1 - n)).length ≤ sizeLine := by
    rw [List.length_take, List.length_drop, sizeLine_eq]; omega
  have e2 : its.toArray.size = xs.length := by rw [List.size_toArray]; exact hlen.symm
  rw [e2]
  have I1 := I0.laid (a := h'.objs.size) (o := .lst ((xs.drop i).take (xs.length + 1 - n))) (h' := h'.push { cls := .type "list", data := .seq ((its.drop i).take (xs.length + 1 - n)).toArray }) (t' := tk) (fun b o e => Heap.get?_push_of_some _ e) (Nat.le_refl _)
    ⟨hle, _, 0, (rv.drop i).take (xs.length + 1 - n), Heap.get?_push_size _ rfl⟩
  have one : Vals [V.ref h'.objs.size] [Value.ref h'.objs.size] := .cons rfl .nil
  exact h.run pins _ σ _ _ _ Q I1 (((rv.take i).append one).append ((rv.drop i).drop (xs.length + 1 - n))) (hw _ hfree)
end
end Cw
end
section
/-! zip over two sequences (a list or a tuple each), strict or not; list(zip(..)). -/
namespace Cw
open PySem PySem.Spec PyProof.Rows L2
/-- an iterator over a tuple (true) or a list, at turn k -/
def SIt (t : Bool) (h : Heap) (it l : Addr) (k : Nat) : Prop := match t with | true => h.IsTupleIter it l k | false => h.IsListIter it l k
def SSq (t : Bool) (h : Heap) (l : Addr) (xs : Array Value) : Prop := match t with | true => h.IsTuple l xs | false => h.IsList l xs
section
variable {h h' : Heap} {t : Bool} {it l : Addr} {k : Nat} {xs : Array Value}
theorem SIt.at (x : SIt t h it l k) (e : ∀ o, h.get? it = some o → h'.get? it = some o) : SIt t h' it l k := by
  cases t
  · exact Heap.IsListIter.at x e
  · exact Heap.IsTupleIter.at x e
theorem SIt.ob (x : SIt t h it l k) : ∃ o, h.get? it = some o ∧ ∀ v, o.data ≠ .cell v := by
  cases t
  · obtain ⟨o, e, _, d⟩ := x
    exact ⟨o, e, fun v q => by rw [d] at q; cases q⟩
  · obtain ⟨o, e, _, d⟩ := x
    exact ⟨o, e, fun v q => by rw [d] at q; cases q⟩
theorem SSq.at (x : SSq t h l xs) (e : ∀ o, h.get? l = some o → h'.get? l = some o) : SSq t h' l xs := by
  cases t
  · exact Heap.IsList.at x e
  · exact Heap.IsTuple.at x e
theorem SSq.lt (x : SSq t h l xs) : l < h.objs.size := by
  cases t
  · obtain ⟨o, e, _⟩ := x; exact Heap.lt_size e
  · obtain ⟨o, e, _⟩ := x; exact Heap.lt_size e
end
abbrev ZRec (h : Heap) (z TI TO : Addr) (sf ff : Bool) (f0 : Value) : Prop := h.get? z = some { cls := .type "zip", dict := none, data := .fields #[f0, .bool ff, .bool sf, .ref TI, .ref TO], slots := #[] }
section
variable {prog : Program} {w : World} {A : Around} {E : Value → Shared → Prop} {s : Shared} {z TI TO i1 i2 a b : Addr} {k : Nat} {t1 t2 sf ff : Bool} {xs ys : Array Value} {x y u v : Value}
theorem src_item {t : Bool} {it l : Addr} {Q : Value → Shared → Prop} (hi : SIt t s.heap it l k) (hl : SSq t s.heap l xs) (hx : xs[k]? = some x) (hQ : ∀ h', SIt t h' it l (k + 1) → Heap.SameBut it s.heap h' → Q x { s with heap := h' }) :
    wpAny (model prog w) A (Builtin.SmallTypes.nextOf (.ref it)) Q E s := by
  cases t
  · exact wpAny_nextOf_list_item hi hl hx hQ
  · exact RZ.nextOf_tuple_item hi hl hx hQ
theorem src_end {t : Bool} {it l : Addr} {Q : Value → Shared → Prop} (hh : A.handled = none) (hi : SIt t s.heap it l k) (hl : SSq t s.heap l xs) (hx : xs[k]? = none)
    (hE : ∀ h' e, Heap.ExtBut it s.heap h' → (∃ o, h'.get? e = some o ∧ o.cls = .type "StopIteration") → E (.ref e) { s with heap := h' }) : wpAny (model prog w) A (Builtin.SmallTypes.nextOf (.ref it)) Q E s := by
  cases t
  · exact wpAny_nextOf_list_end hh hi hl hx hE
  · exact RZ.nextOf_tuple_end hh hi hl hx hE
/-- one draw -/
def zdr (sf : Bool) (it : Value) : Sem (Option Value) := if sf then Builtin.SmallTypes.nextOrEnd it else (do return some (← Builtin.SmallTypes.nextOf it))
theorem zdr_item {t : Bool} {it l : Addr} {Q : Option Value → Shared → Prop} (hi : SIt t s.heap it l k) (hl : SSq t s.heap l xs) (hx : xs[k]? = some x) (hQ : ∀ h', SIt t h' it l (k + 1) → Heap.SameBut it s.heap h' → Q (some x) { s with heap := h' }) :
    wpAny (model prog w) A (zdr sf (.ref it)) Q E s := by
  cases sf
  · exact wpAny_bind (src_item hi hl hx fun h' a b => wpAny_pure (hQ h' a b))
  · show wpAny _ _ (Builtin.SmallTypes.nextOrEnd (.ref it)) Q E s
    unfold Builtin.SmallTypes.nextOrEnd
    exact wpAny_bind (wpAny_attempt (src_item hi hl hx fun h' a b => wpAny_pure (hQ h' a b)))
/-- its end, where the zip is strict -/
theorem zdr_endS {t : Bool} {it l : Addr} {Q : Option Value → Shared → Prop} (hh : A.handled = none) (hi : SIt t s.heap it l k) (hl : SSq t s.heap l xs) (hx : xs[k]? = none) (hQ : ∀ h', Heap.ExtBut it s.heap h' → Q none { s with heap := h' }) :
    wpAny (model prog w) A (zdr true (.ref it)) Q E s := by
  show wpAny _ _ (Builtin.SmallTypes.nextOrEnd (.ref it)) Q E s
  unfold Builtin.SmallTypes.nextOrEnd
  refine wpAny_bind (wpAny_attempt (src_end hh hi hl hx fun h' e hk he => ?_))
  obtain ⟨o, ho, hc⟩ := he
  refine wpAny_bind (wpAny_isInstance (T := "StopIteration") (b := true) ⟨o, ho, hc⟩ isSubtype_stop ?_)
  exact wpAny_pure (hQ _ hk)
theorem zdr_endN {t : Bool} {it l : Addr} {Q : Option Value → Shared → Prop} (hh : A.handled = none) (hi : SIt t s.heap it l k) (hl : SSq t s.heap l xs) (hx : xs[k]? = none)
    (hE : ∀ h' e, Heap.ExtBut it s.heap h' → (∃ o, h'.get? e = some o ∧ o.cls = .type "StopIteration") → E (.ref e) { s with heap := h' }) :
    wpAny (model prog w) A (zdr false (.ref it)) Q E s := wpAny_bind (src_end hh hi hl hx hE)
theorem stop_raise {α : Type} {Q : α → Shared → Prop} (hh : A.handled = none) (hE : ∀ h' e, (∀ c o, s.heap.get? c = some o → h'.get? c = some o) → (∃ o, h'.get? e = some o ∧ o.cls = .type "StopIteration") → E (.ref e) { s with heap := h' }) :
    wpAny (model prog w) A (Builtin.SmallTypes.stopIteration : Sem α) Q E s := by
  unfold Builtin.SmallTypes.stopIteration
  refine wpAny_bind ?_
  simp only [newExc, newTuple]
  refine wpAny_bind (wpAny_newObj_type ?_ (by size_fits))
  refine wpAny_bind (m := firstArgMember _ _) (wpAny_of_eq (a := Value.none) (by first | rfl | (simp only [firstArgMember]; rfl)) ?_)
  refine wpAny_newObj_type ?_ (by size_fits)
  simp only [raiseNew]
  refine wpAny_bind (wpAny_handled ?_)
  rw [hh]
  refine wpAny_bind (wpAny_pure (wpAny_throw ?_))
  exact hE _ _ (fun c o e => Heap.get?_push_of_some _ (Heap.get?_push_of_some _ e)) ⟨_, Heap.get?_push_size _ rfl, rfl⟩

theorem sfb : (Value.bool sf == Value.bool true) = sf := by cases sf <;> rfl
theorem up_pair {T : Addr} {p q x : Value} {j : Nat} {Q : Unit → Shared → Prop} (hT : IsPair s.heap T p q)
    (h : ∀ h', h'.get? T = some { cls := .type "tuple", data := .seq ((#[p, q] : Array Value).setIfInBounds j x) } → Heap.SameBut T s.heap h' → Q () { s with heap := h' }) :
    wpAny (model prog w) A (updateSeq T (·.setIfInBounds j x)) Q E s := wpAny_updateSeq_pair hT h
/-- next: the tuple that it owns is free -/
theorem z_free {Q : Value → Shared → Prop} (D : ZipApart z TI TO i1 i2 a b) (hz : ZRec s.heap z TI TO sf ff .none) (hTI : IsPair s.heap TI (.ref i1) (.ref i2)) (hTO : IsPair s.heap TO u v)
    (h1 : SIt t1 s.heap i1 a k) (h2 : SIt t2 s.heap i2 b k) (q1 : SSq t1 s.heap a xs) (q2 : SSq t2 s.heap b ys) (hx : xs[k]? = some x) (hy : ys[k]? = some y)
    (hQ : ∀ h', ZRec h' z TI TO sf false (rawInt s.heap.objs.size) → IsPair h' TO x y → SIt t1 h' i1 a (k + 1) → SIt t2 h' i2 b (k + 1) → IsPair h' s.heap.objs.size x y → h'.objs.size = s.heap.objs.size + 1 →
      (∀ c o, c ≠ z → c ≠ TO → c ≠ i1 → c ≠ i2 → s.heap.get? c = some o → h'.get? c = some o) → Q (.ref s.heap.objs.size) { s with heap := h' }) :
    wpAny (model prog w) A (Builtin.«zip.__next__» ⟨[.ref z], []⟩) (fun fin s' => ∃ v, fin = .done (.ret v) ∧ Q v s') E s := by
  show wpAny _ _ (field (.ref z) 2 >>= _) _ _ _
  refine wpAny_bind (wpAny_field hz rfl (x := .bool sf) rfl ?_)
  rw [sfb]
  show wpAny _ _ (field (.ref z) 3 >>= _) _ _ _
  refine wpAny_bind (wpAny_field hz rfl (x := .ref TI) rfl ?_)
  refine wpAny_bind (wpAny_seqItems hTI rfl ?_)
  show wpAny _ _ (Builtin.SmallTypes.ownedTupleIsFree (.ref z) >>= _) _ _ _
  refine wpAny_bind ?_
  unfold Builtin.SmallTypes.ownedTupleIsFree
  refine wpAny_bind (wpAny_field hz rfl (x := .none) rfl (wpAny_pure ?_))
  simp only [if_true]
  refine wpAny_bind (wpAny_rule ?_)
  refine wpAny_bind (wpAny_field hz rfl (x := .ref TO) rfl ?_)
  refine wpAny_bind (wpAny_setField_rec hz (by simp) fun g1 z1 s1 => ?_)
  replace z1 : ZRec g1 z TI TO sf ff .ellipsis := z1
  refine wpAny_bind ?_
  simp only [List.zipIdx_cons, List.zipIdx_nil, List.forIn_cons, List.forIn_nil]
  refine wpAny_bind (wpAny_bind (wpAny_onRaise ?_))
  show wpAny _ _ (zdr sf (.ref i1)) _ _ _
  refine zdr_item (h1.at fun o e => s1.extBut _ _ D.i1z e) (q1.at fun o e => s1.extBut _ _ D.l1z e) hx fun g2 j1 s2 => ?_
  have T2 : IsPair g2 TO u v := s2.extBut _ _ D.TOi1 (s1.extBut _ _ D.TOz hTO)
  refine wpAny_bind (wpAny_seqItems T2 rfl ?_)
  refine wpAny_bind (up_pair T2 fun g3 T3 s3 => ?_)
  refine wpAny_bind (wpAny_letGo (wpAny_pure ?_))
  refine wpAny_bind (wpAny_bind (wpAny_onRaise ?_))
  show wpAny _ _ (zdr sf (.ref i2)) _ _ _
  have o3 : ∀ c o, c ≠ z → c ≠ i1 → c ≠ TO → s.heap.get? c = some o → g3.get? c = some o := fun c o n1 n2 n3 e => s3.extBut _ _ n3 (s2.extBut _ _ n2 (s1.extBut _ _ n1 e))
  refine zdr_item (h2.at fun o e => o3 _ _ D.i2z D.i12.symm D.TOi2.symm e) (q2.at fun o e => o3 _ _ D.l2z D.l2i1 D.l2TO e) hy fun g4 j2 s4 => ?_
  have T4 : g4.get? TO = some { cls := .type "tuple", data := .seq #[x, v] } := s4.extBut _ _ D.TOi2 T3
  refine wpAny_bind (wpAny_seqItems T4 rfl ?_)
  refine wpAny_bind (up_pair T4 fun g5 T5 s5 => ?_)
  refine wpAny_bind (wpAny_letGo (wpAny_pure (wpAny_pure ?_)))
  replace T5 : IsPair g5 TO x y := T5
  refine wpAny_bind (wpAny_seqItems T5 rfl ?_)
  refine wpAny_bind (wpAny_newTuple ?_)
  have z5 : ZRec g5 z TI TO sf ff .ellipsis := s5.extBut _ _ D.TOz.symm (s4.extBut _ _ D.i2z.symm (s3.extBut _ _ D.TOz.symm (s2.extBut _ _ D.i1z.symm z1)))
  have sz5 : g5.objs.size = s.heap.objs.size := by rw [s5.1, s4.1, s3.1, s2.1, s1.1]
  have o5 : ∀ c o, c ≠ z → c ≠ TO → c ≠ i1 → c ≠ i2 → s.heap.get? c = some o → g5.get? c = some o := fun c o n1 n2 n3 n4 e => s5.extBut _ _ n2 (s4.extBut _ _ n4 (o3 c o n1 n3 n2 e))
  have zl : z < g5.objs.size := Heap.lt_size z5
  show wpAny _ _ (Builtin.SmallTypes.ownedTupleHandOut (.ref z) (.ref g5.objs.size) >>= _) _ _ _
  refine wpAny_bind ?_
  unfold Builtin.SmallTypes.ownedTupleHandOut
  have z6 : ZRec (g5.push { cls := .type "tuple", data := .seq #[x, y] }) z TI TO sf ff .ellipsis := Heap.get?_push_of_some _ z5
  refine wpAny_bind (wpAny_setField_rec z6 (by simp) fun g7 z7 s7 => ?_)
  replace z7 : ZRec g7 z TI TO sf ff (rawInt g5.objs.size) := z7
  refine wpAny_setField_rec z7 (by simp) fun g8 z8 s8 => ?_
  replace z8 : ZRec g8 z TI TO sf false (rawInt g5.objs.size) := z8
  have up : ∀ c o, c ≠ z → g5.get? c = some o → g8.get? c = some o := fun c o n e => s8.extBut _ _ n (s7.extBut _ _ n (Heap.get?_push_of_some _ e))
  have T8 : IsPair g8 g5.objs.size x y := s8.extBut _ _ (Nat.ne_of_gt zl) (s7.extBut _ _ (Nat.ne_of_gt zl) (Heap.get?_push_size _ rfl))
  have sz8 : g8.objs.size = g5.objs.size + 1 := by rw [s8.1, s7.1, Heap.size_push]
  have f := hQ g8
  rw [← sz5] at f
  refine wpAny_pure ⟨_, rfl, f z8 (up _ _ D.TOz T5) ((j1.at fun o e => ?_)) ((j2.at fun o e => ?_)) T8 sz8 fun c o n1 n2 n3 n4 e => up c o n1 (o5 c o n1 n2 n3 n4 e)⟩
  · exact up _ _ D.i1z (s5.extBut _ _ D.TOi1.symm (s4.extBut _ _ D.i12 (s3.extBut _ _ D.TOi1.symm e)))
  · exact up _ _ D.i2z (s5.extBut _ _ D.TOi2.symm e)

theorem z_alive {T : Addr} {oT : Obj} {Q : Bool → Shared → Prop} (hz : ZRec s.heap z TI TO sf ff (rawInt T)) (hT : s.heap.get? T = some oT)
    (h : ∀ h', ZRec h' z TI TO sf true (rawInt T) → Heap.SameBut z s.heap h' → Q false { s with heap := h' }) : wpAny (model prog w) A (Builtin.SmallTypes.ownedTupleIsFree (.ref z)) Q E s := by
  unfold Builtin.SmallTypes.ownedTupleIsFree
  refine wpAny_bind (wpAny_field hz rfl (x := rawInt T) rfl ?_)
  show wpAny _ _ (loadIfAlive ((T : Int).toNat) >>= _) _ _ _
  rw [Int.toNat_natCast]
  refine wpAny_bind (PySem.W.kdx_alive hT ?_)
  simp only [Option.isNone_some, Bool.false_eq_true, if_false]
  refine wpAny_bind (wpAny_field hz rfl (x := .bool ff) rfl ?_)
  cases ff
  · rw [if_pos (show (Value.bool false != Value.bool true) = true from rfl)]
    exact wpAny_bind (wpAny_setField_rec hz (by simp) fun h₁ hz₁ hs₁ => wpAny_pure (h h₁ hz₁ hs₁))
  · rw [if_neg (show ¬ ((Value.bool true != Value.bool true) = true) from Bool.false_ne_true)]
    exact wpAny_pure (h s.heap hz (Heap.SameBut.refl _ _))
/-- next: the tuple that it gave out first is still there -/
theorem z_held {T : Addr} {oT : Obj} {Q : Value → Shared → Prop} (D : ZipApart z TI TO i1 i2 a b) (hz : ZRec s.heap z TI TO sf ff (rawInt T)) (hT : s.heap.get? T = some oT) (hTI : IsPair s.heap TI (.ref i1) (.ref i2))
    (h1 : SIt t1 s.heap i1 a k) (h2 : SIt t2 s.heap i2 b k) (q1 : SSq t1 s.heap a xs) (q2 : SSq t2 s.heap b ys) (hx : xs[k]? = some x) (hy : ys[k]? = some y)
    (hQ : ∀ h', ZRec h' z TI TO sf true (rawInt T) → SIt t1 h' i1 a (k + 1) → SIt t2 h' i2 b (k + 1) → IsPair h' s.heap.objs.size x y → h'.objs.size = s.heap.objs.size + 1 →
      (∀ c o, c ≠ z → c ≠ i1 → c ≠ i2 → s.heap.get? c = some o → h'.get? c = some o) → Q (.ref s.heap.objs.size) { s with heap := h' }) :
    wpAny (model prog w) A (Builtin.«zip.__next__» ⟨[.ref z], []⟩) (fun fin s' => ∃ v, fin = .done (.ret v) ∧ Q v s') E s := by
  show wpAny _ _ (field (.ref z) 2 >>= _) _ _ _
  refine wpAny_bind (wpAny_field hz rfl (x := .bool sf) rfl ?_)
  rw [sfb]
  show wpAny _ _ (field (.ref z) 3 >>= _) _ _ _
  refine wpAny_bind (wpAny_field hz rfl (x := .ref TI) rfl ?_)
  refine wpAny_bind (wpAny_seqItems hTI rfl ?_)
  show wpAny _ _ (Builtin.SmallTypes.ownedTupleIsFree (.ref z) >>= _) _ _ _
  refine wpAny_bind (z_alive hz hT fun g1 z1 s1 => ?_)
  simp only [Bool.false_eq_true, if_false]
  refine wpAny_bind ?_
  rw [← Array.forIn_toList]
  simp only [List.forIn_cons, List.forIn_nil]
  refine wpAny_bind (wpAny_bind (wpAny_holding ?_))
  show wpAny _ _ (zdr sf (.ref i1)) _ _ _
  refine zdr_item (h1.at fun o e => s1.extBut _ _ D.i1z e) (q1.at fun o e => s1.extBut _ _ D.l1z e) hx fun g2 j1 s2 => ?_
  refine wpAny_pure (wpAny_bind (wpAny_bind (wpAny_holding ?_)))
  show wpAny _ _ (zdr sf (.ref i2)) _ _ _
  have o2 : ∀ c o, c ≠ z → c ≠ i1 → s.heap.get? c = some o → g2.get? c = some o := fun c o n1 n2 e => s2.extBut _ _ n2 (s1.extBut _ _ n1 e)
  refine zdr_item (h2.at fun o e => o2 _ _ D.i2z D.i12.symm e) (q2.at fun o e => o2 _ _ D.l2z D.l2i1 e) hy fun g4 j2 s4 => ?_
  refine wpAny_pure (wpAny_pure ?_)
  have z4 : ZRec g4 z TI TO sf true (rawInt T) := s4.extBut _ _ D.i2z.symm (s2.extBut _ _ D.i1z.symm z1)
  have sz4 : g4.objs.size = s.heap.objs.size := by rw [s4.1, s2.1, s1.1]
  show wpAny _ _ (newTuple [x, y] >>= _) _ _ _
  refine wpAny_bind (wpAny_newTuple ?_)
  have up : ∀ c o, g4.get? c = some o → (g4.push { cls := .type "tuple", data := .seq #[x, y] }).get? c = some o := fun c o e => Heap.get?_push_of_some _ e
  have T8 : IsPair (g4.push { cls := .type "tuple", data := .seq #[x, y] }) g4.objs.size x y := Heap.get?_push_size _ rfl
  have f := hQ (g4.push { cls := .type "tuple", data := .seq #[x, y] })
  rw [← sz4] at f
  exact wpAny_pure ⟨_, rfl, f (up _ _ z4) (j1.at fun o e => up _ _ (s4.extBut _ _ D.i12 e)) (j2.at fun o e => up _ _ e) T8 (Heap.size_push ..) fun c o n1 n2 n3 e => up _ _ (s4.extBut _ _ n3 (o2 c o n1 n2 e))⟩
end
section
variable {prog : Program} {w : World} {A : Around} {E : Value → Shared → Prop} {s : Shared} {z TI TO i1 i2 a b : Addr} {k : Nat} {t1 t2 sf ff : Bool} {xs ys : Array Value} {x y u v : Value}
/-- the strict end: both are through -/
theorem z_stop {Q : Fin → Shared → Prop} (hh : A.handled = none) (h2 : SIt t2 s.heap i2 b k) (q2 : SSq t2 s.heap b ys) (hy : ys[k]? = none)
    (hE : ∀ h' e, (∀ c o, c ≠ i2 → s.heap.get? c = some o → h'.get? c = some o) → (∃ o, h'.get? e = some o ∧ o.cls = .type "StopIteration") → E (.ref e) { s with heap := h' }) :
    wpAny (model prog w) A (do
      for (it, j) in [(Value.ref i2, 1)] do
        if (← zdr true it).isSome then
          rule "zip.__next__.longer"; raiseError "ValueError" s!"zip() argument {j + 1} is longer than {if j == 1 then "argument 1" else s!"arguments 1-{j}"}"
      rule "zip.__next__.all-ended"; (Builtin.SmallTypes.stopIteration : Sem Fin)) Q E s := by
  refine wpAny_bind ?_
  simp only [List.forIn_cons, List.forIn_nil]
  refine wpAny_bind (wpAny_bind (zdr_endS hh h2 q2 hy fun h' hk => ?_))
  simp only [Option.isSome_none, Bool.false_eq_true, if_false]
  refine wpAny_pure (wpAny_pure ?_)
  refine wpAny_bind (wpAny_rule (stop_raise hh fun h2' e hk2 he => hE h2' e (fun c o n e2 => hk2 c o (hk c o n e2)) he))
theorem z_endS {Q : Fin → Shared → Prop} (hh : A.handled = none) (D : ZipApart z TI TO i1 i2 a b) (hz : ZRec s.heap z TI TO true ff .none) (hTI : IsPair s.heap TI (.ref i1) (.ref i2)) (hTO : IsPair s.heap TO u v)
    (h1 : SIt t1 s.heap i1 a k) (h2 : SIt t2 s.heap i2 b k) (q1 : SSq t1 s.heap a xs) (q2 : SSq t2 s.heap b ys) (hx : xs[k]? = none) (hy : ys[k]? = none)
    (hE : ∀ h' e, (∀ c o, c ≠ z → c ≠ TO → c ≠ i1 → c ≠ i2 → s.heap.get? c = some o → h'.get? c = some o) → (∃ o, h'.get? e = some o ∧ o.cls = .type "StopIteration") → E (.ref e) { s with heap := h' }) :
    wpAny (model prog w) A (Builtin.«zip.__next__» ⟨[.ref z], []⟩) Q E s := by
  show wpAny _ _ (field (.ref z) 2 >>= _) _ _ _
  refine wpAny_bind (wpAny_field hz rfl (x := .bool true) rfl ?_)
  show wpAny _ _ (field (.ref z) 3 >>= _) _ _ _
  refine wpAny_bind (wpAny_field hz rfl (x := .ref TI) rfl ?_)
  refine wpAny_bind (wpAny_seqItems hTI rfl ?_)
  show wpAny _ _ (Builtin.SmallTypes.ownedTupleIsFree (.ref z) >>= _) _ _ _
  refine wpAny_bind ?_
  unfold Builtin.SmallTypes.ownedTupleIsFree
  refine wpAny_bind (wpAny_field hz rfl (x := .none) rfl (wpAny_pure ?_))
  simp only [if_true]
  refine wpAny_bind (wpAny_rule ?_)
  refine wpAny_bind (wpAny_field hz rfl (x := .ref TO) rfl ?_)
  refine wpAny_bind (wpAny_setField_rec hz (by simp) fun g1 z1 s1 => ?_)
  replace z1 : ZRec g1 z TI TO true ff .ellipsis := z1
  refine wpAny_bind ?_
  simp only [List.zipIdx_cons, List.zipIdx_nil, List.forIn_cons, List.forIn_nil]
  refine wpAny_bind (wpAny_bind (wpAny_onRaise ?_))
  show wpAny _ _ (zdr true (.ref i1)) _ _ _
  refine zdr_endS hh (h1.at fun o e => s1.extBut _ _ D.i1z e) (q1.at fun o e => s1.extBut _ _ D.l1z e) hx fun g2 k2 => ?_
  have z2 : ZRec g2 z TI TO true ff .ellipsis := k2 _ _ D.i1z.symm z1
  refine wpAny_bind (wpAny_setField_rec z2 (by simp) fun g3 z3 s3 => ?_)
  have o3 : ∀ c o, c ≠ z → c ≠ i1 → s.heap.get? c = some o → g3.get? c = some o := fun c o n1 n2 e => s3.extBut _ _ n1 (k2 _ _ n2 (s1.extBut _ _ n1 e))
  refine wpAny_bind (z_stop (s := { s with heap := g3 }) hh (h2.at fun o e => o3 _ _ D.i2z D.i12.symm e) (q2.at fun o e => o3 _ _ D.l2z D.l2i1 e) hy fun h' e hk he => ?_)
  exact hE h' e (fun c o n1 n2 n3 n4 q => hk c o n4 (o3 c o n1 n3 q)) he
theorem z_endN {Q : Fin → Shared → Prop} (hh : A.handled = none) (D : ZipApart z TI TO i1 i2 a b) (hz : ZRec s.heap z TI TO false ff .none) (hTI : IsPair s.heap TI (.ref i1) (.ref i2)) (hTO : IsPair s.heap TO u v)
    (h1 : SIt t1 s.heap i1 a k) (q1 : SSq t1 s.heap a xs) (hx : xs[k]? = none)
    (hE : ∀ h' e, (∀ c o, c ≠ z → c ≠ TO → c ≠ i1 → c ≠ i2 → s.heap.get? c = some o → h'.get? c = some o) → (∃ o, h'.get? e = some o ∧ o.cls = .type "StopIteration") → E (.ref e) { s with heap := h' }) :
    wpAny (model prog w) A (Builtin.«zip.__next__» ⟨[.ref z], []⟩) Q E s := by
  show wpAny _ _ (field (.ref z) 2 >>= _) _ _ _
  refine wpAny_bind (wpAny_field hz rfl (x := .bool false) rfl ?_)
  show wpAny _ _ (field (.ref z) 3 >>= _) _ _ _
  refine wpAny_bind (wpAny_field hz rfl (x := .ref TI) rfl ?_)
  refine wpAny_bind (wpAny_seqItems hTI rfl ?_)
  show wpAny _ _ (Builtin.SmallTypes.ownedTupleIsFree (.ref z) >>= _) _ _ _
  refine wpAny_bind ?_
  unfold Builtin.SmallTypes.ownedTupleIsFree
  refine wpAny_bind (wpAny_field hz rfl (x := .none) rfl (wpAny_pure ?_))
  simp only [if_true]
  refine wpAny_bind (wpAny_rule ?_)
  refine wpAny_bind (wpAny_field hz rfl (x := .ref TO) rfl ?_)
  refine wpAny_bind (wpAny_setField_rec hz (by simp) fun g1 z1 s1 => ?_)
  replace z1 : ZRec g1 z TI TO false ff .ellipsis := z1
  refine wpAny_bind ?_
  simp only [List.zipIdx_cons, List.zipIdx_nil, List.forIn_cons, List.forIn_nil]
  refine wpAny_bind (wpAny_bind (wpAny_onRaise ?_))
  show wpAny _ _ (zdr false (.ref i1)) _ _ _
  refine zdr_endN hh (h1.at fun o e => s1.extBut _ _ D.i1z e) (q1.at fun o e => s1.extBut _ _ D.l1z e) hx fun g2 e k2 he => ?_
  obtain ⟨oe, hoe, hce⟩ := he
  have z2 : ZRec g2 z TI TO false ff .ellipsis := k2 _ _ D.i1z.symm z1
  have hez : e ≠ z := fun x => by subst x; rw [z2] at hoe; cases hoe; simp at hce
  exact wpAny_setField_rec z2 (by simp) fun g3 _ s3 => hE g3 e (fun c o n1 n2 n3 n4 x => s3.extBut _ _ n1 (k2 _ _ n3 (s1.extBut _ _ n1 x))) ⟨oe, s3.extBut _ _ hez hoe, hce⟩
/-- the second is the shorter one -/
theorem z_endM {Q : Fin → Shared → Prop} (hh : A.handled = none) (D : ZipApart z TI TO i1 i2 a b) (hz : ZRec s.heap z TI TO false ff .none) (hTI : IsPair s.heap TI (.ref i1) (.ref i2)) (hTO : IsPair s.heap TO u v)
    (h1 : SIt t1 s.heap i1 a k) (h2 : SIt t2 s.heap i2 b k) (q1 : SSq t1 s.heap a xs) (q2 : SSq t2 s.heap b ys) (hx : xs[k]? = some x) (hy : ys[k]? = none)
    (hE : ∀ h' e, (∀ c o, c ≠ z → c ≠ TO → c ≠ i1 → c ≠ i2 → s.heap.get? c = some o → h'.get? c = some o) → (∃ o, h'.get? e = some o ∧ o.cls = .type "StopIteration") → E (.ref e) { s with heap := h' }) :
    wpAny (model prog w) A (Builtin.«zip.__next__» ⟨[.ref z], []⟩) Q E s := by
  show wpAny _ _ (field (.ref z) 2 >>= _) _ _ _
  refine wpAny_bind (wpAny_field hz rfl (x := .bool false) rfl ?_)
  show wpAny _ _ (field (.ref z) 3 >>= _) _ _ _
  refine wpAny_bind (wpAny_field hz rfl (x := .ref TI) rfl ?_)
  refine wpAny_bind (wpAny_seqItems hTI rfl ?_)
  show wpAny _ _ (Builtin.SmallTypes.ownedTupleIsFree (.ref z) >>= _) _ _ _
  refine wpAny_bind ?_
  unfold Builtin.SmallTypes.ownedTupleIsFree
  refine wpAny_bind (wpAny_field hz rfl (x := .none) rfl (wpAny_pure ?_))
  simp only [if_true]
  refine wpAny_bind (wpAny_rule ?_)
  refine wpAny_bind (wpAny_field hz rfl (x := .ref TO) rfl ?_)
  refine wpAny_bind (wpAny_setField_rec hz (by simp) fun g1 z1 s1 => ?_)
  replace z1 : ZRec g1 z TI TO false ff .ellipsis := z1
  refine wpAny_bind ?_
  simp only [List.zipIdx_cons, List.zipIdx_nil, List.forIn_cons, List.forIn_nil]
  refine wpAny_bind (wpAny_bind (wpAny_onRaise ?_))
  show wpAny _ _ (zdr false (.ref i1)) _ _ _
  refine zdr_item (h1.at fun o e => s1.extBut _ _ D.i1z e) (q1.at fun o e => s1.extBut _ _ D.l1z e) hx fun g2 j1 s2 => ?_
  have T2 : IsPair g2 TO u v := s2.extBut _ _ D.TOi1 (s1.extBut _ _ D.TOz hTO)
  refine wpAny_bind (wpAny_seqItems T2 rfl ?_)
  refine wpAny_bind (up_pair T2 fun g3 T3 s3 => ?_)
  refine wpAny_bind (wpAny_letGo (wpAny_pure ?_))
  refine wpAny_bind (wpAny_bind (wpAny_onRaise ?_))
  show wpAny _ _ (zdr false (.ref i2)) _ _ _
  have o3 : ∀ c o, c ≠ z → c ≠ i1 → c ≠ TO → s.heap.get? c = some o → g3.get? c = some o := fun c o n1 n2 n3 e => s3.extBut _ _ n3 (s2.extBut _ _ n2 (s1.extBut _ _ n1 e))
  have z3 : ZRec g3 z TI TO false ff .ellipsis := s3.extBut _ _ D.TOz.symm (s2.extBut _ _ D.i1z.symm z1)
  refine zdr_endN hh (h2.at fun o e => o3 _ _ D.i2z D.i12.symm D.TOi2.symm e) (q2.at fun o e => o3 _ _ D.l2z D.l2i1 D.l2TO e) hy fun g4 e k4 he => ?_
  obtain ⟨oe, hoe, hce⟩ := he
  have z4 : ZRec g4 z TI TO false ff .ellipsis := k4 _ _ D.i2z.symm z3
  have hez : e ≠ z := fun x => by subst x; rw [z4] at hoe; cases hoe; simp at hce
  exact wpAny_setField_rec z4 (by simp) fun g5 _ s5 => hE g5 e (fun c o n1 n2 n3 n4 x => s5.extBut _ _ n1 (k4 _ _ n4 (o3 c o n1 n3 n2 x))) ⟨oe, s5.extBut _ _ hez hoe, hce⟩
theorem z_endH {T : Addr} {oT : Obj} {Q : Fin → Shared → Prop} (hh : A.handled = none) (D : ZipApart z TI TO i1 i2 a b) (hz : ZRec s.heap z TI TO true ff (rawInt T)) (hT : s.heap.get? T = some oT) (hTI : IsPair s.heap TI (.ref i1) (.ref i2))
    (h1 : SIt t1 s.heap i1 a k) (h2 : SIt t2 s.heap i2 b k) (q1 : SSq t1 s.heap a xs) (q2 : SSq t2 s.heap b ys) (hx : xs[k]? = none) (hy : ys[k]? = none)
    (hE : ∀ h' e, (∀ c o, c ≠ z → c ≠ i1 → c ≠ i2 → s.heap.get? c = some o → h'.get? c = some o) → (∃ o, h'.get? e = some o ∧ o.cls = .type "StopIteration") → E (.ref e) { s with heap := h' }) :
    wpAny (model prog w) A (Builtin.«zip.__next__» ⟨[.ref z], []⟩) Q E s := by
  show wpAny _ _ (field (.ref z) 2 >>= _) _ _ _
  refine wpAny_bind (wpAny_field hz rfl (x := .bool true) rfl ?_)
  show wpAny _ _ (field (.ref z) 3 >>= _) _ _ _
  refine wpAny_bind (wpAny_field hz rfl (x := .ref TI) rfl ?_)
  refine wpAny_bind (wpAny_seqItems hTI rfl ?_)
  show wpAny _ _ (Builtin.SmallTypes.ownedTupleIsFree (.ref z) >>= _) _ _ _
  refine wpAny_bind (z_alive hz hT fun g1 z1 s1 => ?_)
  simp only [Bool.false_eq_true, if_false]
  refine wpAny_bind ?_
  rw [← Array.forIn_toList]
  simp only [List.forIn_cons, List.forIn_nil]
  refine wpAny_bind (wpAny_bind (wpAny_holding ?_))
  show wpAny _ _ (zdr true (.ref i1)) _ _ _
  refine zdr_endS hh (h1.at fun o e => s1.extBut _ _ D.i1z e) (q1.at fun o e => s1.extBut _ _ D.l1z e) hx fun g2 k2 => ?_
  have o3 : ∀ c o, c ≠ z → c ≠ i1 → s.heap.get? c = some o → g2.get? c = some o := fun c o n1 n2 e => k2 _ _ n2 (s1.extBut _ _ n1 e)
  refine wpAny_bind (z_stop (s := { s with heap := g2 }) hh (h2.at fun o e => o3 _ _ D.i2z D.i12.symm e) (q2.at fun o e => o3 _ _ D.l2z D.l2i1 e) hy fun h' e hk he => ?_)
  exact hE h' e (fun c o n1 n2 n3 q => hk c o n3 (o3 c o n1 n2 q)) he
end
end Cw
end
section
/-! zip over two sequences: made, walked, listed. -/
namespace Cw
open PySem PySem.Spec PyProof.Rows L2
def itO (t : Bool) (l : Addr) : Obj := match t with | true => { cls := .type "tuple_iterator", data := .fields #[.ref l, .int 0 0] } | false => { cls := .type "list_iterator", data := .fields #[.ref l, .int 0 0] }
theorem begins_src (t : Bool) (l : Addr) (xs : Array Value) : Begins (.ref l) (itO t l) fun h => SSq t h l xs := by
  cases t
  · exact begins_list l xs
  · exact begins_tuple l xs
theorem itO_at {t : Bool} {h : Heap} {it l : Addr} (e : h.get? it = some (itO t l)) : SIt t h it l 0 := by
  cases t
  · exact ⟨_, e, rfl, rfl⟩
  · exact ⟨_, e, rfl, rfl⟩
namespace F
theorem typeCall_zip_s (a b c : Value) : checkTypeCall "zip" ⟨[a, b], [(Str.ofString "strict", c)]⟩ = pure () := by kernel_rfl
theorem newCall_zip_s (a b c : Value) : checkBuiltinCall "zip.__new__" ⟨[.type "zip", a, b], [(Str.ofString "strict", c)]⟩ = pure () := by kernel_rfl
theorem args_init_s (obj a b c : Value) : argsOk "object.__init__" ⟨[obj, a, b], [(Str.ofString "strict", c)]⟩ := by unfold argsOk; kernel_rfl
end F
abbrev zsZ (h : Heap) (o1 o2 : Obj) : Heap := (gzO2 h o1 o2).push { cls := .type "zip", data := .fields #[.none, .bool false, .bool true, .ref ((h.push o1).push o2).objs.size, .ref (gzT2 h o1 o2).objs.size] }
theorem meets_zip_s {v1 v2 : Value} {o1 o2 : Obj} {H1 H2 : Heap → Prop} (B1 : Begins v1 o1 H1) (B2 : Begins v2 o2 H2) :
    Meets (Builtin.«zip.__new__» ⟨[.type "zip", v1, v2], [(Str.ofString "strict", .bool true)]⟩) (fun _ R s => (H1 s.heap ∧ H2 s.heap) ∧
      R (.ok (.ret (.ref (gzO2 s.heap o1 o2).objs.size))) { s with heap := zsZ s.heap o1 o2 }) :=
  .of_wp fun prog w A R s h => by
    obtain ⟨hp, g, d, tk, os⟩ := s; obtain ⟨⟨h1, h2⟩, h⟩ := h
    have hsub := sub_zip
    have k1 : (Str.ofString "strict" != ("strict" : Str)) = false := by decide +kernel
    have k2 : (Str.ofString "strict" == ("strict" : Str)) = true := by decide +kernel
    have q1 : ∀ {A' : Around} {E : Value → Shared → Prop} {Q : Value → Shared → Prop}, Q (.ref hp.objs.size) ⟨(hp.push o1), g, d, tk, os⟩ → wpAny (model prog w) A' (pyIter v1) Q E ⟨hp, g, d, tk, os⟩ :=
      fun q => B1.iter prog w _ _ ⟨hp, g, d, tk, os⟩ _ h1 q
    have q2 : ∀ {A' : Around} {E : Value → Shared → Prop} {Q : Value → Shared → Prop}, Q (.ref (hp.push o1).objs.size) ⟨((hp.push o1).push o2), g, d, tk, os⟩ → wpAny (model prog w) A' (pyIter v2) Q E ⟨(hp.push o1), g, d, tk, os⟩ :=
      fun q => B2.iter prog w _ _ ⟨(hp.push o1), g, d, tk, os⟩ _ (B2.keeps _ _ h2 fun b o' e => (Heap.get?_push_of_some _ e)) q
    wp_walk using q1, q2
    exact ⟨_, rfl, h⟩
section
variable {prog : Program} {w : World} {A : Around} {E : Value → Shared → Prop} {s : Shared} {t1 t2 sf : Bool} {a b : Addr} {xs ys : Array Value}
/-- the new zip, its five cells -/
structure ZNew (sf t1 t2 : Bool) (h h' : Heap) (a b : Addr) : Prop where
  z : ZRec h' (h.objs.size + 4) (h.objs.size + 2) (h.objs.size + 3) sf false .none
  TI : IsPair h' (h.objs.size + 2) (.ref h.objs.size) (.ref (h.objs.size + 1))
  TO : IsPair h' (h.objs.size + 3) .none .none
  i1 : SIt t1 h' h.objs.size a 0
  i2 : SIt t2 h' (h.objs.size + 1) b 0
  sz : h'.objs.size = h.objs.size + 5
  keep : ∀ c o, h.get? c = some o → h'.get? c = some o
theorem zip_plain {Q : Value → Shared → Prop} (h1 : SSq t1 s.heap a xs) (h2 : SSq t2 s.heap b ys) (h : ∀ h', ZNew false t1 t2 s.heap h' a b → Q (.ref (s.heap.objs.size + 4)) { s with heap := h' }) :
    wpAny (model prog w) A (call (.type "zip") [.ref a, .ref b]) Q E s :=
  zip_begins2 (begins_src t1 a xs) (begins_src t2 b ys) h1 h2 fun h' z TI TO e1 e2 sz k => h h' ⟨z, TI, TO, itO_at e1, itO_at e2, sz, k⟩
theorem zip_strict {Q : Value → Shared → Prop} (h1 : SSq t1 s.heap a xs) (h2 : SSq t2 s.heap b ys) (h : ∀ h', ZNew true t1 t2 s.heap h' a b → Q (.ref (s.heap.objs.size + 4)) { s with heap := h' }) :
    wpAny (model prog w) A (call (.type "zip") [.ref a, .ref b] [(Str.ofString "strict", .bool true)]) Q E s := by
  refine callType_newKw PySem.F.called_zip (by decide) (F.typeCall_zip_s _ _ _) (F.newCall_zip_s _ _ _) (fun obj => F.args_init_s obj _ _ _) PySem.F.entry_zip_new
    (meets_zip_s (begins_src t1 a xs) (begins_src t2 b ys)) ⟨⟨h1, h2⟩, ?_⟩
  have f1 : (itO t1 a).isFreed = false := (begins_src t1 a xs).free
  have f2 : (itO t2 b).isFreed = false := (begins_src t2 b ys).free
  have s1 : (s.heap.push (itO t1 a)).objs.size = s.heap.objs.size + 1 := Heap.size_push ..
  have s2 : ((s.heap.push (itO t1 a)).push (itO t2 b)).objs.size = s.heap.objs.size + 2 := by rw [Heap.size_push, s1]
  have s3 : (gzT2 s.heap (itO t1 a) (itO t2 b)).objs.size = s.heap.objs.size + 3 := by rw [Heap.size_push, s2]
  have s4 : (gzO2 s.heap (itO t1 a) (itO t2 b)).objs.size = s.heap.objs.size + 4 := by rw [Heap.size_push, s3]
  have s5 : (zsZ s.heap (itO t1 a) (itO t2 b)).objs.size = s.heap.objs.size + 5 := by rw [Heap.size_push, s4]
  have gZ : (zsZ s.heap (itO t1 a) (itO t2 b)).get? (gzO2 s.heap (itO t1 a) (itO t2 b)).objs.size = some _ := Heap.get?_push_size _ rfl
  have gO : (zsZ s.heap (itO t1 a) (itO t2 b)).get? (gzT2 s.heap (itO t1 a) (itO t2 b)).objs.size = some _ := Heap.get?_push_of_some _ (Heap.get?_push_size _ rfl)
  have gT : (zsZ s.heap (itO t1 a) (itO t2 b)).get? ((s.heap.push (itO t1 a)).push (itO t2 b)).objs.size = some _ := Heap.get?_push_of_some _ (Heap.get?_push_of_some _ (Heap.get?_push_size _ rfl))
  have g1 : (zsZ s.heap (itO t1 a) (itO t2 b)).get? s.heap.objs.size = some (itO t1 a) := Heap.get?_push_of_some _ (Heap.get?_push_of_some _ (Heap.get?_push_of_some _ (Heap.get?_push_of_some _ (Heap.get?_push_size _ f1))))
  have g2 : (zsZ s.heap (itO t1 a) (itO t2 b)).get? (s.heap.push (itO t1 a)).objs.size = some (itO t2 b) := Heap.get?_push_of_some _ (Heap.get?_push_of_some _ (Heap.get?_push_of_some _ (Heap.get?_push_size _ f2)))
  rw [s4, s3, s2] at gZ
  rw [s3] at gO
  rw [s2, s1] at gT
  rw [s1] at g2
  show _ ∧ _
  rw [s4]
  exact ⟨⟨_, gZ, rfl⟩, h _ ⟨gZ, gT, gO, itO_at g1, itO_at g2, s5, fun c o e => Heap.get?_push_of_some _ (Heap.get?_push_of_some _ (Heap.get?_push_of_some _ (Heap.get?_push_of_some _ (Heap.get?_push_of_some _ e))))⟩⟩

/-! ### next -/
variable {z TI TO i1 i2 : Addr} {k : Nat} {ff : Bool} {x y u v : Value}
theorem zrec_iter {f0 : Value} {Q : Value → Shared → Prop} (hz : ZRec s.heap z TI TO sf ff f0) (h : Q (.ref z) s) : wpAny (model prog w) A (pyIter (.ref z)) Q E s := by
  have hT : s.TypeIs (.ref z) "zip" := ⟨_, hz, rfl⟩
  refine wpAny_pyIter_slot hT PySem.F.slot_zip_iter (wpAny_call_entry PySem.F.slot_zip_iter hT PySem.F.entry_zip_iter ?_ (PySem.F.args_zip_iter_1 _))
  show wpAny _ _ (ret (.ref z)) _ _ s
  exact wpAny_pure ⟨_, rfl, "zip", _, hT, PySem.F.slot_zip_next.lookup, h⟩
theorem nx_of {f0 : Value} {Q : Option Value → Shared → Prop} (hz : ZRec s.heap z TI TO sf ff f0)
    (h : wpAny (model prog w) A.in1 (Builtin.«zip.__next__» ⟨[.ref z], []⟩) (fun fin s' => ∃ v, fin = .done (.ret v) ∧ Q (some v) s') (fun e s' => ∃ c, e = .ref c ∧ (∃ o, s'.heap.get? c = some o ∧ o.cls = .type "StopIteration") ∧ Q none s') s) : wpAny (model prog w) A (pyNext (.ref z)) Q E s := by
  have hT : s.TypeIs (.ref z) "zip" := ⟨_, hz, rfl⟩
  unfold pyNext
  refine wpAny_bind (wpAny_attempt (wpAny_callSpecial?_slot (name := Str.ofString "__next__") hT PySem.F.slot_zip_next
    (wpAny_call_entry PySem.F.slot_zip_next hT PySem.F.entry_zip_next (wpAny_mono h (fun fin s' hq => ?_) fun e s' hq => ?_) (PySem.F.args_zip_next_1 _))))
  · obtain ⟨v, e, q⟩ := hq
    exact ⟨v, e, wpAny_pure q⟩
  · obtain ⟨c, e, he, q⟩ := hq
    subst e
    exact wpAny_bind (wpAny_isInstance (T := "StopIteration") (b := true) he isSubtype_stop (wpAny_pure q))
theorem go_zip {elts : List Expr} {x1} {pos : Pos} {T : Addr} {Q : Unit → Shared → Prop} (hz : ZRec s.heap z TI TO sf false (rawInt T))
    (hQ : ∀ h', ZRec h' z TI TO sf false .none → Heap.SameBut z s.heap h' → Q () { s with heap := h' }) : wpAny (model prog w) A (letOwnedTupleGo (.Tuple elts x1 pos) (.ref z) (.ref T)) Q E s := by
  unfold letOwnedTupleGo
  refine wpAny_bind (wpAny_load hz ?_)
  show wpAny _ _ (if (["enumerate", "zip", "dict_itemiterator", "dict_reverseitemiterator", "odict_iterator", "itertools.zip_longest", "itertools.pairwise"].contains "zip" &&
      (#[rawInt T, .bool false, .bool sf, .ref TI, .ref TO] : Array Value)[0]? == some (rawInt T)) = true then _ else _) Q E s
  rw [if_pos (by simp)]
  refine wpAny_bind (wpAny_rule ?_)
  show wpAny _ _ (setField (.ref z) 0 .none) Q E s
  exact wpAny_setField_rec hz (by simp) fun h' hz' hs' => hQ h' hz' hs'
end
/-! ### over the layer -/
/-- a list or a tuple that stands in H -/
def SqX (t : Bool) (K : PySem.W.Frag) (H : Hp) (a : Addr) (xs : List V) : Prop := match t with | true => SqT K H a xs | false => SqL K H a xs
section
variable {X : Cx} {pins : List (Addr × Obj)} {σ : L2.St} {H : Hp} {s : Shared} {t t1 t2 sf : Bool} {a b : Addr} {xs ys : List V}
theorem SqX.at (I : Inv X pins σ H s) (h : SqX t X.K H a xs) : ∃ its : List Value, Vals xs its ∧ SSq t s.heap a its.toArray := by
  cases t
  · obtain ⟨its, r, p, _⟩ := I.list h
    exact ⟨its, r, p.isList⟩
  · obtain ⟨its, r, p, _⟩ := I.tuple h
    exact ⟨its, r, p⟩
theorem SqX.inj (I : Inv X pins σ H s) (h : SqX t X.K H a xs) (h' : SqX t X.K H a ys) : xs = ys := by
  cases t
  · exact I.list_inj h h'
  · exact I.tuple_inj h h'
/-- the two sequences as they stand, of one length, the items in new pairs -/
def Itz2 (K : PySem.W.Frag) (sf t1 t2 : Bool) (a b : Addr) : It :=
  ⟨fun i H => ∃ (xs ys : List V) (x y : V), SqX t1 K H a xs ∧ SqX t2 K H b ys ∧ xs[i]? = some x ∧ ys[i]? = some y,
    fun i H v H' => ∃ (T : Addr) (o : Obj) (x y : V), v = .ref T ∧ H T = none ∧ o.dict = none ∧ H' = upd H T (.frz o (.tup [x, y])) ∧ (∀ xs, SqX t1 K H a xs → xs[i]? = some x) ∧ ∀ ys, SqX t2 K H b ys → ys[i]? = some y,
    fun i H => ∃ xs ys : List V, SqX t1 K H a xs ∧ SqX t2 K H b ys ∧ ys.length = i ∧ (xs.length = i ∨ (sf = false ∧ i < xs.length))⟩
theorem turn_zip2 {P : Program} {w : World} {K : PySem.W.Frag} {elts : List Expr} {kk : Nat} {tpos : Pos} {z TI TO i1 i2 : Addr} (D : ZipApart z TI TO i1 i2 a b) :
    Turn P w K (.Tuple elts kk tpos) (Itz2 K sf t1 t2 a b) [z, TI, TO, i1, i2] z (fun i h => ZRec h z TI TO sf false .none ∧ IsPair h TI (.ref i1) (.ref i2) ∧ (∃ x y, IsPair h TO x y) ∧ SIt t1 h i1 a i ∧ SIt t2 h i2 b i) where
  mem := by simp
  obj := fun i h st c hc => by
    obtain ⟨hz, hTI, ⟨x, y, hTO⟩, h1, h2⟩ := st
    have e' : c = z ∨ c = TI ∨ c = TO ∨ c = i1 ∨ c = i2 := by simpa using hc
    rcases e' with q | q | q | q | q
    · rw [q]; exact ⟨_, hz, fun v q => nomatch q⟩
    · rw [q]; exact ⟨_, hTI, fun v q => nomatch q⟩
    · rw [q]; exact ⟨_, hTO, fun v q => nomatch q⟩
    · rw [q]; exact h1.ob
    · rw [q]; exact h2.ob
  keep := fun i h h' st k => by
    obtain ⟨hz, hTI, ⟨x, y, hTO⟩, h1, h2⟩ := st
    exact ⟨k z (by simp) _ hz, k TI (by simp) _ hTI, ⟨x, y, k TO (by simp) _ hTO⟩, h1.at fun o q => k i1 (by simp) o q, h2.at fun o q => k i2 (by simp) o q⟩
  item := by
    intro X hP hw hK hc i pins s σ H E I hf st hg
    subst hP hw hK
    obtain ⟨hz, hTI, ⟨x0, y0, hTO⟩, h1, h2⟩ := st
    obtain ⟨xs, ys, x, y, hqx, hqy, hx, hy⟩ := hg
    obtain ⟨its, rv, p⟩ := hqx.at I
    obtain ⟨its2, rv2, p2⟩ := hqy.at I
    obtain ⟨u, hu, ru⟩ := rv.get hx
    obtain ⟨u2, hu2, ru2⟩ := rv2.get hy
    have hzl : z < s.heap.objs.size := Heap.lt_size hz
    refine nx_of hz (z_free D hz hTI hTO h1 h2 p p2 (x := u) (y := u2) (by simpa using hu) (by simpa using hu2) fun h' z' TO' h1' h2' hT hsz hk => ?_)
    refine ⟨_, rfl, go_zip (s := { s with heap := h' }) z' fun h'' z'' sb => ?_⟩
    have hT2 : h''.get? s.heap.objs.size = some { cls := .type "tuple", data := .seq #[u, u2] } := (sb.2 _ (Nat.ne_of_gt hzl)).trans hT
    have new : ObjOk X.prog X.w (upd H s.heap.objs.size (.frz { cls := .type "tuple", data := .seq #[u, u2] } (.tup [x, y]))) h'' s.heap.objs.size (.frz { cls := .type "tuple", data := .seq #[u, u2] } (.tup [x, y])) :=
      ⟨hT2, by show 2 ≤ sizeLine; decide, [u, u2], .cons ru (.cons ru2 .nil), ⟨_, hT2, rfl, _, rfl⟩⟩
    have I1 : Inv X pins σ (upd H s.heap.objs.size (.frz { cls := .type "tuple", data := .seq #[u, u2] } (.tup [x, y]))) { s with heap := h'' } :=
      I.turnedNew (t' := s.toks) (ch := [z, TI, TO, i1, i2]) (fun c o hb q => (sb.2 c (fun q' => hb (by simp [q']))).trans (hk c o (fun q' => hb (by simp [q'])) (fun q' => hb (by simp [q'])) (fun q' => hb (by simp [q'])) (fun q' => hb (by simp [q'])) q)) hf (Nat.le_refl _) new
    refine ⟨.ref s.heap.objs.size, _, I1, rfl, ⟨_, _, x, y, rfl, I.hok.fresh (Nat.le_refl _), rfl, rfl, fun l hl => by rw [hl.inj I hqx]; exact hx, fun l hl => by rw [hl.inj I hqy]; exact hy⟩, ⟨z'', ?_, ⟨u, u2, ?_⟩, ?_, ?_⟩, fun c hcm => ?_⟩
    · exact (sb.2 _ D.TIz).trans (hk _ _ D.TIz D.TITO D.TIi1 D.TIi2 hTI)
    · exact (sb.2 _ D.TOz).trans TO'
    · exact h1'.at fun o q => (sb.2 _ D.i1z).trans q
    · exact h2'.at fun o q => (sb.2 _ D.i2z).trans q
    · have hlt : c < s.heap.objs.size := by
        have e' : c = z ∨ c = TI ∨ c = TO ∨ c = i1 ∨ c = i2 := by simpa using hcm
        rcases e' with q | q | q | q | q
        · rw [q]; exact hzl
        · rw [q]; exact Heap.lt_size hTI
        · rw [q]; exact Heap.lt_size hTO
        · rw [q]; obtain ⟨_, e1, _⟩ := h1.ob; exact Heap.lt_size e1
        · rw [q]; obtain ⟨_, e1, _⟩ := h2.ob; exact Heap.lt_size e1
      rw [upd_ne (Nat.ne_of_lt hlt)]
      exact (hf c hcm).1
  done := by
    intro X hP hw hK hc i pins s σ H E I hf st hg
    subst hP hw hK
    obtain ⟨hz, hTI, ⟨x0, y0, hTO⟩, h1, h2⟩ := st
    obtain ⟨xs, ys, hqx, hqy, e2, e1⟩ := hg
    obtain ⟨its, rv, p⟩ := hqx.at I
    obtain ⟨its2, rv2, p2⟩ := hqy.at I
    have l1 := rv.length
    have l2 := rv2.length
    have n2 : its2.toArray[i]? = none := by simp; omega
    have fin : ∀ h' e, (∀ c o, c ≠ z → c ≠ TO → c ≠ i1 → c ≠ i2 → s.heap.get? c = some o → h'.get? c = some o) → (∃ o, h'.get? e = some o ∧ o.cls = .type "StopIteration") →
        ∃ c, Value.ref e = .ref c ∧ (∃ o, h'.get? c = some o ∧ o.cls = .type "StopIteration") ∧ (none : Option Value) = none ∧ Inv X pins σ H { s with heap := h' } := fun h' e hk he =>
      ⟨e, rfl, he, rfl, I.turnedL (t' := s.toks) (ch := [z, TI, TO, i1, i2]) (fun c o hb q =>
        hk c o (fun q' => hb (by simp [q'])) (fun q' => hb (by simp [q'])) (fun q' => hb (by simp [q'])) (fun q' => hb (by simp [q'])) q) hf⟩
    rcases e1 with e1 | ⟨es, e1⟩
    · have n1 : its.toArray[i]? = none := by simp; omega
      cases sf
      · exact nx_of hz (z_endN (I.ok.hd hc) D hz hTI hTO h1 p n1 fin)
      · exact nx_of hz (z_endS (I.ok.hd hc) D hz hTI hTO h1 h2 p p2 n1 n2 fin)
    · subst es
      have hi : i < its.length := by omega
      exact nx_of hz (z_endM (I.ok.hd hc) D hz hTI hTO h1 h2 p p2 (x := its[i]) (by simp [hi]) n2 fin)
  self := fun A i s Q E st h => zrec_iter st.1 h
def iZip2 (K : PySem.W.Frag) (sf t1 t2 : Bool) (ta : TA) : TI := fun σ H R => ta σ H fun vs H1 => ∃ a b xs ys, vs = [.ref a, .ref b] ∧ SqX t1 K H1 a xs ∧ SqX t2 K H1 b ys ∧ R (Itz2 K sf t1 t2 a b) H1
theorem zip_pie {elts : List Expr} {kk : Nat} {tpos : Pos} {R : It → Hp → Prop} {h' : Heap} {E : Value → Shared → Prop} (I : Inv X pins σ H s) (hqx : SqX t1 X.K H a xs) (hqy : SqX t2 X.K H b ys) (n : ZNew sf t1 t2 s.heap h' a b) (q : R (Itz2 X.K sf t1 t2 a b) H) :
    wpAny (model X.prog X.w) X.A (pyIter (.ref (s.heap.objs.size + 4))) (PIE X pins σ (.Tuple elts kk tpos) R) E { s with heap := h' } := by
  obtain ⟨_, _, p1⟩ := hqx.at I
  obtain ⟨_, _, p2⟩ := hqy.at I
  refine zrec_iter (s := { s with heap := h' }) n.z ?_
  have I2 : Inv X pins σ H { s with heap := h' } := I.kept (t' := s.toks) n.keep
  refine ⟨s.heap.objs.size + 4, [s.heap.objs.size + 4, s.heap.objs.size + 2, s.heap.objs.size + 3, s.heap.objs.size, s.heap.objs.size + 1], _, _, H, rfl, I2, turn_zip2 (sf := sf) (PySem.W.ktu_apart s.heap.objs.size a b p1.lt p2.lt), ⟨n.z, n.TI, ⟨_, _, n.TO⟩, n.i1, n.i2⟩, fun c hcm => ?_, q⟩
  have e' : c = s.heap.objs.size + 4 ∨ c = s.heap.objs.size + 2 ∨ c = s.heap.objs.size + 3 ∨ c = s.heap.objs.size ∨ c = s.heap.objs.size + 1 := by simpa using hcm
  have hle : s.heap.objs.size ≤ c := by
    rcases e' with z | z | z | z | z
    · rw [z]; exact Nat.le_add_right _ _
    · rw [z]; exact Nat.le_add_right _ _
    · rw [z]; exact Nat.le_add_right _ _
    · rw [z]; exact Nat.le_refl _
    · rw [z]; exact Nat.le_add_right _ _
  exact I.fpOk hle (I.hok.fresh hle)
/-- zip(e, f), each a list or a tuple -/
theorem pi_zip2 (t1 t2 : Bool) {e e2 : Expr} {ta : TA} {p pos tpos : Pos} {elts : List Expr} {kk : Nat} (hg : Gl X "zip") (hm : X.mg "zip" = none) (ha : PA X [e, e2] ta)
    (hs : starEach [e, e2] X.env = (false, eval e X.env) :: starEach [e2] X.env := by rfl) (hpl : (backTo pos (starEach [e2] X.env)).any (·.1) = false := by rfl) :
    PI X (.Tuple elts kk tpos) (.Call (.Name "zip" p) [e, e2] [] pos) (iZip2 X.K false t1 t2 ta) := by
  refine ⟨fun pins s σ H R I h => ?_⟩
  refine Call_ (ld_blt I hg hm PyProof.Rows.boot_zip (PyProof.Rows.callWith_type1 (thn (ha.run pos pins s σ H _ I h) fun us s1 ⟨vs, H1, I1, r1, q1⟩ => ?_) hs hpl))
  obtain ⟨a, b, xs, ys, ex, hqx, hqy, q⟩ := q1
  subst ex
  obtain ⟨u1, u2, rfl, ra, rb⟩ := Vals.two r1
  cases ra
  cases rb
  obtain ⟨_, _, p1⟩ := hqx.at I1
  obtain ⟨_, _, p2⟩ := hqy.at I1
  exact zip_plain p1 p2 fun h' n => zip_pie I1 hqx hqy n q
end
end Cw
end
section
/-! list(zip(a, b, strict=True)) of two tuples of one length; zip(.., strict=True) walked. -/
namespace Cw
open PySem PySem.Spec PySem.Calls PyProof.Rows L2
theorem zip_no_len : typeLookup (.type "zip") "__len__" = pure none := am_miss_of_fast (by decide +kernel)
theorem zip_no_hint : typeLookup (.type "zip") "__length_hint__" = pure none := am_miss_of_fast (by decide +kernel)
/-- the new pairs -/
structure ZPairs (xs ys : Array Value) (lo : Addr) (h : Heap) (as : List Addr) : Prop where
  rise : as.Pairwise (· < ·)
  above : ∀ a ∈ as, lo < a
  pairs : ∀ (j : Nat) (c : Addr), as[j]? = some c → ∃ x y, xs[j]? = some x ∧ ys[j]? = some y ∧ IsPair h c x y
theorem ZPairs.there {xs ys : Array Value} {lo : Addr} {h : Heap} {as : List Addr} (g : ZPairs xs ys lo h as) {c : Addr} (hc : c ∈ as) : c < h.objs.size := by
  obtain ⟨j, hj⟩ := List.mem_iff_getElem?.mp hc
  obtain ⟨_, _, _, _, e⟩ := g.pairs j c hj
  exact Heap.lt_size e
/-- the zip ahead of turn i: free, or its first tuple is out -/
structure ZGoing (h : Heap) (z TI TO i1 i2 a b : Addr) (i : Nat) (as : List Addr) : Prop where
  z : (∃ ff, ZRec h z TI TO true ff .none ∧ as = []) ∨ ∃ ff T, T ∈ as ∧ ZRec h z TI TO true ff (rawInt T)
  TI : IsPair h TI (.ref i1) (.ref i2)
  TO : ∃ u v, IsPair h TO u v
  i1 : SIt true h i1 a i
  i2 : SIt true h i2 b i
section
variable {prog : Program} {w : World} {A : Around} {s : Shared} {R : Result → Shared → Prop} {z TI TO i1 i2 a b S lo : Addr} {xs ys : Array Value}
theorem zg_next {i : Nat} {as : List Addr} {Q : Option Value → Shared → Prop} {E : Value → Shared → Prop} (D : ZipApart z TI TO i1 i2 a b) (hlo : z ≤ lo ∧ TI ≤ lo ∧ TO ≤ lo ∧ i1 ≤ lo ∧ i2 ≤ lo) (g : ZGoing s.heap z TI TO i1 i2 a b i as) (G : ZPairs xs ys lo s.heap as)
    (q1 : SSq true s.heap a xs) (q2 : SSq true s.heap b ys) {x y : Value} (hx : xs[i]? = some x) (hy : ys[i]? = some y)
    (hQ : ∀ h', ZGoing h' z TI TO i1 i2 a b (i + 1) (as ++ [s.heap.objs.size]) → IsPair h' s.heap.objs.size x y → (∀ c o, c ≠ z → c ≠ TO → c ≠ i1 → c ≠ i2 → s.heap.get? c = some o → h'.get? c = some o) → Q (some (.ref s.heap.objs.size)) { s with heap := h' }) :
    wpAny (model prog w) A (pyNext (.ref z)) Q E s := by
  obtain ⟨u, v, hTO⟩ := g.TO
  rcases g.z with ⟨ff, hz, e⟩ | ⟨ff, T, hT, hz⟩
  · refine nx_of hz (z_free D hz g.TI hTO g.i1 g.i2 q1 q2 hx hy fun h' z' TO' j1 j2 hp hsz hk => ?_)
    refine hQ h' ⟨.inr ⟨_, s.heap.objs.size, by simp, z'⟩, hk _ _ D.TIz D.TITO D.TIi1 D.TIi2 g.TI, ⟨_, _, TO'⟩, j1, j2⟩ hp hk
  · obtain ⟨oT, eT⟩ : ∃ o, s.heap.get? T = some o := by
      obtain ⟨j, hj⟩ := List.mem_iff_getElem?.mp hT
      obtain ⟨_, _, _, _, e⟩ := G.pairs j T hj
      exact ⟨_, e⟩
    refine nx_of hz (z_held D hz eT g.TI g.i1 g.i2 q1 q2 hx hy fun h' z' j1 j2 hp hsz hk => ?_)
    refine hQ h' ⟨.inr ⟨_, T, by simp [hT], z'⟩, hk _ _ D.TIz D.TIi1 D.TIi2 g.TI, ⟨u, v, hk _ _ D.TOz D.TOi1 D.TOi2 hTO⟩, j1, j2⟩ hp fun c o n1 _ n3 n4 e => hk c o n1 n3 n4 e
theorem zg_done {i : Nat} {as : List Addr} {Q : Option Value → Shared → Prop} {E : Value → Shared → Prop} (hh : A.handled = none) (D : ZipApart z TI TO i1 i2 a b) (g : ZGoing s.heap z TI TO i1 i2 a b i as) (G : ZPairs xs ys lo s.heap as)
    (q1 : SSq true s.heap a xs) (q2 : SSq true s.heap b ys) (hx : xs[i]? = none) (hy : ys[i]? = none)
    (hQ : ∀ h', (∀ c o, c ≠ z → c ≠ TO → c ≠ i1 → c ≠ i2 → s.heap.get? c = some o → h'.get? c = some o) → Q none { s with heap := h' }) : wpAny (model prog w) A (pyNext (.ref z)) Q E s := by
  obtain ⟨u, v, hTO⟩ := g.TO
  rcases g.z with ⟨ff, hz, e⟩ | ⟨ff, T, hT, hz⟩
  · exact nx_of hz (z_endS hh D hz g.TI hTO g.i1 g.i2 q1 q2 hx hy fun h' e hk he => ⟨e, rfl, he, hQ h' hk⟩)
  · obtain ⟨oT, eT⟩ : ∃ o, s.heap.get? T = some o := by
      obtain ⟨j, hj⟩ := List.mem_iff_getElem?.mp hT
      obtain ⟨_, _, _, _, e⟩ := G.pairs j T hj
      exact ⟨_, e⟩
    exact nx_of hz (z_endH hh D hz eT g.TI g.i1 g.i2 q1 q2 hx hy fun h' e hk he => ⟨e, rfl, he, hQ h' fun c o n1 _ n3 n4 q => hk c o n1 n3 n4 q⟩)
/-- the loop of list.extend over it -/
theorem zl_loop (hh : A.handled = none) (D : ZipApart z TI TO i1 i2 a b) (hlo : z ≤ lo ∧ TI ≤ lo ∧ TO ≤ lo ∧ i1 ≤ lo ∧ i2 ≤ lo) (hS : S ≤ lo ∧ S ≠ z ∧ S ≠ TI ∧ S ≠ TO ∧ S ≠ i1 ∧ S ≠ i2 ∧ S ≠ a ∧ S ≠ b) (hl : xs.size = ys.size) (hn : xs.size ≤ 1000) (res : Value) {h1 : Heap}
    (hR : ∀ h' tk acc c as, (∀ b o, b ≠ S → b ≠ z → b ≠ TO → b ≠ i1 → b ≠ i2 → h1.get? b = some o → h'.get? b = some o) → h'.get? S = some { cls := .type "list", dict := none, data := .seq acc c, slots := #[] } → as.length = xs.size → ZPairs xs ys lo h' as →
      acc.toList = as.map Value.ref → R (.ok (.ret res)) { s with heap := h', toks := tk }) :
    ∀ (k i : Nat) (h : Heap) (tk c : Nat) (acc : Array Value) (as : List Addr), xs.size - i = k → i ≤ xs.size → ZGoing h z TI TO i1 i2 a b i as → SSq true h a xs → SSq true h b ys → (∀ b o, b ≠ S → b ≠ z → b ≠ TO → b ≠ i1 → b ≠ i2 → h1.get? b = some o → h.get? b = some o) →
      h.get? S = some { cls := .type "list", dict := none, data := .seq acc c, slots := #[] } → acc.toList = as.map Value.ref → as.length = i → ZPairs xs ys lo h as → lo < h.objs.size →
      codeAny (model prog w) A (.builtin "list.extend.loop" ⟨[.ref S, .ref z, res], []⟩) R { s with heap := h, toks := tk } := by
  obtain ⟨l1, l2, l3, l4, l5⟩ := hlo
  obtain ⟨s0, s1, s2, s3, s4, s5, s6, s7⟩ := hS
  have sz1 : sizeLine = 16777216 := sizeLine_eq
  intro k
  induction k with
  | zero =>
    intro i h tk c acc as hk hi g q1 q2 keep eS hacc hal G hls
    have e1 : i = xs.size := by omega
    refine codeAny_builtin PySem.F.entry_extend_loop ?_
    rw [Around.under_plainId PySem.F.plain_extend_loop _]
    show wpAny _ A.in1 (pyNext (.ref z) >>= _) _ _ _
    refine wpAny_bind (zg_done (s := { s with heap := h, toks := tk }) (A := A.in1) hh D g G q1 q2 (Array.getElem?_eq_none (by omega)) (Array.getElem?_eq_none (by omega)) fun h' he => ?_)
    have far : ∀ c ∈ as, c ≠ z ∧ c ≠ TO ∧ c ≠ i1 ∧ c ≠ i2 := fun c hc => by
      have := G.above c hc
      exact ⟨Nat.ne_of_gt (Nat.lt_of_le_of_lt l1 this), Nat.ne_of_gt (Nat.lt_of_le_of_lt l3 this), Nat.ne_of_gt (Nat.lt_of_le_of_lt l4 this), Nat.ne_of_gt (Nat.lt_of_le_of_lt l5 this)⟩
    refine wpAny_pure (hR h' tk acc c as (fun b o n0 n1 n2 n3 n4 e => he b o n1 n2 n3 n4 (keep b o n0 n1 n2 n3 n4 e)) (he S _ s1 s3 s4 s5 eS) (by omega) ⟨G.rise, G.above, fun j d hj => ?_⟩ hacc)
    obtain ⟨x, y, ex, ey, ep⟩ := G.pairs j d hj
    obtain ⟨f1, f2, f3, f4⟩ := far d (List.mem_of_getElem? hj)
    exact ⟨x, y, ex, ey, he d _ f1 f2 f3 f4 ep⟩
  | succ k ih =>
    intro i h tk c acc as hk hi g q1 q2 keep eS hacc hal G hls
    have hlt : i < xs.size := by omega
    have hlt2 : i < ys.size := by omega
    have hsz : acc.size = i := by rw [← Array.length_toList, hacc, List.length_map, hal]
    refine codeAny_builtin PySem.F.entry_extend_loop ?_
    rw [Around.under_plainId PySem.F.plain_extend_loop _]
    show wpAny _ A.in1 (pyNext (.ref z) >>= _) _ _ _
    refine wpAny_bind (zg_next (s := { s with heap := h, toks := tk }) (lo := lo) D ⟨l1, l2, l3, l4, l5⟩ g G q1 q2 (Array.getElem?_eq_getElem hlt) (Array.getElem?_eq_getElem hlt2) fun h' g' hp hk' => ?_)
    dsimp only at g' hp hk' ⊢
    have eS' := hk' S _ s1 s3 s4 s5 eS
    have up : ∀ b o, b ≠ S → h'.get? b = some o → (h'.update S (Obj.mapSeq (·.push (Value.ref h.objs.size)))).get? b = some o := fun b o hb e => (Heap.get?_update_other _ _ (Ne.symm hb)).trans e
    have hSl : S < h.objs.size := Heap.lt_size eS
    show wpAny _ A.in1 (updateSeq S (·.push (Value.ref h.objs.size)) >>= _) _ _ _
    refine wpAny_bind ?_
    refine wpAny_updateSeq eS' rfl (wpAny_pure ⟨plainId_quiet PySem.F.plain_extend_loop _, ih (i + 1) _ tk _ (acc.push (Value.ref h.objs.size)) (as ++ [h.objs.size]) (by omega) hlt ?_ ?_ ?_ ?_ (Heap.get?_update_self _ eS' rfl) (by rw [Array.toList_push, hacc, List.map_append]; rfl) (by rw [List.length_append, hal]; rfl) ?_ ?_⟩) (by rw [hsz]; omega) (by show (acc.push (Value.ref h.objs.size)).size ≤ sizeLine + 1; rw [Array.size_push, hsz]; omega)
    · refine ⟨?_, up _ _ (Ne.symm s2) g'.TI, ?_, g'.i1.at fun o e => up _ _ (Ne.symm s4) e, g'.i2.at fun o e => up _ _ (Ne.symm s5) e⟩
      · rcases g'.z with ⟨ff, hz, e⟩ | ⟨ff, T, hT, hz⟩
        · exact .inl ⟨ff, up _ _ (Ne.symm s1) hz, e⟩
        · exact .inr ⟨ff, T, hT, up _ _ (Ne.symm s1) hz⟩
      · obtain ⟨u, v, hTO⟩ := g'.TO
        exact ⟨u, v, up _ _ (Ne.symm s3) hTO⟩
    · exact q1.at fun o e => up _ _ (Ne.symm s6) (hk' _ _ D.l1z D.l1TO D.l1i1 D.l1i2 e)
    · exact q2.at fun o e => up _ _ (Ne.symm s7) (hk' _ _ D.l2z D.l2TO D.l2i1 D.l2i2 e)
    · exact fun b o n0 n1 n2 n3 n4 e => up b o n0 (hk' b o n1 n2 n3 n4 (keep b o n0 n1 n2 n3 n4 e))
    · refine ⟨?_, fun d hd => ?_, fun j d hj => ?_⟩
      · refine List.pairwise_append.mpr ⟨G.rise, List.pairwise_singleton _ _, fun d hd e he => ?_⟩
        rw [List.mem_singleton.mp he]
        exact G.there hd
      · rcases List.mem_append.mp hd with hd | hd
        · exact G.above d hd
        · rw [List.mem_singleton.mp hd]; exact hls
      · rcases Nat.lt_or_ge j as.length with h1 | h1
        · rw [List.getElem?_append_left h1] at hj
          obtain ⟨x, y, ex, ey, ep⟩ := G.pairs j d hj
          have hd := G.above d (List.mem_of_getElem? hj)
          exact ⟨x, y, ex, ey, up d _ (Nat.ne_of_gt (Nat.lt_of_le_of_lt s0 hd)) (hk' d _ (Nat.ne_of_gt (Nat.lt_of_le_of_lt l1 hd)) (Nat.ne_of_gt (Nat.lt_of_le_of_lt l3 hd)) (Nat.ne_of_gt (Nat.lt_of_le_of_lt l4 hd)) (Nat.ne_of_gt (Nat.lt_of_le_of_lt l5 hd)) ep)⟩
        · rw [List.getElem?_append_right h1] at hj
          have hj0 : j - as.length = 0 := by
            rcases Nat.eq_zero_or_pos (j - as.length) with z | z
            · exact z
            · rw [List.getElem?_eq_none (by simp; omega)] at hj; cases hj
          rw [hj0] at hj
          have hd : h.objs.size = d := by simpa using hj
          have ej : j = i := by omega
          subst hd ej
          exact ⟨_, _, Array.getElem?_eq_getElem hlt, Array.getElem?_eq_getElem hlt2, up _ _ (Nat.ne_of_gt hSl) hp⟩
    · have e : (h'.update S (Obj.mapSeq (·.push (Value.ref h.objs.size)))).get? h.objs.size = _ := up _ _ (Nat.ne_of_gt hSl) hp
      exact Nat.lt_trans hls (Heap.lt_size e)
end
section
variable {prog : Program} {w : World} {A : Around} {E : Value → Shared → Prop} {s : Shared} {z TI TO i1 i2 a b S : Addr} {xs ys : Array Value}
theorem zip_hint {Q : Bool → Shared → Prop} (hT : s.TypeIs (.ref z) "zip") (h : Q true s) : wpAny (model prog w) A (Builtin.List.listLengthHint (.ref z)) Q E s := by
  unfold Builtin.List.listLengthHint
  refine wpAny_bind (wpAny_specialOf hT zip_no_len ?_)
  refine wpAny_ite_split (fun q => absurd q Bool.false_ne_true) (fun _ => ?_)
  refine wpAny_ite_split (fun q => absurd q Bool.false_ne_true) (fun _ => ?_)
  refine wpAny_bind (wpAny_specialOf hT zip_no_hint ?_)
  exact wpAny_pure h
theorem zl_init {R : Result → Shared → Prop} (hh : A.handled = none) (D : ZipApart z TI TO i1 i2 a b) (hlo : z ≤ S ∧ TI ≤ S ∧ TO ≤ S ∧ i1 ≤ S ∧ i2 ≤ S) (hS' : S ≠ z ∧ S ≠ TI ∧ S ≠ TO ∧ S ≠ i1 ∧ S ≠ i2 ∧ S ≠ a ∧ S ≠ b) (hl : xs.size = ys.size) (hn : xs.size ≤ 1000)
    (hz : ZRec s.heap z TI TO true false .none) (hTI : IsPair s.heap TI (.ref i1) (.ref i2)) (hTO : IsPair s.heap TO .none .none) (h1 : SIt true s.heap i1 a 0) (h2 : SIt true s.heap i2 b 0) (q1 : SSq true s.heap a xs) (q2 : SSq true s.heap b ys)
    (hS : s.heap.get? S = some { cls := .type "list", data := .seq #[] })
    (hR : ∀ h' tk acc c as, (∀ c o, c ≠ S → c ≠ z → c ≠ TO → c ≠ i1 → c ≠ i2 → s.heap.get? c = some o → h'.get? c = some o) → h'.get? S = some { cls := .type "list", dict := none, data := .seq acc c, slots := #[] } → as.length = xs.size → ZPairs xs ys S h' as →
      acc.toList = as.map Value.ref → R (.ok (.ret .none)) { s with heap := h', toks := tk }) :
    wpAny (model prog w) A.in1 (Builtin.«list.__init__» ⟨[.ref S, .ref z], []⟩)
      (fun fin s' => match fin with | .done f => R (.ok f) s' | .again c' => c'.quiet = true ∧ codeAny (model prog w) A c' R s') (fun e s' => R (.error e) s') s := by
  obtain ⟨s1, s2, s3, s4, s5, s6, s7⟩ := hS'
  show wpAny _ _ (do let old ← Builtin.List.listItems (.ref S); Builtin.List.listUpdate (.ref S) (fun _ => #[]); letGo old.toList.reverse; Builtin.List.listExtendWith (.ref S) (.ref z) .none) _ _ s
  refine wpAny_bind ?_
  unfold Builtin.List.listItems
  refine wpAny_bind (wpAny_seqItems hS rfl (wpAny_pure ?_))
  show wpAny _ _ (updateSeq S (fun _ => #[]) >>= fun _ => letGo (#[] : Array Value).toList.reverse >>= fun _ => Builtin.List.listExtendWith (.ref S) (.ref z) .none) _ _ s
  refine wpAny_bind (wpAny_updateSeq hS rfl ?_)
  have e2 := Heap.get?_update_self (Obj.mapSeq (fun _ => (#[] : Array Value))) hS rfl
  generalize hg2 : s.heap.update S (Obj.mapSeq (fun _ => (#[] : Array Value))) = g2 at e2
  have o2 : ∀ c o, c ≠ S → s.heap.get? c = some o → g2.get? c = some o := fun c o hc e => by rw [← hg2]; exact (Heap.get?_update_other _ _ (Ne.symm hc)).trans e
  refine wpAny_bind (wpAny_letGo ?_)
  unfold Builtin.List.listExtendWith
  have z2 := o2 z _ (Ne.symm s1) hz
  have hT : Shared.TypeIs { s with heap := g2 } (.ref z) "zip" := ⟨_, z2, rfl⟩
  refine wpAny_bind (wpAny_typeOf (T := "zip") hT ?_)
  have k1 : Builtin.List.listSameRef (.ref S) (.ref z) = false := by simp [Builtin.List.listSameRef, s1]
  have k2 : (Value.type "zip" == Value.type "list") = false := by decide
  have k3 : (Value.type "zip" == Value.type "tuple") = false := by decide
  simp only [k1, k2, k3, Bool.or_false, Bool.false_eq_true, if_false]
  refine wpAny_bind (zrec_iter (s := { s with heap := g2 }) z2 ?_)
  refine wpAny_bind (wpAny_holding (zip_hint hT ?_))
  refine wpAny_ite_split (fun _ => ?_) (fun q => absurd (by rfl) q)
  refine wpAny_bind (wpAny_rule ?_)
  refine wpAny_bind ?_
  show wpAny _ _ (updateSeq S (·.push .none) >>= fun _ => updateSeq S (·.pop)) _ _ _
  refine wpAny_bind (wpAny_updateSeq e2 rfl ?_)
  have e3 := Heap.get?_update_self (Obj.mapSeq (·.push Value.none)) e2 rfl
  refine wpAny_updateSeq (hz := by seq_fits) e3 rfl ?_
  have e4 := Heap.get?_update_self (Obj.mapSeq (·.pop)) e3 rfl
  have o4 : ∀ c o, c ≠ S → s.heap.get? c = some o → ((g2.update S (Obj.mapSeq (·.push Value.none))).update S (Obj.mapSeq (·.pop))).get? c = some o := fun c o hc e =>
    (Heap.get?_update_other _ _ (Ne.symm hc)).trans ((Heap.get?_update_other _ _ (Ne.symm hc)).trans (o2 c o hc e))
  generalize (g2.update S (Obj.mapSeq (·.push Value.none))).update S (Obj.mapSeq (·.pop)) = g4 at e4 o4
  refine wpAny_pure ⟨plainId_quiet PySem.F.plain_extend_loop _, ?_⟩
  refine zl_loop (s := s) (lo := S) (h1 := s.heap) hh D hlo ⟨Nat.le_refl _, s1, s2, s3, s4, s5, s6, s7⟩ hl hn .none (fun h' tk' acc c as hk hS2 hal G hacc => hR h' tk' acc c as hk hS2 hal G hacc) xs.size 0 g4 _ _ #[] [] (Nat.sub_zero _) (Nat.zero_le _)
    ⟨.inl ⟨false, o4 _ _ (Ne.symm s1) hz, rfl⟩, o4 _ _ (Ne.symm s2) hTI, ⟨_, _, o4 _ _ (Ne.symm s3) hTO⟩, h1.at fun o e => o4 _ _ (Ne.symm s4) e, h2.at fun o e => o4 _ _ (Ne.symm s5) e⟩ (q1.at fun o e => o4 _ _ (Ne.symm s6) e) (q2.at fun o e => o4 _ _ (Ne.symm s7) e)
    (fun c o n0 _ _ _ _ e => o4 c o n0 e) e4 rfl rfl ⟨List.Pairwise.nil, (fun _ h => nomatch h), (fun j d hj => by simp at hj)⟩ (Heap.lt_size e4)
theorem zl_call {Q : Value → Shared → Prop} (hh : A.handled = none) (D : ZipApart z TI TO i1 i2 a b) (hl : xs.size = ys.size) (hn : xs.size ≤ 1000)
    (hz : ZRec s.heap z TI TO true false .none) (hTI : IsPair s.heap TI (.ref i1) (.ref i2)) (hTO : IsPair s.heap TO .none .none) (h1 : SIt true s.heap i1 a 0) (h2 : SIt true s.heap i2 b 0) (q1 : SSq true s.heap a xs) (q2 : SSq true s.heap b ys)
    (hQ : ∀ h' tk acc c as, (∀ c o, c ≠ z → c ≠ TO → c ≠ i1 → c ≠ i2 → s.heap.get? c = some o → h'.get? c = some o) → h'.get? s.heap.objs.size = some { cls := .type "list", dict := none, data := .seq acc c, slots := #[] } → as.length = xs.size → ZPairs xs ys s.heap.objs.size h' as →
      acc.toList = as.map Value.ref → Q (.ref s.heap.objs.size) { s with heap := h', toks := tk }) :
    wpAny (model prog w) A (call (.type "list") [.ref z]) Q E s := by
  refine callType_codes (Q₁ := fun obj s₁ => obj = .ref s.heap.objs.size ∧ s₁ = { s with heap := s.heap.push { cls := .type "list", data := .seq #[] } }) PySem.F.called_list (PySem.F.typeCall_list_1 _) PySem.F.entry_list_init
    (code_list_new _ ⟨rfl, rfl⟩) fun obj s₁ h₁ => ?_
  obtain ⟨rfl, rfl⟩ := h₁
  have hS : (s.heap.push { cls := .type "list", data := .seq #[] }).get? s.heap.objs.size = some { cls := .type "list", data := .seq #[] } := Heap.get?_push_size _ rfl
  have up : ∀ c o, s.heap.get? c = some o → (s.heap.push { cls := .type "list", data := .seq #[] }).get? c = some o := fun c o e => Heap.get?_push_of_some _ e
  have lz := Heap.lt_size hz
  have lTI := Heap.lt_size hTI
  have lTO := Heap.lt_size hTO
  have l1 : i1 < s.heap.objs.size := let ⟨_, e, _⟩ := h1.ob; Heap.lt_size e
  have l2 : i2 < s.heap.objs.size := let ⟨_, e, _⟩ := h2.ob; Heap.lt_size e
  refine ⟨⟨_, hS, rfl⟩, PySem.F.args_list_init_2 _ _, zl_init (A := A.in1) hh D ⟨Nat.le_of_lt lz, Nat.le_of_lt lTI, Nat.le_of_lt lTO, Nat.le_of_lt l1, Nat.le_of_lt l2⟩
    ⟨Nat.ne_of_gt lz, Nat.ne_of_gt lTI, Nat.ne_of_gt lTO, Nat.ne_of_gt l1, Nat.ne_of_gt l2, Nat.ne_of_gt q1.lt, Nat.ne_of_gt q2.lt⟩ hl hn (up _ _ hz) (up _ _ hTI) (up _ _ hTO) (h1.at fun o e => up _ _ e) (h2.at fun o e => up _ _ e) (q1.at fun o e => up _ _ e) (q2.at fun o e => up _ _ e) hS
    (fun h' tk acc c as hk hS' hal G hacc => ?_)⟩
  exact ⟨rfl, hQ h' tk acc c as (fun d o n1 n2 n3 n4 e => hk d o (Nat.ne_of_lt (Heap.lt_size e)) n1 n2 n3 n4 (up _ _ e)) hS' hal G hacc⟩
end
end Cw
end
section
/-! zip(.., strict=True) and list(zip(.., strict=True)) as expressions. -/
namespace Cw
open PySem PySem.Spec PySem.Calls PyProof.Rows L2
theorem callWith_typeK {M : Model} {A : Around} {E : Value → Shared → Prop} {s : Shared} {pos : Pos} {T : String} {args : List (Bool × Sem Value)} {kws : List (Option Str × Sem Value)} {Q : Value → Shared → Prop} (hplain : args.any (·.1) = false) (hk : kws.any (·.1.isNone) = false)
    (h : wpAny M A (evalArgs (.type T) true args kws) (fun a s₁ => wpAny M A (call (.type T) a.pos a.kw) Q E s₁) E s) :
    wpAny M A (callWith pos (.type T) [] args kws) Q E s := by
  unfold callWith
  refine wpAny_bind (wpAny_holding (wpAny_mono h (fun a s₁ h₁ => wpAny_bind (wpAny_standAt ?_)) fun _ _ x => x))
  simp only [hplain, hk, Bool.or_false]
  refine wpAny_bind (wpAny_pure ?_)
  exact wpAny_bind (wpAny_mono h₁ (fun r s₂ hr => wpAny_bind (wpAny_holding (wpAny_point (wpAny_pure hr)))) fun _ _ x => x)
section
variable {X : Cx} {pins : List (Addr × Obj)} {σ : L2.St} {H : Hp} {s : Shared} {a b : Addr} {xs ys : List V}
theorem zipS_of {t1 t2 : Bool} {e e2 : Expr} {ta : TA} {p pos kpos kp : Pos} {j : Nat} {Q : Value → Shared → Prop} (I : Inv X pins σ H s) (hg : Gl X "zip") (hm : X.mg "zip" = none) (ha : PA X [e, e2] ta)
    {R0 : List V → Hp → Prop} (h : ta σ H R0) (hR : ∀ vs H1, R0 vs H1 → ∃ a b xs ys, vs = [.ref a, .ref b] ∧ SqX t1 X.K H1 a xs ∧ SqX t2 X.K H1 b ys ∧ ∀ s2 h', Inv X pins σ H1 s2 → ZNew true t1 t2 s2.heap h' a b → Q (.ref (s2.heap.objs.size + 4)) { s2 with heap := h' })
    (hs : starEach [e, e2] X.env = (false, eval e X.env) :: starEach [e2] X.env := by rfl) (hpl : (backTo pos (starEach [e, e2] X.env)).any (·.1) = false := by rfl) :
    wpAny (model X.prog X.w) X.A (eval (.Call (.Name "zip" p) [e, e2] [⟨some "strict", .Constant (.bool true) j kp, kpos⟩] pos) X.env) Q X.xe s := by
  refine wpAny_Call_Name_kw (ld_blt I hg hm PyProof.Rows.boot_zip ?_)
  refine callWith_typeK hpl rfl ?_
  have hA := ha.run pos pins s σ H _ I h
  rw [hs] at hA ⊢
  refine PyProof.Rows.evalArgs_kwB rfl (thn hA fun us s1 ⟨vs, H1, I1, r1, hr0⟩ => ?_)
  obtain ⟨a, b, xs, ys, ex, hqx, hqy, q⟩ := hR vs H1 hr0
  subst ex
  refine thn ((pk_cons (nm := some "strict") (kpos := kpos) (pe_bl (b := true) (j := j) (pos := kp)) pk_nil).run pos pins s1 σ H1 (fun zs H2 => zs = [V.bl true] ∧ H2 = H1) I1 ⟨rfl, rfl⟩) fun ws s2 ⟨zs, H2, I2, r2, ez, eH⟩ => ?_
  subst ez eH
  obtain ⟨w1, rfl, rw1⟩ := Vals.one r2
  cases rw1
  obtain ⟨u1, u2, rfl, ra, rb⟩ := Vals.two r1
  cases ra
  cases rb
  obtain ⟨_, _, p1⟩ := hqx.at I2
  obtain ⟨_, _, p2⟩ := hqy.at I2
  exact zip_strict p1 p2 fun h' n => q s2 h' I2 n
/-- for .. in zip(e, f, strict=True), two tuples -/
theorem pi_zipS (t1 t2 : Bool) {e e2 : Expr} {ta : TA} {p pos kpos kp tpos : Pos} {j : Nat} {elts : List Expr} {kk : Nat} (hg : Gl X "zip") (hm : X.mg "zip" = none) (ha : PA X [e, e2] ta)
    (hs : starEach [e, e2] X.env = (false, eval e X.env) :: starEach [e2] X.env := by rfl) (hpl : (backTo pos (starEach [e, e2] X.env)).any (·.1) = false := by rfl) :
    PI X (.Tuple elts kk tpos) (.Call (.Name "zip" p) [e, e2] [⟨some "strict", .Constant (.bool true) j kp, kpos⟩] pos) (iZip2 X.K true t1 t2 ta) := by
  refine ⟨fun pins s σ H R I h => ?_⟩
  exact zipS_of (t1 := t1) (t2 := t2) I hg hm ha h (fun vs H1 ⟨a, b, xs, ys, ex, hqx, hqy, q⟩ => ⟨a, b, xs, ys, ex, hqx, hqy, fun s2 h' I2 n => zip_pie I2 hqx hqy n q⟩) hs hpl
/-- the pairs at ts -/
def PairsAt (H : Hp) (xs ys : List V) (ts : List Addr) : Prop := ts.length = xs.length ∧ ∀ (j : Nat) (t : Addr), ts[j]? = some t → ∃ x y, xs[j]? = some x ∧ ys[j]? = some y ∧ H t = some (.tup [x, y])
def tListZip (K : PySem.W.Frag) (ta : TA) : TE := fun σ H Q => ta σ H fun vs H1 => ∃ (a b : Addr) (xs ys : List V), vs = [.ref a, .ref b] ∧ SqT K H1 a xs ∧ SqT K H1 b ys ∧ xs.length = ys.length ∧ xs.length ≤ 1000 ∧
  ∀ (H' : Hp) (p : Addr) (ts : List Addr), Same H1 H' → H1 p = none → H' p = some (.lst (ts.map V.ref)) → PairsAt H' xs ys ts → Q (.ref p) H'
/-- H with the list at p and the pairs at ts -/
def laidZ (H : Hp) (p : Addr) (ts : List Addr) (xs ys : List V) : Hp := fun c => if c = p then some (.lst (ts.map V.ref)) else match ts.findIdx? (· == c) with
  | some j => some (.tup [xs.getD j .non, ys.getD j .non])
  | none => H c
theorem idx_of {ts : List Addr} (nd : ts.Nodup) {j : Nat} {t : Addr} (h : ts[j]? = some t) : ts.findIdx? (· == t) = some j := by
  obtain ⟨hj, e⟩ := List.getElem?_eq_some_iff.mp h
  rw [List.findIdx?_eq_some_iff_getElem]
  refine ⟨hj, by rw [e]; exact beq_self_eq_true _, fun k hk => ?_⟩
  have ne : ts[k] ≠ t := fun q => absurd ((List.getElem_inj nd).mp (q.trans e.symm)) (Nat.ne_of_lt hk)
  simp [ne]
theorem idx_none {ts : List Addr} {c : Addr} (h : c ∉ ts) : ts.findIdx? (· == c) = none := by
  rw [List.findIdx?_eq_none_iff]
  intro x hx
  exact beq_eq_false_iff_ne.mpr fun e => h (e ▸ hx)
theorem zip_laid {h' : Heap} {tk : Nat} {p : Addr} {us ws : List Value} {acc : Array Value} {c : Nat} {ts : List Addr} (I : Inv X pins σ H s) (hl : xs.length = ys.length) (hz : xs.length ≤ 1000) (rx : Vals xs us) (ry : Vals ys ws)
    (hk : ∀ b o, s.heap.get? b = some o → h'.get? b = some o) (hp : s.heap.objs.size ≤ p) (hS : h'.get? p = some { cls := .type "list", dict := none, data := .seq acc c, slots := #[] }) (ht : ts.length = xs.length) (G : ZPairs us.toArray ws.toArray p h' ts) (hacc : acc.toList = ts.map Value.ref) :
    Inv X pins σ (laidZ H p ts xs ys) { s with heap := h', toks := tk } ∧ Same H (laidZ H p ts xs ys) ∧ H p = none ∧ laidZ H p ts xs ys p = some (.lst (ts.map V.ref)) ∧ PairsAt (laidZ H p ts xs ys) xs ys ts := by
  have nd : ts.Nodup := List.Pairwise.imp (fun {a b} (h : a < b) => Nat.ne_of_lt h) G.rise
  have pn : p ∉ ts := fun z => Nat.lt_irrefl _ (G.above _ z)
  have new : ∀ t ∈ ts, H t = none := fun t ht => I.hok.fresh (Nat.le_trans hp (Nat.le_of_lt (G.above t ht)))
  have newp : H p = none := I.hok.fresh hp
  have eP : laidZ H p ts xs ys p = some (.lst (ts.map V.ref)) := by unfold laidZ; rw [if_pos rfl]
  have atT : ∀ (j : Nat) (t : Addr), ts[j]? = some t → laidZ H p ts xs ys t = some (.tup [xs.getD j .non, ys.getD j .non]) := fun j t h => by
    have ne : t ≠ p := fun q => pn (q ▸ List.mem_of_getElem? h)
    unfold laidZ
    rw [if_neg ne, idx_of nd h]
  have off : ∀ d, d ∉ ts → d ≠ p → laidZ H p ts xs ys d = H d := fun d h1 h2 => by
    unfold laidZ
    rw [if_neg h2, idx_none h1]
  have kp : ∀ d u, H d = some u → laidZ H p ts xs ys d = some u := fun d u e => by
    rw [off d (fun z => by rw [new d z] at e; cases e) (fun z => by rw [z, newp] at e; cases e)]
    exact e
  have low : ∀ d o, s.heap.get? d = some o → d ∉ ts ∧ d ≠ p := fun d o e => ⟨fun z => absurd (Heap.lt_size e) (Nat.not_lt.mpr (Nat.le_trans hp (Nat.le_of_lt (G.above d z)))), fun z => absurd (Heap.lt_size e) (by rw [z]; exact Nat.not_lt.mpr hp)⟩
  have pr : ∀ (j : Nat) (t : Addr), ts[j]? = some t → ∃ x y u w, xs[j]? = some x ∧ ys[j]? = some y ∧ RelV x u ∧ RelV y w ∧ h'.get? t = some { cls := .type "tuple", data := .seq #[u, w] } := fun j t h => by
    obtain ⟨u, w, e1, e2, e3⟩ := G.pairs j t h
    have hj : j < xs.length := by rw [← ht]; exact (List.getElem?_eq_some_iff.mp h).1
    have hj2 : j < ys.length := by omega
    obtain ⟨u', e1', r1⟩ := rx.get (List.getElem?_eq_getElem hj)
    obtain ⟨w', e2', r2⟩ := ry.get (List.getElem?_eq_getElem hj2)
    have f1 : us[j]? = some u := by simpa using e1
    have f2 : ws[j]? = some w := by simpa using e2
    rw [f1] at e1'; cases e1'
    rw [f2] at e2'; cases e2'
    exact ⟨_, _, u, w, List.getElem?_eq_getElem hj, List.getElem?_eq_getElem hj2, r1, r2, e3⟩
  refine ⟨?_, kp, newp, eP, ht, fun j t h => ?_⟩
  · refine I.call' (ch := []) rfl ⟨fun b o q _ _ _ => hk b o q, fun b o q _ _ _ => ⟨o.slots, hk b o q⟩, fun b o q n _ => ?_, fun b o q _ => ⟨o, hk b o q⟩, fun b xs q => kp b _ q, fun b o u q => kp b _ q, fun b ps q => ⟨#[], by rw [kp b _ q]; simp⟩⟩ (fun d u q => ?_) I.bare fun b z => by simp at z
    · obtain ⟨z1, z2⟩ := low b o q
      rw [off b z1 z2]
      exact n
    · by_cases hd : d ∈ ts
      · obtain ⟨j, ej⟩ := List.mem_iff_getElem?.mp hd
        rw [atT j d ej] at q
        cases q
        obtain ⟨x, y, u, w, f1, f2, r1, r2, e3⟩ := pr j d ej
        have g1 : xs.getD j .non = x := by rw [List.getD_eq_getElem?_getD, f1]; rfl
        have g2 : ys.getD j .non = y := by rw [List.getD_eq_getElem?_getD, f2]; rfl
        rw [g1, g2]
        exact ⟨by show 2 ≤ sizeLine; decide, [u, w], .cons r1 (.cons r2 .nil), ⟨_, e3, rfl, _, rfl⟩⟩
      · by_cases hd2 : d = p
        · subst hd2
          rw [eP] at q
          cases q
          refine ⟨by rw [List.length_map, ht]; exact Nat.le_trans hz (by decide), acc.toList, c, by rw [hacc]; exact LiI.vals_refs ts, ?_⟩
          rw [Array.toArray_toList]
          exact hS
        · rw [off d hd hd2] at q
          exact (I.hok d u q).stay (fun e v _ y => hk e v y) (fun e y => kp e _ y) fun e xs y => kp e _ y
  · obtain ⟨x, y, u, w, f1, f2, _⟩ := pr j t h
    refine ⟨x, y, f1, f2, ?_⟩
    rw [atT j t h, List.getD_eq_getElem?_getD, List.getD_eq_getElem?_getD, f1, f2]
    rfl
theorem pe_listZip {e e2 : Expr} {ta : TA} {pl p pos zpos kpos kp : Pos} {j : Nat} (hc : X.calm = true) (hgl : Gl X "list") (hml : X.mg "list" = none) (hvl : bootBuiltins "list" = some (.type "list")) (hg : Gl X "zip") (hm : X.mg "zip" = none) (ha : PA X [e, e2] ta)
    (hs : starEach [e, e2] X.env = (false, eval e X.env) :: starEach [e2] X.env := by rfl) (hpl : (backTo zpos (starEach [e, e2] X.env)).any (·.1) = false := by rfl)
    (hst : starEach [.Call (.Name "zip" p) [e, e2] [⟨some "strict", .Constant (.bool true) j kp, kpos⟩] zpos] X.env = (false, eval (.Call (.Name "zip" p) [e, e2] [⟨some "strict", .Constant (.bool true) j kp, kpos⟩] zpos) X.env) :: starEach [] X.env := by rfl) :
    PE X (.Call (.Name "list" pl) [.Call (.Name "zip" p) [e, e2] [⟨some "strict", .Constant (.bool true) j kp, kpos⟩] zpos] [] pos) (tListZip X.K ta) := by
  refine ⟨fun pins s σ H Q I h => ?_⟩
  refine wpAny_Call_Name_kw (ld_blt I hgl hml hvl ?_)
  refine PyProof.Rows.callWith_type1 ?_ hst rfl
  rw [hst]
  show wpAny _ _ (spliced ((false, eval (.Call (.Name "zip" p) [e, e2] [⟨some "strict", .Constant (.bool true) j kp, kpos⟩] zpos) X.env) :: backTo pos (starEach [] X.env))) _ _ s
  refine Calls.spliced_cons ?_
  refine zipS_of (t1 := true) (t2 := true) I hg hm ha h (fun vs H1 ⟨a, b, xs, ys, ex, hqx, hqy, hl, hz, q⟩ => ⟨a, b, xs, ys, ex, hqx, hqy, fun s2 h' I2 n => Calls.spliced_nil ?_⟩) hs hpl
  obtain ⟨its, rx, p1⟩ := SqX.at (t := true) I2 hqx
  obtain ⟨its2, ry, p2⟩ := SqX.at (t := true) I2 hqy
  have l1 := rx.length
  have l2 := ry.length
  refine zl_call (s := { s2 with heap := h' }) (xs := its.toArray) (ys := its2.toArray) (I2.ok.hd hc) (PySem.W.ktu_apart s2.heap.objs.size a b p1.lt p2.lt) (by simp; omega) (by simp; omega) n.z n.TI n.TO n.i1 n.i2 (p1.at fun o e => n.keep _ _ e) (p2.at fun o e => n.keep _ _ e) fun h2 tk acc c ts hk hS hal G hacc => ?_
  have hk2 : ∀ b o, s2.heap.get? b = some o → h2.get? b = some o := fun b o e => by
    have hb := Heap.lt_size e
    exact hk b o (Nat.ne_of_lt (Nat.lt_add_right 4 hb)) (Nat.ne_of_lt (Nat.lt_add_right 3 hb)) (Nat.ne_of_lt hb) (Nat.ne_of_lt (Nat.lt_add_right 1 hb)) (n.keep b o e)
  have hp : s2.heap.objs.size ≤ h'.objs.size := by rw [n.sz]; exact Nat.le_add_right _ _
  obtain ⟨J, k1, k2, k3, k4⟩ := zip_laid (tk := tk) I2 hl hz rx ry hk2 hp hS (by rw [hal, List.size_toArray]; omega) G hacc
  exact ⟨.ref _, _, J, rfl, q _ _ ts k1 k2 k3 k4⟩
end
end Cw
end
section
/-! CwT: tuples of which it is known that they bear no dict of their own: laid as known objects; dict(t) of them. -/
namespace Cw
open PySem PySem.Spec PyProof.Rows L2

/-- a tuple without a dict of its own: a known object, or one that stands in the written part -/
def TupS (K : PySem.W.Frag) (H : Hp) (a : Addr) (xs : List V) : Prop :=
  (∃ o : Obj, o.dict = none ∧ H a = some (.frz o (.tup xs))) ∨
    ∃ (o : Obj) (its : Array Value) (n : Nat), K.lookup a = some o ∧ o.cls = .type "tuple" ∧ o.dict = none ∧ o.data = .seq its n ∧ its.size ≤ sizeLine ∧ Vals xs its.toList
theorem TupS.sq {K : PySem.W.Frag} {H : Hp} {a : Addr} {xs : List V} (h : TupS K H a xs) : SqT K H a xs := by
  rcases h with ⟨o, _, h⟩ | ⟨o, its, n, h1, h2, _, h3, h4, h5⟩
  · exact .inl (.inr ⟨o, h⟩)
  · exact .inr ⟨o, its, n, h1, h2, h3, h4, h5⟩
/-- what is laid -/
def QTup (xs : List V) (H : Hp) (Q : VK) : Prop := ∀ (p : Addr) (o : Obj), H p = none → o.dict = none → Q (.ref p) (upd H p (.frz o (.tup xs)))
section
variable {X : Cx} {pins : List (Addr × Obj)} {σ : L2.St} {H : Hp} {s : Shared} {a : Addr} {xs : List V}
theorem TupS.plain (I : Inv X pins σ H s) (h : TupS X.K H a xs) : ∃ its : List Value, Vals xs its ∧ PlainSeq "tuple" s.heap a its.toArray ∧ xs.length ≤ sizeLine := by
  rcases h with ⟨o, hd, h⟩ | ⟨o, its, n, h1, h2, hd, h3, h4, h5⟩
  · obtain ⟨e, z, its, r, o', e', hc, n, hs⟩ := (show ObjOk X.prog X.w H s.heap a (.frz o (.tup xs)) from I.hok a _ h)
    rw [e] at e'
    obtain rfl := Option.some.inj e'
    exact ⟨its, r, ⟨o, n, e, hc, hd, hs⟩, z⟩
  · refine ⟨its.toList, h5, ⟨o, n, I.kIn a o h1, h2, hd, by simpa using h3⟩, ?_⟩
    have := h5.length
    simp only [Array.length_toList] at this
    omega
theorem Inv.laidT {h' : Heap} {t' : Nat} {its : List Value} (I : Inv X pins σ H s) (k : ∀ b u, s.heap.get? b = some u → h'.get? b = some u) (hp : s.heap.objs.size ≤ a) (e : h'.get? a = some { cls := .type "tuple", data := .seq its.toArray }) (r : Vals xs its) (z : xs.length ≤ sizeLine) :
    Inv X pins σ (upd H a (.frz { cls := .type "tuple", data := .seq its.toArray } (.tup xs))) { s with heap := h', toks := t' } := by
  refine L2.Inv.laid I k hp ?_
  show h'.get? a = some _ ∧ _
  refine ⟨e, z, its, r, ⟨_, e, rfl, _, rfl⟩⟩
end
section
variable {X : Cx} {es : List Expr} {t : TA} {pos : Pos}
def tTupS (t : TA) : TE := fun σ H Q => t σ H fun xs H1 => xs.length ≤ sizeLine ∧ QTup xs H1 Q
theorem pe_tupS {j} (h : PA X es t) : PE X (.Tuple es j pos) (tTupS t) := by
  constructor
  intro pins s σ H Q I hq
  refine wpAny_Tuple_spliced (thn (h.run pos pins s σ H _ I hq) fun us s1 h1 => ?_)
  obtain ⟨xs, H1, I1, r, z, q⟩ := h1
  refine ⟨by rw [← r.length]; exact z, .ref s1.heap.objs.size, _, Inv.laidT (t' := s1.toks) I1 (fun b u e => Heap.get?_push_of_some _ e) (Nat.le_refl _) (Heap.get?_push_size _ rfl) r z, rfl, q _ _ (L2.Inv.fresh I1) rfl⟩
/-- tuple(e) of a list, of a tuple -/
def rTupleS (K : PySem.W.Frag) : List V → Hp → VK → Prop := fun xs H Q => ∃ p ys, xs = [.ref p] ∧ ((SqL K H p ys ∧ QTup ys H Q) ∨ (SqT K H p ys ∧ Q (.ref p) H))
theorem cr_tupleS : CallR X (.type "tuple") (rTupleS X.K) := by
  intro pins s σ H xs us Q I r h
  obtain ⟨p, ys, rfl, h⟩ := h
  obtain ⟨u, rfl, rx⟩ := vals1 r
  obtain rfl : u = .ref p := rx
  cases h with
  | inl h =>
    obtain ⟨its, rv, pl, hz⟩ := I.list h.1
    have hn := rv.length
    refine call_tuple_list pl.isList (fun h' kp => ?_) (by rw [List.size_toArray, ← hn]; exact hz)
    have I1 : Inv X pins σ H { s with heap := h' } := I.kept (t' := s.toks) kp
    have I2 := Inv.laidT (t' := s.toks) (h' := h'.push { cls := .type "tuple", data := .seq its.toArray }) I1 (fun b o e => Heap.get?_push_of_some _ e) (Nat.le_refl _) (Heap.get?_push_size _ rfl) rv hz
    exact ⟨.ref h'.objs.size, _, I2, rfl, h.2 _ _ (L2.Inv.fresh I1) rfl⟩
  | inr h =>
    obtain ⟨its, rv, pl, _⟩ := I.tuple h.1
    exact call_tuple_same pl ⟨.ref p, H, I, rfl, h.2⟩
/-- t + u of tuples -/
def rCatS (K : PySem.W.Frag) : R2 := fun x y H Q => ∃ a b xs ys, x = .ref a ∧ y = .ref b ∧ SqT K H a xs ∧ SqT K H b ys ∧ xs.length + ys.length ≤ sizeLine ∧
  (xs = [] → Q (.ref b) H) ∧ (ys = [] → Q (.ref a) H) ∧ QTup (xs ++ ys) H Q
theorem op_catS : OpR X (binaryOp .Add) (rCatS X.K) := by
  intro pins s σ H x y v u Q I rx ry h
  obtain ⟨a, b, xs, ys, rfl, rfl, ha, hb, hz, q0, q1, q2⟩ := h
  obtain rfl : v = .ref a := rx
  obtain rfl : u = .ref b := ry
  obtain ⟨vs, r1, p1, _⟩ := I.tuple ha
  obtain ⟨ws, r2, p2, _⟩ := I.tuple hb
  by_cases hx : xs = []
  · subst hx
    cases r1
    exact cat_tup0 p1 p2 ⟨.ref b, H, I, rfl, q0 rfl⟩
  · refine HT.cat_tup p1 p2 (fun z => hx (r1.nil_iff.mp z)) (fun z => ⟨.ref a, H, I, rfl, q1 (r2.nil_iff.mp z)⟩) (fun _ => ?_) (by rw [← r1.length, ← r2.length]; exact hz)
    exact ⟨.ref s.heap.objs.size, _, Inv.laidT (t' := s.toks) I (fun b o e => Heap.get?_push_of_some _ e) (Nat.le_refl _) (Heap.get?_push_size _ rfl) (r1.append r2) (by rw [List.length_append]; exact hz), rfl, q2 _ _ (L2.Inv.fresh I) rfl⟩
/-- t[lo:hi] of a tuple -/
def rSlS (K : PySem.W.Frag) : V → Option Int → Option Int → Hp → VK → Prop := fun x lo hi H Q => ∃ a xs, x = .ref a ∧ SqT K H a xs ∧ (cutV xs lo hi = xs → Q (.ref a) H) ∧ QTup (cutV xs lo hi) H Q
theorem cutV_whole {xs : List V} {lo hi : Option Int} (h : HT.sIx xs.length 0 lo = 0 ∧ HT.sIx xs.length xs.length hi = xs.length) : cutV xs lo hi = xs := by
  unfold cutV
  rw [h.1, h.2]
  simp
theorem sl_tupS : SlR X (rSlS X.K) := by
  intro pins s σ H x v vl vu lo hi sl Q I rx hs pl pu h
  obtain ⟨a, xs, rfl, hx, q1, q2⟩ := h
  obtain rfl : v = .ref a := rx
  obtain ⟨its, r, ht, hz⟩ := I.tuple hx
  have hlen : its.toArray.size = xs.length := by rw [List.size_toArray, r.length]
  refine ⟨"tuple", _, PyProof.Rows.slot_tuple_getitem.lookup, ht.typeIs, ?_⟩
  by_cases hw : HT.sIx xs.length 0 lo = 0 ∧ HT.sIx xs.length xs.length hi = xs.length
  · exact getItem_tuple_whole ht hs pl pu (by rw [hlen]; exact hw) ⟨.ref a, H, I, rfl, q1 (cutV_whole hw)⟩
  · refine HT.getItem_tuple_cut ht hs pl pu (by rw [hlen]; exact hw) ?_ (by rw [hlen]; exact hz)
    rw [hlen]
    have rr : Vals (cutV xs lo hi) _ := (r.drop (HT.sIx xs.length 0 lo)).take (HT.sIx xs.length xs.length hi - HT.sIx xs.length 0 lo)
    exact ⟨.ref s.heap.objs.size, _, Inv.laidT (t' := s.toks) I (fun b o e => Heap.get?_push_of_some _ e) (Nat.le_refl _) (Heap.get?_push_size _ rfl) rr (Nat.le_trans (cutV_length xs lo hi) hz), rfl, q2 _ _ (L2.Inv.fresh I) rfl⟩
/-- dict(e) of a tuple of pairs -/
theorem pairs_at {pins : List (Addr × Obj)} {σ : L2.St} {H : Hp} {s : Shared} (I : Inv X pins σ H s) : ∀ {ps : List Addr} {kvs : List (Key × V)}, Paired (fun p kv => SqT X.K H p [kV kv.1, kv.2]) ps kvs →
    ∃ prs : List (Value × Value), ∃ rs : List (Key × Value), KV kvs rs ∧ prs.length = ps.length ∧ rs.length = ps.length ∧ ∀ (j : Nat) (k v : Value), prs[j]? = some (k, v) → ∃ (b : Addr) (key : Key), ps[j]? = some b ∧ IsTup s.heap b #[k, v] ∧ rs[j]? = some (key, v) ∧ keyIs key k = true
  | _, _, .nil => ⟨[], [], .nil, rfl, rfl, fun j k v e => by simp at e⟩
  | _, _, .cons (a := p) (b := kv) h t => by
    obtain ⟨prs, rs, rel, l1, l2, hp⟩ := pairs_at I t
    obtain ⟨its, rv, ht, _⟩ := I.tuple h
    obtain ⟨u, y, rfl, ru, ry⟩ := vals2 rv
    refine ⟨(u, y) :: prs, (kv.1, y) :: rs, .cons ⟨rfl, ry⟩ rel, by simp [l1], by simp [l2], fun j k v e => ?_⟩
    cases j with
    | zero =>
      obtain ⟨rfl, rfl⟩ : u = k ∧ y = v := by simpa using e
      exact ⟨p, kv.1, rfl, ht, rfl, kV_is (P := X.prog) (w := X.w) ru⟩
    | succ j =>
      obtain ⟨b, key, e1, e2, e3, e4⟩ := hp j k v (by simpa using e)
      exact ⟨b, key, by simpa using e1, e2, by simpa using e3, e4⟩
def rDictT (K : PySem.W.Frag) : List V → Hp → VK → Prop := fun xs H Q => ∃ (a : Addr) (ps : List Addr) (kvs : List (Key × V)), xs = [.ref a] ∧ TupS K H a (ps.map V.ref) ∧ Paired (fun p kv => SqT K H p [kV kv.1, kv.2]) ps kvs ∧
  ∀ p, H p = none → Q (.ref p) (upd H p (.dK (mergeK [] kvs)))
theorem cr_dictT (hcalm : X.calm = true) : CallR X (.type "dict") (rDictT X.K) := by
  intro pins s σ H xs us Q I r q
  obtain ⟨a, ps, kvs, rfl, hq, hp, q⟩ := q
  obtain ⟨u, rfl, rx⟩ := vals1 r
  obtain rfl : u = .ref a := rx
  obtain ⟨its, rv, pl, hz⟩ := hq.plain I
  have ei := refs_at rv
  subst ei
  rw [List.length_map] at hz
  obtain ⟨prs, rs, rel, l1, l2, hpr⟩ := pairs_at I hp
  have hit : PairItems s.heap (ps.map Value.ref).toArray (fun j => ps.getD j 0) prs := by
    refine ⟨by simp [l1], fun j k v e => ?_⟩
    obtain ⟨b, key, e1, e2, _⟩ := hpr j k v e
    have eb : ps.getD j 0 = b := by rw [List.getD_eq_getElem?_getD, e1]; rfl
    refine ⟨by simp [e1, eb], .inl ?_⟩
    show s.heap.IsTuple (ps.getD j 0) _
    rw [eb]
    obtain ⟨o, ho, hc, n, hd⟩ := e2
    exact ⟨o, ho, hc, n, hd⟩
  refine PySem.call_dict_pairs (knd := mixKind X.prog X.w) (kvs := rs) (PairArg.tuple a _ _ prs) (I.ok.hd hcalm) ⟨pl, hit⟩ ⟨by rw [l1, l2], fun i k v e => ?_⟩ (by rw [l1]; exact hz) fun h' tk hd' k => ?_
  · obtain ⟨b, key, _, _, e3, e4⟩ := hpr i k v e
    exact ⟨key, e3, e4⟩
  · have hm : (s.heap.objs.size == sysModules) = false := beq_eq_false_iff_ne.mpr (Nat.ne_of_gt (L2.Inv.big I))
    have hlen : (mergeK [] kvs).length ≤ sizeLine := by
      refine Nat.le_trans (length_mergeK kvs []) ?_
      rw [List.length_nil, Nat.zero_add, rel.length, l2]
      exact hz
    exact ⟨.ref s.heap.objs.size, upd H s.heap.objs.size (.dK (mergeK [] kvs)), L2.Inv.laid I (t' := tk) (fun b o e => k b o (by simp) e) (Nat.le_refl _) (show ObjOk X.prog X.w _ _ _ (.dK (mergeK [] kvs)) from ⟨hlen, hm, merged [] rs, KV.merge rel .nil, hd'⟩), rfl, q _ (L2.Inv.fresh I)⟩
end
end Cw
end
section
/-! CwM1: an abstract store under the hand layer: values that know no address, objects by number. -/
namespace Cw
open PySem PySem.Spec PyProof.Rows L2

/-- a value: what never changes by itself, or the number of an object of the store -/
inductive Val where
  | non | bl (b : Bool) | int (i : Int) | str (x : Str) | tup (xs : List Val) | lst (xs : List Val) | scr (ns : List Int) | loc (n : Nat)
/-- an object of the store -/
inductive Ob where
  | dead | lst (xs : List Val) | dct (kvs : List (Key × Val)) | dcT (kvs : List (List Key × Val))
abbrev Sto := List Ob
abbrev Env' := List (Option Val)
/-- where the store's objects stand -/
structure Ste where
  μ : List Addr
  H : Hp
  S : Sto
  F : List Addr
/-- an object that may change: the store's, or one that a display or a comprehension is making (F) -/
def Live (st : Ste) (a : Addr) : Prop := a ∈ st.F ∨ ∃ (n : Nat) (o : Ob), st.μ[n]? = some a ∧ st.S[n]? = some o ∧ o ≠ .dead
/-- a known list of ints (the script) -/
def ScrAt (K : PySem.W.Frag) (H : Hp) (a : Addr) (xs : List V) : Prop := (∃ o, H a = some (.frz o (.lst xs))) ∨
  ∃ (o : Obj) (its : Array Value) (n : Nat), K.lookup a = some o ∧ o.cls = .type "list" ∧ o.dict = none ∧ o.data = .seq its n ∧ its.size ≤ sizeLine ∧ Vals xs its.toList
theorem ScrAt.sq {K : PySem.W.Frag} {H : Hp} {a : Addr} {xs : List V} (h : ScrAt K H a xs) : SqL K H a xs := by
  rcases h with h | h
  · exact .inl (.inr h)
  · exact .inr h

mutual
inductive RepV (K : PySem.W.Frag) (st : Ste) : V → Val → Prop
  | non : RepV K st .non .non
  | bl (b : Bool) : RepV K st (.bl b) (.bl b)
  | int (i : Int) : RepV K st (.int i) (.int i)
  | str (x : Str) : RepV K st (.str x) (.str x)
  | tup {a : Addr} {xs : List V} {vs : List Val} : TupS K st.H a xs → RepVs K st xs vs → RepV K st (.ref a) (.tup vs)
  | lst {a : Addr} {xs : List V} {vs : List Val} : st.H a = some (.lst xs) → ¬ Live st a → RepVs K st xs vs → RepV K st (.ref a) (.lst vs)
  | scr {a : Addr} {ns : List Int} : ScrAt K st.H a (ns.map V.int) → RepV K st (.ref a) (.scr ns)
  | loc {n : Nat} {a : Addr} : st.μ[n]? = some a → RepV K st (.ref a) (.loc n)
inductive RepVs (K : PySem.W.Frag) (st : Ste) : List V → List Val → Prop
  | nil : RepVs K st [] []
  | cons {x : V} {xs : List V} {v : Val} {vs : List Val} : RepV K st x v → RepVs K st xs vs → RepVs K st (x :: xs) (v :: vs)
end
/-- what holds of values stays -/
structure Lv (K : PySem.W.Frag) (st st' : Ste) : Prop where
  tup : ∀ b xs, TupS K st.H b xs → TupS K st'.H b xs
  lst : ∀ b xs, st.H b = some (.lst xs) → ¬ Live st b → st'.H b = some (.lst xs) ∧ ¬ Live st' b
  scr : ∀ b xs, ScrAt K st.H b xs → ScrAt K st'.H b xs
  mu : ∀ (n : Nat) (a : Addr), st.μ[n]? = some a → st'.μ[n]? = some a
  tpx : ∀ (b : Addr) (xs : List V), st.H b = some (.tup xs) → st'.H b = some (.tup xs)
/-- .. and what is being made stays as it is -/
structure Le (K : PySem.W.Frag) (st st' : Ste) : Prop extends Lv K st st' where
  fr : ∀ b, b ∈ st.F → b ∈ st'.F ∧ st'.H b = st.H b
section
variable {K : PySem.W.Frag} {st st' st'' : Ste}
theorem Lv.trans (a : Lv K st st') (b : Lv K st' st'') : Lv K st st'' :=
  ⟨fun c xs h => b.tup c xs (a.tup c xs h), fun c xs h n => let ⟨h1, n1⟩ := a.lst c xs h n; b.lst c xs h1 n1, fun c xs h => b.scr c xs (a.scr c xs h), fun n c h => b.mu n c (a.mu n c h), fun c xs h => b.tpx c xs (a.tpx c xs h)⟩
theorem Le.refl (st : Ste) : Le K st st := ⟨⟨fun _ _ h => h, fun _ _ h n => ⟨h, n⟩, fun _ _ h => h, fun _ _ h => h, fun _ _ h => h⟩, fun _ h => ⟨h, rfl⟩⟩
theorem Le.trans (a : Le K st st') (b : Le K st' st'') : Le K st st'' :=
  ⟨a.toLv.trans b.toLv, fun c h => let ⟨h1, e1⟩ := a.fr c h; let ⟨h2, e2⟩ := b.fr c h1; ⟨h2, e2.trans e1⟩⟩
mutual
theorem RepV.le (e : Lv K st st') : ∀ {x : V} {v : Val}, RepV K st x v → RepV K st' x v
  | _, _, .non => .non
  | _, _, .bl b => .bl b
  | _, _, .int i => .int i
  | _, _, .str s => .str s
  | _, _, .tup h r => .tup (e.tup _ _ h) (RepVs.le e r)
  | _, _, .lst h n r => .lst (e.lst _ _ h n).1 (e.lst _ _ h n).2 (RepVs.le e r)
  | _, _, .scr h => .scr (e.scr _ _ h)
  | _, _, .loc h => .loc (e.mu _ _ h)
theorem RepVs.le (e : Lv K st st') : ∀ {xs : List V} {vs : List Val}, RepVs K st xs vs → RepVs K st' xs vs
  | _, _, .nil => .nil
  | _, _, .cons h r => .cons (RepV.le e h) (RepVs.le e r)
end
theorem RepVs.length : ∀ {xs : List V} {vs : List Val}, RepVs K st xs vs → xs.length = vs.length
  | _, _, .nil => rfl
  | _, _, .cons _ r => by simp [RepVs.length r]
theorem RepVs.get : ∀ {xs : List V} {vs : List Val} {i : Nat} {x : V}, RepVs K st xs vs → xs[i]? = some x → ∃ v, vs[i]? = some v ∧ RepV K st x v
  | _, _, _, _, .nil, e => by simp at e
  | _, _, 0, _, .cons r _, e => by simp at e; subst e; exact ⟨_, rfl, r⟩
  | _, _, i + 1, x, .cons _ t, e => by
    obtain ⟨u, h1, h2⟩ := RepVs.get (i := i) (x := x) t (by simpa using e)
    exact ⟨u, by simpa using h1, h2⟩
theorem RepVs.get' : ∀ {xs : List V} {vs : List Val} {i : Nat} {v : Val}, RepVs K st xs vs → vs[i]? = some v → ∃ x, xs[i]? = some x ∧ RepV K st x v
  | _, _, _, _, .nil, e => by simp at e
  | _, _, 0, _, .cons r _, e => by simp at e; subst e; exact ⟨_, rfl, r⟩
  | _, _, i + 1, x, .cons _ t, e => by
    obtain ⟨u, h1, h2⟩ := RepVs.get' (i := i) (v := x) t (by simpa using e)
    exact ⟨u, by simpa using h1, h2⟩
theorem RepVs.append : ∀ {xs ys : List V} {vs ws : List Val}, RepVs K st xs vs → RepVs K st ys ws → RepVs K st (xs ++ ys) (vs ++ ws)
  | _, _, _, _, .nil, s => s
  | _, _, _, _, .cons r t, s => .cons r (RepVs.append t s)
theorem RepVs.take : ∀ {xs : List V} {vs : List Val} (n : Nat), RepVs K st xs vs → RepVs K st (xs.take n) (vs.take n)
  | _, _, 0, _ => .nil
  | _, _, _ + 1, .nil => .nil
  | _, _, n + 1, .cons r t => .cons r (RepVs.take n t)
theorem RepVs.drop : ∀ {xs : List V} {vs : List Val} (n : Nat), RepVs K st xs vs → RepVs K st (xs.drop n) (vs.drop n)
  | _, _, 0, r => r
  | _, _, _ + 1, .nil => .nil
  | _, _, n + 1, .cons _ t => RepVs.drop n t
theorem RepVs.erase : ∀ {xs : List V} {vs : List Val} (n : Nat), RepVs K st xs vs → RepVs K st (xs.eraseIdx n) (vs.eraseIdx n)
  | _, _, _, .nil => .nil
  | _, _, 0, .cons _ t => t
  | _, _, n + 1, .cons r t => .cons r (RepVs.erase n t)
theorem RepVs.ints : ∀ (ns : List Int), RepVs K st (ns.map V.int) (ns.map Val.int)
  | [] => .nil
  | n :: ns => .cons (.int n) (RepVs.ints ns)
theorem RepVs.ints_of : ∀ {xs : List V} {ns : List Int}, RepVs K st xs (ns.map Val.int) → xs = ns.map V.int
  | [], [], _ => rfl
  | _ :: _, [], h => by cases h
  | [], _ :: _, h => by cases h
  | x :: xs, n :: ns, h => by
    cases h with
    | cons h1 h2 =>
      cases h1
      rw [RepVs.ints_of h2]
      rfl
theorem RepVs.bls_of : ∀ {xs : List V} {bs : List Bool}, RepVs K st xs (bs.map Val.bl) → xs = bs.map V.bl
  | [], [], _ => rfl
  | _ :: _, [], h => by cases h
  | [], _ :: _, h => by cases h
  | x :: xs, n :: ns, h => by
    cases h with
    | cons h1 h2 =>
      cases h1
      rw [RepVs.bls_of h2]
      rfl

/-- entries of a dict -/
inductive RepK {κ : Type} (K : PySem.W.Frag) (st : Ste) : List (κ × V) → List (κ × Val) → Prop
  | nil : RepK K st [] []
  | cons {k : κ} {x : V} {v : Val} {xs : List (κ × V)} {vs : List (κ × Val)} : RepV K st x v → RepK K st xs vs → RepK K st ((k, x) :: xs) ((k, v) :: vs)
theorem RepK.le {κ : Type} (e : Lv K st st') : ∀ {xs : List (κ × V)} {vs : List (κ × Val)}, RepK K st xs vs → RepK K st' xs vs
  | _, _, .nil => .nil
  | _, _, .cons h r => .cons (h.le e) (RepK.le e r)
theorem RepK.length {κ : Type} : ∀ {xs : List (κ × V)} {vs : List (κ × Val)}, RepK K st xs vs → xs.length = vs.length
  | _, _, .nil => rfl
  | _, _, .cons _ r => by simp [RepK.length r]
/-- an object that may change -/
def Chg : HO → Prop
  | .lst _ => True
  | .dK _ => True
  | .dT _ => True
  | _ => False
/-- what stands at an object's address -/
def RepO (K : PySem.W.Frag) (st : Ste) (a : Addr) : Ob → Prop
  | .dead => ∃ xs, st.H a = some (.lst xs)
  | .lst vs => ∃ xs, st.H a = some (.lst xs) ∧ RepVs K st xs vs
  | .dct kvs => ∃ ks, st.H a = some (.dK ks) ∧ RepK K st ks kvs
  | .dcT kvs => ∃ ks, st.H a = some (.dT ks) ∧ RepK K st ks kvs
structure Rep (K : PySem.W.Frag) (st : Ste) : Prop where
  len : st.μ.length = st.S.length
  nd : st.μ.Nodup
  ob : ∀ (n : Nat) (a : Addr) (o : Ob), st.μ[n]? = some a → st.S[n]? = some o → RepO K st a o
  fo : ∀ b, b ∈ st.F → b ∉ st.μ ∧ ∃ u, st.H b = some u ∧ Chg u
theorem RepO.le {a : Addr} {o : Ob} (e : Lv K st st') (h : RepO K st a o) (k : ∀ u, st.H a = some u → st'.H a = some u) : RepO K st' a o := by
  cases o with
  | dead => obtain ⟨xs, e1⟩ := h; exact ⟨xs, k _ e1⟩
  | lst vs => obtain ⟨xs, e1, e2⟩ := h; exact ⟨xs, k _ e1, e2.le e⟩
  | dct vs => obtain ⟨xs, e1, e2⟩ := h; exact ⟨xs, k _ e1, e2.le e⟩
  | dcT vs => obtain ⟨xs, e1, e2⟩ := h; exact ⟨xs, k _ e1, e2.le e⟩
theorem RepO.chg {a : Addr} {o : Ob} (h : RepO K st a o) : ∃ u, st.H a = some u ∧ Chg u := by
  cases o with
  | dead => obtain ⟨xs, e⟩ := h; exact ⟨_, e, trivial⟩
  | lst vs => obtain ⟨xs, e, _⟩ := h; exact ⟨_, e, trivial⟩
  | dct vs => obtain ⟨xs, e, _⟩ := h; exact ⟨_, e, trivial⟩
  | dcT vs => obtain ⟨xs, e, _⟩ := h; exact ⟨_, e, trivial⟩
theorem Rep.at (r : Rep K st) {n : Nat} {o : Ob} (h : st.S[n]? = some o) : ∃ a, st.μ[n]? = some a ∧ RepO K st a o := by
  have hn : n < st.S.length := (List.getElem?_eq_some_iff.mp h).1
  have e : st.μ[n]? = some (st.μ[n]'(by rw [r.len]; exact hn)) := List.getElem?_eq_getElem _
  exact ⟨_, e, r.ob n _ o e h⟩
theorem Rep.mem (r : Rep K st) {n : Nat} {a : Addr} (h : st.μ[n]? = some a) : ∃ o, st.S[n]? = some o ∧ RepO K st a o := by
  have hn : n < st.μ.length := (List.getElem?_eq_some_iff.mp h).1
  have e : st.S[n]? = some (st.S[n]'(by rw [← r.len]; exact hn)) := List.getElem?_eq_getElem _
  exact ⟨_, e, r.ob n a _ h e⟩
theorem Rep.inj (r : Rep K st) {n m : Nat} {a : Addr} (h : st.μ[n]? = some a) (h' : st.μ[m]? = some a) : n = m := by
  obtain ⟨h1, e1⟩ := List.getElem?_eq_some_iff.mp h
  obtain ⟨h2, e2⟩ := List.getElem?_eq_some_iff.mp h'
  exact (List.getElem_inj r.nd).mp (e1.trans e2.symm)
/-- the heap grows, the store stays -/
theorem grow (r : Rep K st) {H' : Hp} (e : ∀ b o, st.H b = some o → H' b = some o) : Le K st ⟨st.μ, H', st.S, st.F⟩ ∧ Rep K ⟨st.μ, H', st.S, st.F⟩ := by
  have l : Le K st ⟨st.μ, H', st.S, st.F⟩ := ⟨⟨fun b xs h => by
      rcases h with ⟨o, hd, h⟩ | h
      · exact .inl ⟨o, hd, e _ _ h⟩
      · exact .inr h, fun b xs h n => ⟨e _ _ h, n⟩, fun b xs h => h.imp (fun ⟨o, h⟩ => ⟨o, e _ _ h⟩) id, fun n a h => h, fun b xs h => e _ _ h⟩, fun b h => ⟨h, by
      obtain ⟨_, u, q, _⟩ := r.fo b h
      rw [q]
      exact e _ _ q⟩⟩
  exact ⟨l, ⟨r.len, r.nd, fun n a o h1 h2 => (r.ob n a o h1 h2).le l.toLv fun u q => e _ _ q, fun b h => let ⟨h1, u, h2, h3⟩ := r.fo b h; ⟨h1, u, e _ _ h2, h3⟩⟩⟩
theorem keep_new {H : Hp} {p : Addr} {u : HO} (h : H p = none) : ∀ b o, H b = some o → upd H p u b = some o := fun b o e => by rw [upd_ne (ne_of_none e h)]; exact e
/-- a new object that the store does not know -/
theorem lay (r : Rep K st) {p : Addr} {u : HO} (h : st.H p = none) : Le K st ⟨st.μ, upd st.H p u, st.S, st.F⟩ ∧ Rep K ⟨st.μ, upd st.H p u, st.S, st.F⟩ := grow r (keep_new h)
theorem Rep.notNew (r : Rep K st) {p : Addr} (h : st.H p = none) : p ∉ st.μ := fun hm => by
  obtain ⟨n, hn⟩ := List.getElem?_of_mem hm
  obtain ⟨o, _, q⟩ := r.mem hn
  obtain ⟨u, e, _⟩ := q.chg
  rw [h] at e; cases e
theorem Rep.notF (r : Rep K st) {p : Addr} (h : st.H p = none) : p ∉ st.F := fun hm => by
  obtain ⟨_, u, e, _⟩ := r.fo p hm
  rw [h] at e; cases e
theorem not_live_new (r : Rep K st) {p : Addr} {u : HO} (h : st.H p = none) : ¬ Live ⟨st.μ, upd st.H p u, st.S, st.F⟩ p := fun z => by
  rcases z with z | ⟨n, o, h1, _⟩
  · exact r.notF h z
  · exact r.notNew h (List.mem_of_getElem? h1)
theorem lay_tup (r : Rep K st) {p : Addr} {o : Obj} {xs : List V} {vs : List Val} (h : st.H p = none) (hd : o.dict = none) (x : RepVs K st xs vs) : RepV K ⟨st.μ, upd st.H p (.frz o (.tup xs)), st.S, st.F⟩ (.ref p) (.tup vs) :=
  .tup (.inl ⟨o, hd, upd_same⟩) (x.le (lay r h).1.toLv)
/-- a new tuple -/
theorem qtup (r : Rep K st) {S' : Sto} {v : Val} {Q : VK} {xs : List V} {vs : List Val} (x : RepVs K st xs vs) (e : st.S = S') (ev : .tup vs = v)
    (k : ∀ z st', st'.S = S' → Le K st st' → Rep K st' → RepV K st' z v → Q z st'.H) : QTup xs st.H Q := fun p o hp hd => by
  subst ev
  exact k _ ⟨st.μ, upd st.H p (.frz o (.tup xs)), st.S, st.F⟩ e (lay r hp).1 (lay r hp).2 (lay_tup r hp hd x)
theorem lay_lst (r : Rep K st) {p : Addr} {xs : List V} {vs : List Val} (h : st.H p = none) (x : RepVs K st xs vs) : RepV K ⟨st.μ, upd st.H p (.lst xs), st.S, st.F⟩ (.ref p) (.lst vs) :=
  .lst upd_same (not_live_new r h) (x.le (lay r h).1.toLv)
theorem TupS.ne {K : PySem.W.Frag} {H : Hp} {a : Addr} {xs : List V} {u w : HO} (hw : H a = some w) (c : Chg w) : ∀ b, TupS K H b xs → TupS K (upd H a u) b xs := fun b h => by
  rcases h with ⟨o, hd, h⟩ | h
  · refine .inl ⟨o, hd, ?_⟩
    rw [upd_ne]
    · exact h
    · intro z
      rw [z, hw] at h
      rw [Option.some.inj h] at c
      exact c
  · exact .inr h
theorem tup_ne {H : Hp} {a : Addr} {u w : HO} (hw : H a = some w) (c : Chg w) : ∀ (b : Addr) (xs : List V), H b = some (.tup xs) → upd H a u b = some (.tup xs) := fun b xs h => by
  rw [upd_ne]
  · exact h
  · intro z
    rw [z, hw] at h
    rw [Option.some.inj h] at c
    exact c
theorem ScrAt.ne {K : PySem.W.Frag} {H : Hp} {a : Addr} {xs : List V} {u w : HO} (hw : H a = some w) (c : Chg w) : ∀ b, ScrAt K H b xs → ScrAt K (upd H a u) b xs := fun b h => by
  rcases h with ⟨o, h⟩ | h
  rotate_left
  · exact .inr h
  refine .inl ⟨o, ?_⟩
  rw [upd_ne]
  · exact h
  · intro z
    rw [z, hw] at h
    rw [Option.some.inj h] at c
    exact c
/-- a new object, not yet named by the store -/
theorem make_le (r : Rep K st) {p : Addr} {u : HO} (h : st.H p = none) : Le K st ⟨st.μ, upd st.H p u, st.S, p :: st.F⟩ := by
  have l := (lay (u := u) r h).1
  refine ⟨⟨l.tup, fun b xs hb n => ⟨(l.lst b xs hb n).1, fun z => ?_⟩, l.scr, l.mu, l.tpx⟩, fun b hb => ⟨List.mem_cons_of_mem _ hb, (l.fr b hb).2⟩⟩
  rcases z with z | z
  · rcases List.mem_cons.mp z with e | z
    · rw [e, h] at hb; cases hb
    · exact n (.inl z)
  · exact n (.inr z)
theorem make_rep (r : Rep K st) {p : Addr} {u : HO} (c : Chg u) (h : st.H p = none) : Rep K ⟨st.μ, upd st.H p u, st.S, p :: st.F⟩ := by
  have e := keep_new (u := u) h
  refine ⟨r.len, r.nd, fun n a o h1 h2 => (r.ob n a o h1 h2).le (make_le r h).toLv fun u q => e _ _ q, fun b hb => ?_⟩
  rcases List.mem_cons.mp hb with z | z
  · subst z
    exact ⟨r.notNew h, u, upd_same, c⟩
  · obtain ⟨h1, w, h2, h3⟩ := r.fo b z
    exact ⟨h1, w, e _ _ h2, h3⟩
/-- what is being made is written -/
theorem forge_lv (r : Rep K st) {a : Addr} {u : HO} (ha : a ∈ st.F) : Lv K st ⟨st.μ, upd st.H a u, st.S, st.F⟩ := by
  obtain ⟨hn, w, hw, c⟩ := r.fo a ha
  refine ⟨fun b xs => TupS.ne hw c b, fun b xs hb n => ⟨?_, n⟩, fun b xs => ScrAt.ne hw c b, fun n a h => h, tup_ne hw c⟩
  show upd st.H a u b = _
  rw [upd_ne]
  · exact hb
  · intro z
    exact n (.inl (z ▸ ha))
theorem forge_rep (r : Rep K st) {a : Addr} {u : HO} (ha : a ∈ st.F) (c : Chg u) : Rep K ⟨st.μ, upd st.H a u, st.S, st.F⟩ := by
  obtain ⟨hn, _⟩ := r.fo a ha
  refine ⟨r.len, r.nd, fun n b o h1 h2 => (r.ob n b o h1 h2).le (forge_lv r ha) fun y q => ?_, fun b hb => ?_⟩
  · show upd st.H a u b = _
    rw [upd_ne (show b ≠ a from fun z => hn (by rw [← z]; exact List.mem_of_getElem? h1))]
    exact q
  · obtain ⟨h1, w, h2, h3⟩ := r.fo b hb
    by_cases e : b = a
    · subst e
      exact ⟨h1, u, upd_same, c⟩
    · exact ⟨h1, w, by show upd st.H a u b = _; rw [upd_ne e]; exact h2, h3⟩
theorem forge_le {st0 : Ste} (l : Le K st0 st) (r0 : Rep K st0) (r : Rep K st) {a : Addr} {u : HO} (ha : a ∈ st.F) (h : st0.H a = none) : Le K st0 ⟨st.μ, upd st.H a u, st.S, st.F⟩ :=
  ⟨l.toLv.trans (forge_lv r ha), fun b hb => ⟨(l.fr b hb).1, by
    show upd st.H a u b = _
    rw [upd_ne (show b ≠ a from fun z => r0.notF h (by rw [← z]; exact hb))]
    exact (l.fr b hb).2⟩⟩
/-- it is done: from now on a value -/
theorem done_lv {F' : List Addr} (hF : ∀ b, b ∈ F' → b ∈ st.F) : Lv K st ⟨st.μ, st.H, st.S, F'⟩ :=
  ⟨fun b xs h => h, fun b xs hb n => ⟨hb, fun z => n (z.imp (hF b) id)⟩, fun b xs h => h, fun n a h => h, fun b xs h => h⟩
theorem done_rep (r : Rep K st) {F' : List Addr} (hF : ∀ b, b ∈ F' → b ∈ st.F) : Rep K ⟨st.μ, st.H, st.S, F'⟩ :=
  ⟨r.len, r.nd, fun n b o h1 h2 => (r.ob n b o h1 h2).le (done_lv hF) fun y q => q, fun b hb => r.fo b (hF b hb)⟩
/-- it is done: from now on the store's (its content may be laid with it) -/
theorem give_lv (r : Rep K st) {a : Addr} {u : HO} {o : Ob} {F' : List Addr} (ha : a ∈ st.F) (hF : ∀ b, b ∈ F' → b ∈ st.F) : Lv K st ⟨st.μ ++ [a], upd st.H a u, st.S ++ [o], F'⟩ := by
  have l := forge_lv (u := u) r ha
  refine ⟨l.tup, fun b xs hb n => ⟨(l.lst b xs hb n).1, fun z => ?_⟩, l.scr, fun n b h => ?_, l.tpx⟩
  · rcases z with z | ⟨m, q, h1, h2, h3⟩
    · exact n (.inl (hF b z))
    · by_cases hm : m < st.μ.length
      · rw [show (st.μ ++ [a])[m]? = st.μ[m]? from List.getElem?_append_left hm] at h1
        rw [show (st.S ++ [o])[m]? = st.S[m]? from List.getElem?_append_left (by rw [← r.len]; exact hm)] at h2
        exact n (.inr ⟨m, q, h1, h2, h3⟩)
      · rw [show (st.μ ++ [a])[m]? = [a][m - st.μ.length]? from List.getElem?_append_right (by omega)] at h1
        cases hk : m - st.μ.length with
        | zero =>
          rw [hk] at h1
          have e : a = b := by simpa using h1
          exact n (.inl (e ▸ ha))
        | succ k => rw [hk] at h1; simp at h1
  · have hn : n < st.μ.length := (List.getElem?_eq_some_iff.mp h).1
    show (st.μ ++ [a])[n]? = some b
    rw [List.getElem?_append_left hn]
    exact h
theorem give_rep (r : Rep K st) {a : Addr} {u : HO} {o : Ob} {F' : List Addr} (ha : a ∈ st.F) (hF : ∀ b, b ∈ F' → b ∈ st.F) (hn : a ∉ F') (ho : RepO K ⟨st.μ ++ [a], upd st.H a u, st.S ++ [o], F'⟩ a o) : Rep K ⟨st.μ ++ [a], upd st.H a u, st.S ++ [o], F'⟩ := by
  have l := give_lv (u := u) (o := o) r ha hF
  obtain ⟨hμ, _⟩ := r.fo a ha
  refine ⟨by simp [r.len], List.nodup_append.mpr ⟨r.nd, by simp, fun c hc b hb => ?_⟩, fun n b q h1 h2 => ?_, fun b hb => ?_⟩
  · have : b = a := by simpa using hb
    rw [this]
    intro z
    exact hμ (z ▸ hc)
  · by_cases hm : n < st.μ.length
    · rw [show (st.μ ++ [a])[n]? = st.μ[n]? from List.getElem?_append_left hm] at h1
      rw [show (st.S ++ [o])[n]? = st.S[n]? from List.getElem?_append_left (by rw [← r.len]; exact hm)] at h2
      refine (r.ob n b q h1 h2).le l fun y z => ?_
      show upd st.H a u b = _
      rw [upd_ne (show b ≠ a from fun z => hμ (by rw [← z]; exact List.mem_of_getElem? h1))]
      exact z
    · have hs : st.S.length ≤ n := by rw [← r.len]; omega
      rw [show (st.μ ++ [a])[n]? = [a][n - st.μ.length]? from List.getElem?_append_right (by omega)] at h1
      rw [show (st.S ++ [o])[n]? = [o][n - st.S.length]? from List.getElem?_append_right hs] at h2
      cases hk : n - st.μ.length with
      | zero =>
        rw [hk] at h1
        rw [← r.len, hk] at h2
        have e1 : a = b := by simpa using h1
        have e2 : o = q := by simpa using h2
        rw [← e1, ← e2]
        exact ho
      | succ k => rw [hk] at h1; simp at h1
  · obtain ⟨h1, w, h2, h3⟩ := r.fo b (hF b hb)
    have hba : b ≠ a := fun z => hn (z ▸ hb)
    refine ⟨fun z => ?_, w, by show upd st.H a u b = _; rw [upd_ne hba]; exact h2, h3⟩
    rcases List.mem_append.mp z with z | z
    · exact h1 z
    · exact hba (by simpa using z)
theorem give_loc (r : Rep K st) {p : Addr} {u : HO} {o : Ob} {F' : List Addr} : RepV K ⟨st.μ ++ [p], upd st.H p u, st.S ++ [o], F'⟩ (.ref p) (.loc st.S.length) := by
  refine .loc ?_
  show (st.μ ++ [p])[st.S.length]? = some p
  rw [← r.len, List.getElem?_append_right (Nat.le_refl _)]
  simp
/-- a new object of the store -/
theorem new_le (r : Rep K st) {p : Addr} {u : HO} {o : Ob} (h : st.H p = none) : Le K st ⟨st.μ ++ [p], upd st.H p u, st.S ++ [o], st.F⟩ := by
  have e := keep_new (u := u) h
  refine ⟨⟨fun b xs h => ?_, fun b xs hb n => ⟨e _ _ hb, fun z => ?_⟩, fun b xs h => h.imp (fun ⟨o, h⟩ => ⟨o, e _ _ h⟩) id, fun n a h => ?_, fun b xs h => e _ _ h⟩, fun b hb => ⟨hb, ((lay (u := u) r h).1.fr b hb).2⟩⟩
  · rcases h with ⟨o, hd, h⟩ | h
    · exact .inl ⟨o, hd, e _ _ h⟩
    · exact .inr h
  · rcases z with z | ⟨m, q, h1, h2, h3⟩
    · exact n (.inl z)
    · by_cases hm : m < st.μ.length
      · rw [show (st.μ ++ [p])[m]? = st.μ[m]? from List.getElem?_append_left hm] at h1
        rw [show (st.S ++ [o])[m]? = st.S[m]? from List.getElem?_append_left (by rw [← r.len]; exact hm)] at h2
        exact n (.inr ⟨m, q, h1, h2, h3⟩)
      · rw [show (st.μ ++ [p])[m]? = [p][m - st.μ.length]? from List.getElem?_append_right (by omega)] at h1
        cases hk : m - st.μ.length with
        | zero =>
          rw [hk] at h1
          have : p = b := by simpa using h1
          rw [this, hb] at h; cases h
        | succ k => rw [hk] at h1; simp at h1
  · have hn : n < st.μ.length := (List.getElem?_eq_some_iff.mp h).1
    show (st.μ ++ [p])[n]? = some a
    rw [List.getElem?_append_left hn]
    exact h
theorem new_rep (r : Rep K st) {p : Addr} {u : HO} {o : Ob} (c : Chg u) (h : st.H p = none) (ho : RepO K ⟨st.μ ++ [p], upd st.H p u, st.S ++ [o], st.F⟩ p o) : Rep K ⟨st.μ ++ [p], upd st.H p u, st.S ++ [o], st.F⟩ := by
  have r1 := make_rep (u := u) r c h
  have e : upd (upd st.H p u) p u = upd st.H p u := upd_upd
  have q := give_rep (u := u) (o := o) (F' := st.F) r1 List.mem_cons_self (fun b hb => List.mem_cons_of_mem _ hb) (r.notF h)
  simp only [e] at q
  exact q ho
theorem new_loc (r : Rep K st) {p : Addr} {u : HO} {o : Ob} : RepV K ⟨st.μ ++ [p], upd st.H p u, st.S ++ [o], st.F⟩ (.ref p) (.loc st.S.length) := by
  refine .loc ?_
  show (st.μ ++ [p])[st.S.length]? = some p
  rw [← r.len, List.getElem?_append_right (Nat.le_refl _)]
  simp
theorem getElem?_set' {α : Type} {l : List α} {n m : Nat} {a b : α} (h : (l.set n a)[m]? = some b) : (m = n ∧ b = a) ∨ (m ≠ n ∧ l[m]? = some b) := by
  by_cases e : m = n
  · subst e
    by_cases hl : m < l.length
    · rw [List.getElem?_set_self hl] at h
      exact .inl ⟨rfl, (Option.some.inj h).symm⟩
    · rw [List.getElem?_eq_none (by simpa using hl)] at h
      cases h
  · rw [List.getElem?_set_ne (fun z => e z.symm)] at h
    exact .inr ⟨e, h⟩
/-- an object of the store is written -/
theorem set_le (r : Rep K st) {n : Nat} {a : Addr} {u : HO} {o o' : Ob} (hm : st.μ[n]? = some a) (hs : st.S[n]? = some o) (hd : o ≠ .dead) : Le K st ⟨st.μ, upd st.H a u, st.S.set n o', st.F⟩ := by
  obtain ⟨w, ew, cw⟩ := (r.ob n a o hm hs).chg
  refine ⟨⟨fun b xs => TupS.ne ew cw b, fun b xs hb hn => ?_, fun b xs => ScrAt.ne ew cw b, fun n a h => h, tup_ne ew cw⟩, fun b hb => ⟨hb, ?_⟩⟩
  · have hba : b ≠ a := fun z => hn (.inr ⟨n, o, by rw [z]; exact hm, hs, hd⟩)
    refine ⟨by show upd st.H a u b = _; rw [upd_ne hba]; exact hb, fun z => ?_⟩
    rcases z with z | ⟨m, q, h1, h2, h3⟩
    · exact hn (.inl z)
    · rcases getElem?_set' h2 with ⟨e, _⟩ | ⟨e, h2⟩
      · subst e
        rw [show st.μ[m]? = some b from h1] at hm
        exact hba (Option.some.inj hm)
      · exact hn (.inr ⟨m, q, h1, h2, h3⟩)
  · show upd st.H a u b = _
    rw [upd_ne (show b ≠ a from fun z => (r.fo b hb).1 (by rw [z]; exact List.mem_of_getElem? hm))]
theorem set_rep (r : Rep K st) {n : Nat} {a : Addr} {u : HO} {o o' : Ob} (hm : st.μ[n]? = some a) (hs : st.S[n]? = some o) (hd : o ≠ .dead) (ho : RepO K ⟨st.μ, upd st.H a u, st.S.set n o', st.F⟩ a o') : Rep K ⟨st.μ, upd st.H a u, st.S.set n o', st.F⟩ := by
  have l := set_le (u := u) (o' := o') r hm hs hd
  refine ⟨by simp [r.len], r.nd, fun m b q h1 h2 => ?_, fun b hb => ?_⟩
  · rcases getElem?_set' h2 with ⟨e, e2⟩ | ⟨e, h2⟩
    · subst e e2
      rw [show st.μ[m]? = some b from h1] at hm
      rw [Option.some.inj hm]
      exact ho
    · have hba : b ≠ a := fun z => e (r.inj (show st.μ[m]? = some a by rw [← z]; exact h1) hm)
      exact (r.ob m b q h1 h2).le l.toLv fun y z => by show upd st.H a u b = _; rw [upd_ne hba]; exact z
  · obtain ⟨h1, w, h2, h3⟩ := r.fo b hb
    exact ⟨h1, w, by rw [(l.fr b hb).2]; exact h2, h3⟩
/-- a list of the store is let go: from now on it is a value -/
theorem kill_le (n : Nat) : Le K st ⟨st.μ, st.H, st.S.set n .dead, st.F⟩ := by
  refine ⟨⟨fun b xs h => h, fun b xs hb hn => ⟨hb, fun z => ?_⟩, fun b xs h => h, fun n a h => h, fun b xs h => h⟩, fun b hb => ⟨hb, rfl⟩⟩
  rcases z with z | ⟨m, q, h1, h2, h3⟩
  · exact hn (.inl z)
  · rcases getElem?_set' h2 with ⟨_, e⟩ | ⟨_, h2⟩
    · exact h3 e
    · exact hn (.inr ⟨m, q, h1, h2, h3⟩)
theorem kill_rep (r : Rep K st) {n : Nat} {vs : List Val} (hs : st.S[n]? = some (.lst vs)) : Rep K ⟨st.μ, st.H, st.S.set n .dead, st.F⟩ := by
  have l := kill_le (K := K) (st := st) n
  refine ⟨by simp [r.len], r.nd, fun m b q h1 h2 => ?_, r.fo⟩
  rcases getElem?_set' h2 with ⟨e, e2⟩ | ⟨e, h2⟩
  · subst e e2
    obtain ⟨xs, e3, _⟩ := r.ob m b _ h1 hs
    exact ⟨xs, e3⟩
  · exact (r.ob m b q h1 h2).le l.toLv fun y z => z
theorem kill_val (r : Rep K st) {n : Nat} {a : Addr} {vs : List Val} (hm : st.μ[n]? = some a) (hs : st.S[n]? = some (.lst vs)) : RepV K ⟨st.μ, st.H, st.S.set n .dead, st.F⟩ (.ref a) (.lst vs) := by
  obtain ⟨xs, e, q⟩ := r.ob n a _ hm hs
  refine .lst e (fun z => ?_) (q.le (kill_le n).toLv)
  rcases z with z | ⟨m, o, h1, h2, h3⟩
  · exact (r.fo a z).1 (List.mem_of_getElem? hm)
  · have e1 : m = n := r.inj h1 hm
    subst e1
    rcases getElem?_set' h2 with ⟨_, e⟩ | ⟨z, _⟩
    · exact h3 e
    · exact z rfl
end

/-! ### the names' values -/
def RepE (K : PySem.W.Frag) (st : Ste) (ρ : Env') (σ : L2.St) : Prop := σ.length = ρ.length ∧ ∀ (i : Nat) (v : Val), ρ[i]? = some (some v) → ∃ x : V, σ[i]? = some (some x) ∧ RepV K st x v
section
variable {K : PySem.W.Frag} {st st' : Ste} {ρ : Env'} {σ : L2.St}
theorem RepE.le (e : Lv K st st') (h : RepE K st ρ σ) : RepE K st' ρ σ := ⟨h.1, fun i v q => let ⟨x, h1, h2⟩ := h.2 i v q; ⟨x, h1, h2.le e⟩⟩
theorem RepE.set (h : RepE K st ρ σ) (i : Nat) {x : V} {v : Val} (r : RepV K st x v) : RepE K st (ρ.set i (some v)) (σ.set i (some x)) := by
  refine ⟨by simp [h.1], fun j w q => ?_⟩
  rcases getElem?_set' q with ⟨e, e2⟩ | ⟨e, q⟩
  · subst e
    have hj : j < ρ.length := by have := (List.getElem?_eq_some_iff.mp q).1; simpa using this
    refine ⟨x, by rw [List.getElem?_set_self (by rw [h.1]; exact hj)], ?_⟩
    rw [Option.some.inj e2]
    exact r
  · obtain ⟨y, h1, h2⟩ := h.2 j w q
    exact ⟨y, by rw [List.getElem?_set_ne (fun z => e z.symm)]; exact h1, h2⟩
theorem RepE.wipe (h : RepE K st ρ σ) : ∀ vs : List Nat, RepE K st (vs.foldr (fun i r => r.set i none) ρ) (L2.wipe σ vs)
  | [] => h
  | i :: vs => by
    have ih := RepE.wipe h vs
    refine ⟨by simp only [List.foldr_cons, L2.wipe, List.length_set]; exact ih.1, fun j w q => ?_⟩
    rcases getElem?_set' (show (List.set _ i none)[j]? = some (some w) from q) with ⟨_, e2⟩ | ⟨e, q⟩
    · cases e2
    · obtain ⟨y, h1, h2⟩ := ih.2 j w q
      exact ⟨y, by show (List.set _ i none)[j]? = _; rw [List.getElem?_set_ne (fun z => e z.symm)]; exact h1, h2⟩
end

/-! ### programs over the store, and the readings they give -/
abbrev MG (α : Type) := Env' → Sto → Option (α × Sto)
abbrev M := MG Val
/-- the widest reading that a program over the store gives -/
def tG {α β : Type} (K : PySem.W.Frag) (R : Ste → β → α → Prop) (m : MG α) : L2.St → Hp → (β → Hp → Prop) → Prop := fun σ H Q =>
  ∃ (st : Ste) (ρ : Env') (v : α) (S' : Sto), st.H = H ∧ Rep K st ∧ RepE K st ρ σ ∧ m ρ st.S = some (v, S') ∧ ∀ x st', st'.S = S' → Le K st st' → Rep K st' → R st' x v → Q x st'.H
abbrev tM (K : PySem.W.Frag) (m : M) : TE := tG K (RepV K) m
abbrev tB' (K : PySem.W.Frag) (m : MG Bool) : TT := tG K (fun _ b c => b = c) m
abbrev tA (K : PySem.W.Frag) (m : MG (List Val)) : TA := tG K (RepVs K) m
theorem tG_intro {α β : Type} {K : PySem.W.Frag} {R : Ste → β → α → Prop} {m : MG α} {σ : L2.St} {H : Hp} {Q : β → Hp → Prop} (st : Ste) (ρ : Env') (v : α) (S' : Sto) (eH : st.H = H) (r : Rep K st) (e : RepE K st ρ σ) (hm : m ρ st.S = some (v, S'))
    (k : ∀ x st', st'.S = S' → Le K st st' → Rep K st' → R st' x v → Q x st'.H) : tG K R m σ H Q := ⟨st, ρ, v, S', eH, r, e, hm, k⟩
theorem PE.imp {X : Cx} {e : Expr} {t t' : TE} (h : PE X e t) (k : ∀ σ H Q, t' σ H Q → t σ H Q) : PE X e t' := ⟨fun pins s σ H Q I q => h.run pins s σ H Q I (k σ H Q q)⟩
theorem PE.or {X : Cx} {e : Expr} {t t' : TE} (h : PE X e t) (h' : PE X e t') : PE X e (fun σ H Q => t σ H Q ∨ t' σ H Q) := ⟨fun pins s σ H Q I q => q.elim (h.run pins s σ H Q I) (h'.run pins s σ H Q I)⟩
theorem PT.imp {X : Cx} {e : Expr} {t t' : TT} (h : PT X e t) (k : ∀ σ H Q, t' σ H Q → t σ H Q) : PT X e t' := ⟨fun pins s σ H Q I q => h.run pins s σ H Q I (k σ H Q q)⟩
theorem PW.imp {X : Cx} {e : Expr} {t t' : TT} (h : PW X e t) (k : ∀ σ H Q, t' σ H Q → t σ H Q) : PW X e t' := ⟨fun whole pins s σ H Q I q => h.run whole pins s σ H Q I (k σ H Q q)⟩
theorem PA.imp {X : Cx} {e : List Expr} {t t' : TA} (h : PA X e t) (k : ∀ σ H Q, t' σ H Q → t σ H Q) : PA X e t' := ⟨fun pos pins s σ H Q I q => h.run pos pins s σ H Q I (k σ H Q q)⟩
theorem PS.imp {X : Cx} {e : Stmt} {t t' : TS} (h : PS X e t) (k : ∀ D σ H, t' D σ H → t D σ H) : PS X e t' := ⟨fun pins s σ H D I q => h.run pins s σ H D I (k D σ H q)⟩
theorem PSs.imp {X : Cx} {e : List Stmt} {t t' : TS} (h : PSs X e t) (k : ∀ D σ H, t' D σ H → t D σ H) : PSs X e t' := ⟨fun pins s σ H D I q => h.run pins s σ H D I (k D σ H q)⟩
theorem PG.imp {X : Cx} {e : Expr} {t t' : TG} (h : PG X e t) (k : ∀ v σ H Q, t' v σ H Q → t v σ H Q) : PG X e t' := ⟨fun pins s σ H x v Q I r q => h.run pins s σ H x v Q I r (k x σ H Q q)⟩
theorem PC.imp {X : Cx} {op : CmpOp} {a b : Expr} {t t' : TE} (h : PC X op a b t) (k : ∀ σ H Q, t' σ H Q → t σ H Q) : PC X op a b t' := ⟨fun pins s σ H Q I q => h.run pins s σ H Q I (k σ H Q q)⟩
theorem PC.or {X : Cx} {op : CmpOp} {a b : Expr} {t t' : TE} (h : PC X op a b t) (h' : PC X op a b t') : PC X op a b (fun σ H Q => t σ H Q ∨ t' σ H Q) := ⟨fun pins s σ H Q I q => q.elim (h.run pins s σ H Q I) (h'.run pins s σ H Q I)⟩
end Cw
end
section
/-! CwM2: expressions over the store. -/
namespace Cw
open PySem PySem.Spec PyProof.Rows L2

/-! ### values as data -/
mutual
def toD : Val → PyData
  | .non => .none
  | .bl b => .bool b
  | .int i => .int i
  | .str x => .str x
  | .tup xs => .tuple (toDs xs)
  | .lst xs => .list (toDs xs)
  | .scr ns => .list (ns.map .int)
  | .loc _ => .none
def toDs : List Val → List PyData
  | [] => []
  | x :: xs => toD x :: toDs xs
end
mutual
def pureV : Val → Bool
  | .tup xs => pureVs xs
  | .lst xs => pureVs xs
  | .loc _ => false
  | _ => true
def pureVs : List Val → Bool
  | [] => true
  | x :: xs => pureV x && pureVs xs
end
def okV (v : Val) : Bool := pureV v && SeqAt.shaped (toD v)
def vEq (a b : Val) : Bool := PyData.eqv (toD a) (toD b)
section
variable {K : PySem.W.Frag} {st st' : Ste}
theorem dpAll_ints {H : Hp} : ∀ ns : List Int, DpAll K H (ns.map V.int) (ns.map PyData.int)
  | [] => .nil
  | n :: ns => .cons (.int n) (dpAll_ints ns)
mutual
theorem RepV.dp : ∀ {x : V} {v : Val}, RepV K st x v → pureV v = true → Dp K st.H x (toD v)
  | _, _, .non, _ => by simp only [toD]; exact .non
  | _, _, .bl b, _ => by simp only [toD]; exact .bl b
  | _, _, .int i, _ => by simp only [toD]; exact .int i
  | _, _, .str s, _ => by simp only [toD]; exact .str s
  | _, _, .tup h r, p => by simp only [toD]; exact .tup h.sq (RepVs.dp r (by simpa [pureV] using p))
  | _, _, .lst h n r, p => by simp only [toD]; exact .lst (.inl (.inl h)) (RepVs.dp r (by simpa [pureV] using p))
  | _, _, .scr h, _ => by simp only [toD]; exact .lst h.sq (dpAll_ints _)
  | _, _, .loc h, p => by simp [pureV] at p
theorem RepVs.dp : ∀ {xs : List V} {vs : List Val}, RepVs K st xs vs → pureVs vs = true → DpAll K st.H xs (toDs vs)
  | _, _, .nil, _ => by simp only [toDs]; exact .nil
  | _, _, .cons h r, p => by
    unfold pureVs at p
    rw [Bool.and_eq_true] at p
    simp only [toDs]
    exact .cons (RepV.dp h p.1) (RepVs.dp r p.2)
end
theorem okV_dp {x : V} {v : Val} (h : okV v = true) (r : RepV K st x v) : Dp K st.H x (toD v) ∧ SeqAt.shaped (toD v) = true := by
  have h' : pureV v = true ∧ SeqAt.shaped (toD v) = true := by simpa [okV] using h
  exact ⟨r.dp h'.1, h'.2⟩
end

/-! ### programs: expressions -/
def mVar (i : Nat) : M := fun ρ S => match ρ[i]? with
  | some (some v) => some (v, S)
  | _ => none
def mC (v : Val) : M := fun _ S => some (v, S)
/-- an operation on values; it may write the store -/
abbrev F1 := Sto → Val → Option (Val × Sto)
abbrev F2 := Sto → Val → Val → Option (Val × Sto)
abbrev FL := Sto → List Val → Option (Val × Sto)
def mUn (f : F1) (a : M) : M := fun ρ S => (a ρ S).bind fun p => f p.2 p.1
def mBin (f : F2) (a b : M) : M := fun ρ S => (a ρ S).bind fun p => (b ρ p.2).bind fun q => f q.2 p.1 q.1
def mNil : MG (List Val) := fun _ S => some ([], S)
def mCons (a : M) (r : MG (List Val)) : MG (List Val) := fun ρ S => (a ρ S).bind fun p => (r ρ p.2).bind fun q => some (p.1 :: q.1, q.2)
def mCall (f : FL) (a : MG (List Val)) : M := fun ρ S => (a ρ S).bind fun p => f p.2 p.1
/-- the reading r does what f says -/
def UnM (K : PySem.W.Frag) (r : V → Hp → VK → Prop) (f : F1) : Prop := ∀ (st : Ste) (x : V) (a v : Val) (S' : Sto) (Q : VK), Rep K st → RepV K st x a → f st.S a = some (v, S') →
  (∀ z st', st'.S = S' → Le K st st' → Rep K st' → RepV K st' z v → Q z st'.H) → r x st.H Q
def OpM (K : PySem.W.Frag) (r : R2) (f : F2) : Prop := ∀ (st : Ste) (x y : V) (a b v : Val) (S' : Sto) (Q : VK), Rep K st → RepV K st x a → RepV K st y b → f st.S a b = some (v, S') →
  (∀ z st', st'.S = S' → Le K st st' → Rep K st' → RepV K st' z v → Q z st'.H) → r x y st.H Q
def CallM (K : PySem.W.Frag) (r : List V → Hp → VK → Prop) (f : FL) : Prop := ∀ (st : Ste) (xs : List V) (vs : List Val) (v : Val) (S' : Sto) (Q : VK), Rep K st → RepVs K st xs vs → f st.S vs = some (v, S') →
  (∀ z st', st'.S = S' → Le K st st' → Rep K st' → RepV K st' z v → Q z st'.H) → r xs st.H Q
def MtdM (K : PySem.W.Frag) (r : V → List V → Hp → VK → Prop) (f : Sto → Val → List Val → Option (Val × Sto)) : Prop := ∀ (st : Ste) (x : V) (xs : List V) (a : Val) (vs : List Val) (v : Val) (S' : Sto) (Q : VK), Rep K st → RepV K st x a → RepVs K st xs vs → f st.S a vs = some (v, S') →
  (∀ z st', st'.S = S' → Le K st st' → Rep K st' → RepV K st' z v → Q z st'.H) → r x xs st.H Q

section
variable {K : PySem.W.Frag} {σ : L2.St} {H : Hp} {Q : VK} {a b : M} {ma : MG (List Val)}
theorem tUn_M {r : V → Hp → VK → Prop} {f : F1} (ho : UnM K r f) (h : tM K (mUn f a) σ H Q) : tUn r (tM K a) σ H Q := by
  obtain ⟨st, ρ, v, S', rfl, hr, he, hm, k⟩ := h
  simp only [mUn, Option.bind_eq_some_iff, Prod.exists] at hm
  obtain ⟨va, S1, h1, h2⟩ := hm
  refine ⟨st, ρ, va, S1, rfl, hr, he, h1, fun x st1 e1 l1 r1 x1 => ?_⟩
  subst e1
  exact ho st1 x va v S' Q r1 x1 h2 fun z st3 e3 l3 r3 x3 => k z st3 e3 (l1.trans l3) r3 x3
theorem tOp_M {r : R2} {f : F2} (ho : OpM K r f) (h : tM K (mBin f a b) σ H Q) : tOp r (tM K a) (tM K b) σ H Q := by
  obtain ⟨st, ρ, v, S', rfl, hr, he, hm, k⟩ := h
  simp only [mBin, Option.bind_eq_some_iff, Prod.exists] at hm
  obtain ⟨va, S1, h1, vb, S2, h2, h3⟩ := hm
  refine ⟨st, ρ, va, S1, rfl, hr, he, h1, fun x st1 e1 l1 r1 x1 => ?_⟩
  subst e1
  refine ⟨st1, ρ, vb, S2, rfl, r1, he.le l1.toLv, h2, fun y st2 e2 l2 r2 x2 => ?_⟩
  subst e2
  exact ho st2 x y va vb v S' Q r2 (x1.le l2.toLv) x2 h3 fun z st3 e3 l3 r3 x3 => k z st3 e3 (l1.trans (l2.trans l3)) r3 x3
theorem tCB_M {r : List V → Hp → VK → Prop} {f : FL} (ho : CallM K r f) (h : tM K (mCall f ma) σ H Q) : tCB r (tA K ma) σ H Q := by
  obtain ⟨st, ρ, v, S', rfl, hr, he, hm, k⟩ := h
  simp only [mCall, Option.bind_eq_some_iff, Prod.exists] at hm
  obtain ⟨va, S1, h1, h2⟩ := hm
  refine ⟨st, ρ, va, S1, rfl, hr, he, h1, fun x st1 e1 l1 r1 x1 => ?_⟩
  subst e1
  exact ho st1 x va v S' Q r1 x1 h2 fun z st3 e3 l3 r3 x3 => k z st3 e3 (l1.trans l3) r3 x3
theorem UnM.or {r r' : V → Hp → VK → Prop} {f g : F1} (h : UnM K r f) (h' : UnM K r' g) : UnM K (fun x H Q => r x H Q ∨ r' x H Q) (fun S a => (f S a).or (g S a)) := by
  intro st x a v S' Q hr hx hf k
  show r x st.H Q ∨ r' x st.H Q
  have hf : (f st.S a).or (g st.S a) = some (v, S') := hf
  cases e : f st.S a with
  | none => rw [e] at hf; exact .inr (h' st x a v S' Q hr hx (by simpa using hf) k)
  | some p => rw [e] at hf; exact .inl (h st x a v S' Q hr hx (by rw [e]; simpa using hf) k)
theorem OpM.or {r r' : R2} {f g : F2} (h : OpM K r f) (h' : OpM K r' g) : OpM K (fun x y H Q => r x y H Q ∨ r' x y H Q) (fun S a b => (f S a b).or (g S a b)) := by
  intro st x y a b v S' Q hr hx hy hf k
  show r x y st.H Q ∨ r' x y st.H Q
  have hf : (f st.S a b).or (g st.S a b) = some (v, S') := hf
  cases e : f st.S a b with
  | none => rw [e] at hf; exact .inr (h' st x y a b v S' Q hr hx hy (by simpa using hf) k)
  | some p => rw [e] at hf; exact .inl (h st x y a b v S' Q hr hx hy (by rw [e]; simpa using hf) k)
end

section
variable {X : Cx} {a b c : Expr} {ma mb mc : M} {pos : Pos}
theorem em_var {i : Nat} {e : Expr} (h : PE X e (tVar i)) : PE X e (tM X.K (mVar i)) := by
  refine PE.imp h fun σ H Q q => ?_
  obtain ⟨st, ρ, v, S', rfl, hr, he, hm, k⟩ := q
  unfold mVar at hm
  cases e : ρ[i]? with
  | none => rw [e] at hm; cases hm
  | some o =>
    cases o with
    | none => rw [e] at hm; cases hm
    | some w =>
      rw [e] at hm
      obtain ⟨rfl, rfl⟩ : w = v ∧ st.S = S' := by simpa using hm
      obtain ⟨x, h1, h2⟩ := he.2 i w e
      exact ⟨x, h1, k x st rfl (Le.refl st) hr h2⟩
theorem em_c {e : Expr} {x : V} {v : Val} (h : PE X e (tC x)) (r : ∀ st, RepV X.K st x v) : PE X e (tM X.K (mC v)) := by
  refine PE.imp h fun σ H Q q => ?_
  obtain ⟨st, ρ, w, S', rfl, hr, he, hm, k⟩ := q
  obtain ⟨rfl, rfl⟩ : v = w ∧ st.S = S' := by simpa [mC] using hm
  exact k x st rfl (Le.refl st) hr (r st)
theorem em_int {i j pos} : PE X (.Constant (.int i) j pos) (tM X.K (mC (.int i))) := em_c pe_int fun _ => .int i
theorem em_bl {i j pos} : PE X (.Constant (.bool i) j pos) (tM X.K (mC (.bl i))) := em_c pe_bl fun _ => .bl i
theorem em_non {j pos} : PE X (.Constant .none j pos) (tM X.K (mC .non)) := em_c pe_non fun _ => .non
theorem em_str {i j pos} : PE X (.Constant (.str i) j pos) (tM X.K (mC (.str i))) := em_c pe_str fun _ => .str i
theorem em_gint {x : Str} {i : Int} {t : Tok} {pos : Pos} (hg : Gl X x) (hm : X.mg x = some (.int i t)) (hd : (x == ("__debug__" : Str)) = false := by decide) : PE X (.Name x pos) (tM X.K (mC (.int i))) := em_c (pe_glob (v := .int i) hg hm ⟨_, rfl⟩ hd) fun _ => .int i
theorem em_gstr {x : Str} {i : Str} {t : Tok} {pos : Pos} (hg : Gl X x) (hm : X.mg x = some (.str i t)) (hd : (x == ("__debug__" : Str)) = false := by decide) : PE X (.Name x pos) (tM X.K (mC (.str i))) := em_c (pe_glob (v := .str i) hg hm ⟨_, rfl⟩ hd) fun _ => .str i
/-- a tuple of the module -/
theorem em_gtup {x : Str} {p : Addr} {xs : List V} {vs : List Val} {pos : Pos} (hg : Gl X x) (hm : X.mg x = some (.ref p)) (ht : ∀ H, TupS X.K H p xs) (hv : ∀ st, RepVs X.K st xs vs) (hd : (x == ("__debug__" : Str)) = false := by decide) : PE X (.Name x pos) (tM X.K (mC (.tup vs))) :=
  em_c (pe_glob hg hm (v := .ref p) rfl hd) fun st => .tup (ht _) (hv st)
theorem em_op {op : Operator} {r : R2} {f : F2} (ho : OpR X (binaryOp op) r) (hf : OpM X.K r f) (ha : PE X a (tM X.K ma)) (hb : PE X b (tM X.K mb)) : PE X (.BinOp a op b pos) (tM X.K (mBin f ma mb)) := PE.imp (pe_op ho ha hb) fun _ _ _ => tOp_M hf
theorem em_un {op : UnaryOp} {r : V → Hp → VK → Prop} {f : F1} (ho : UnR X (unaryOp op) r) (hf : UnM X.K r f) (ha : PE X a (tM X.K ma)) : PE X (.UnaryOp op a pos) (tM X.K (mUn f ma)) := PE.imp (pe_un ho ha) fun _ _ _ => tUn_M hf
theorem pc_op {op : CmpOp} {ta tb : TE} {r : R2} (ho : OpR X (compareOp op) r) (ha : PE X a ta) (hb : PE X b tb) : PC X op a b (tOp r ta tb) := ⟨fun pins s σ H Q I h => binT ha hb I h fun v u s2 x y H2 I2 rx ry q => ho pins s2 σ H2 x y v u Q I2 rx ry q⟩
/-- a comparison, as a value and as a test -/
theorem cm_op {op : CmpOp} {r : R2} {f : F2} (ho : OpR X (compareOp op) r) (hf : OpM X.K r f) (ha : PE X a (tM X.K ma)) (hb : PE X b (tM X.K mb)) : PC X op a b (tM X.K (mBin f ma mb)) := PC.imp (pc_op ho ha hb) fun _ _ _ => tOp_M hf
theorem em_cmp {op : CmpOp} {m : M} (h : PC X op a b (tM X.K m)) (h1 : behindInMarks op b = false := by first | exact nomark _ (by decide) (by decide) | with_unfolding_all rfl) : PE X (.Compare a [op] [b] pos) (tM X.K m) := pe_cmp h h1
/-- a value as a test -/
def mT (a : M) : MG Bool := fun ρ S => (a ρ S).bind fun p => match p.1 with
  | .bl b => some (b, p.2)
  | _ => none
theorem tB_M {σ : L2.St} {H : Hp} {Q : Bool → Hp → Prop} {a : M} {K : PySem.W.Frag} (h : tB' K (mT a) σ H Q) : tB (tM K a) σ H Q := by
  obtain ⟨st, ρ, v, S', rfl, hr, he, hm, k⟩ := h
  simp only [mT, Option.bind_eq_some_iff, Prod.exists] at hm
  obtain ⟨va, S1, h1, h2⟩ := hm
  refine ⟨st, ρ, va, S1, rfl, hr, he, h1, fun x st1 e1 l1 r1 x1 => ?_⟩
  cases x1 with
  | bl c =>
    obtain ⟨rfl, rfl⟩ : c = v ∧ S1 = S' := by simpa using h2
    exact ⟨c, rfl, k c st1 e1 l1 r1 rfl⟩
  | non => cases h2
  | int i => cases h2
  | str i => cases h2
  | tup _ _ => cases h2
  | lst _ _ _ => cases h2
  | scr _ => cases h2
  | loc _ => cases h2
theorem tm_cmp {op : CmpOp} {m : M} (h : PC X op a b (tM X.K m)) (h1 : behindInMarks op b = false := by first | exact nomark _ (by decide) (by decide) | with_unfolding_all rfl) : PT X (.Compare a [op] [b] pos) (tB' X.K (mT m)) := PT.imp (pt_cmp h h1) fun _ _ _ => tB_M
theorem tm_val {e : Expr} {m : M} (h : PE X e (tM X.K m)) (he : ∀ whole, isTrue e X.env whole = (do let v ← whole; standAt e.pos; holding [v] (truthy v)) := by intro _; rfl) : PT X e (tB' X.K (mT m)) := PT.imp (pt_val h he) fun _ _ _ => tB_M
def mAndT (a b : MG Bool) : MG Bool := fun ρ S => (a ρ S).bind fun p => if p.1 = true then b ρ p.2 else some (false, p.2)
def mOrT (a b : MG Bool) : MG Bool := fun ρ S => (a ρ S).bind fun p => if p.1 = true then some (true, p.2) else b ρ p.2
def mNotT (a : MG Bool) : MG Bool := fun ρ S => (a ρ S).bind fun p => some (!p.1, p.2)
theorem wm_and1 {t : MG Bool} (ha : PT X a (tB' X.K t)) : PW X (.BoolOp .And [a] pos) (tB' X.K t) := pw_and1 ha
theorem wm_or1 {t : MG Bool} (ha : PT X a (tB' X.K t)) : PW X (.BoolOp .Or [a] pos) (tB' X.K t) := pw_or1 ha
theorem wm_and {t u : MG Bool} {rest : List Expr} (ha : PT X a (tB' X.K t)) (hb : PW X (.BoolOp .And (b :: rest) pos) (tB' X.K u)) : PW X (.BoolOp .And (a :: b :: rest) pos) (tB' X.K (mAndT t u)) := by
  refine PW.imp (pw_and ha hb) fun σ H Q h => ?_
  obtain ⟨st, ρ, v, S', rfl, hr, he, hm, k⟩ := h
  simp only [mAndT, Option.bind_eq_some_iff, Prod.exists] at hm
  obtain ⟨va, S1, h1, h2⟩ := hm
  refine ⟨st, ρ, va, S1, rfl, hr, he, h1, fun x st1 e1 l1 r1 x1 => ?_⟩
  subst x1 e1
  cases x with
  | true =>
    rw [if_pos rfl] at h2
    rw [if_pos rfl]
    exact ⟨st1, ρ, v, S', rfl, r1, he.le l1.toLv, h2, fun y st2 e2 l2 r2 x2 => k y st2 e2 (l1.trans l2) r2 x2⟩
  | false =>
    rw [if_neg Bool.false_ne_true] at h2
    rw [if_neg Bool.false_ne_true]
    obtain ⟨rfl, rfl⟩ : false = v ∧ st1.S = S' := by simpa using h2
    exact k false st1 rfl l1 r1 rfl
theorem wm_or {t u : MG Bool} {rest : List Expr} (ha : PT X a (tB' X.K t)) (hb : PW X (.BoolOp .Or (b :: rest) pos) (tB' X.K u)) : PW X (.BoolOp .Or (a :: b :: rest) pos) (tB' X.K (mOrT t u)) := by
  refine PW.imp (pw_or ha hb) fun σ H Q h => ?_
  obtain ⟨st, ρ, v, S', rfl, hr, he, hm, k⟩ := h
  simp only [mOrT, Option.bind_eq_some_iff, Prod.exists] at hm
  obtain ⟨va, S1, h1, h2⟩ := hm
  refine ⟨st, ρ, va, S1, rfl, hr, he, h1, fun x st1 e1 l1 r1 x1 => ?_⟩
  subst x1 e1
  cases x with
  | false =>
    rw [if_neg Bool.false_ne_true] at h2
    rw [if_neg Bool.false_ne_true]
    exact ⟨st1, ρ, v, S', rfl, r1, he.le l1.toLv, h2, fun y st2 e2 l2 r2 x2 => k y st2 e2 (l1.trans l2) r2 x2⟩
  | true =>
    rw [if_pos rfl] at h2
    rw [if_pos rfl]
    obtain ⟨rfl, rfl⟩ : true = v ∧ st1.S = S' := by simpa using h2
    exact k true st1 rfl l1 r1 rfl
theorem tm_not {t : MG Bool} (ha : PT X a (tB' X.K t)) : PT X (.UnaryOp .Not a pos) (tB' X.K (mNotT t)) := by
  refine PT.imp (pt_not ha) fun σ H Q h => ?_
  obtain ⟨st, ρ, v, S', rfl, hr, he, hm, k⟩ := h
  simp only [mNotT, Option.bind_eq_some_iff, Prod.exists] at hm
  obtain ⟨va, S1, h1, h2⟩ := hm
  obtain ⟨rfl, rfl⟩ : (!va) = v ∧ S1 = S' := by simpa using h2
  exact ⟨st, ρ, va, S1, rfl, hr, he, h1, fun x st1 e1 l1 r1 x1 => by subst x1; exact k (!x) st1 e1 l1 r1 rfl⟩
/-- as values: of bools -/
def mAndV (a b : M) : M := fun ρ S => (a ρ S).bind fun p => match p.1 with
  | .bl true => b ρ p.2
  | .bl false => some (.bl false, p.2)
  | _ => none
def mOrV (a b : M) : M := fun ρ S => (a ρ S).bind fun p => match p.1 with
  | .bl false => b ρ p.2
  | .bl true => some (.bl true, p.2)
  | _ => none
def mNotV (a : M) : M := fun ρ S => (a ρ S).bind fun p => match p.1 with
  | .bl c => some (.bl (!c), p.2)
  | _ => none
theorem em_one {op} {t : TE} (h : PE X a t) : PE X (.BoolOp op [a] pos) t := pe_one h
theorem em_and {rest : List Expr} (ha : PE X a (tM X.K ma)) (hb : PE X (.BoolOp .And (b :: rest) pos) (tM X.K mb)) : PE X (.BoolOp .And (a :: b :: rest) pos) (tM X.K (mAndV ma mb)) := by
  refine PE.imp (pe_and ha hb) fun σ H Q h => ?_
  obtain ⟨st, ρ, v, S', rfl, hr, he, hm, k⟩ := h
  simp only [mAndV, Option.bind_eq_some_iff, Prod.exists] at hm
  obtain ⟨va, S1, h1, h2⟩ := hm
  refine ⟨st, ρ, va, S1, rfl, hr, he, h1, fun x st1 e1 l1 r1 x1 => ?_⟩
  subst e1
  cases x1 with
  | bl c =>
    refine ⟨c, rfl, ?_⟩
    cases c with
    | true =>
      rw [if_pos rfl]
      exact ⟨st1, ρ, v, S', rfl, r1, he.le l1.toLv, h2, fun y st2 e2 l2 r2 x2 => k y st2 e2 (l1.trans l2) r2 x2⟩
    | false =>
      rw [if_neg Bool.false_ne_true]
      obtain ⟨rfl, rfl⟩ : .bl false = v ∧ st1.S = S' := by simpa using h2
      exact k _ st1 rfl l1 r1 (.bl false)
  | non => cases h2
  | int i => cases h2
  | str i => cases h2
  | tup _ _ => cases h2
  | lst _ _ _ => cases h2
  | scr _ => cases h2
  | loc _ => cases h2
theorem em_or {rest : List Expr} (ha : PE X a (tM X.K ma)) (hb : PE X (.BoolOp .Or (b :: rest) pos) (tM X.K mb)) : PE X (.BoolOp .Or (a :: b :: rest) pos) (tM X.K (mOrV ma mb)) := by
  refine PE.imp (pe_or ha hb) fun σ H Q h => ?_
  obtain ⟨st, ρ, v, S', rfl, hr, he, hm, k⟩ := h
  simp only [mOrV, Option.bind_eq_some_iff, Prod.exists] at hm
  obtain ⟨va, S1, h1, h2⟩ := hm
  refine ⟨st, ρ, va, S1, rfl, hr, he, h1, fun x st1 e1 l1 r1 x1 => ?_⟩
  subst e1
  cases x1 with
  | bl c =>
    refine ⟨c, rfl, ?_⟩
    cases c with
    | false =>
      rw [if_neg Bool.false_ne_true]
      exact ⟨st1, ρ, v, S', rfl, r1, he.le l1.toLv, h2, fun y st2 e2 l2 r2 x2 => k y st2 e2 (l1.trans l2) r2 x2⟩
    | true =>
      rw [if_pos rfl]
      obtain ⟨rfl, rfl⟩ : .bl true = v ∧ st1.S = S' := by simpa using h2
      exact k _ st1 rfl l1 r1 (.bl true)
  | non => cases h2
  | int i => cases h2
  | str i => cases h2
  | tup _ _ => cases h2
  | lst _ _ _ => cases h2
  | scr _ => cases h2
  | loc _ => cases h2
theorem em_not (ha : PE X a (tM X.K ma)) : PE X (.UnaryOp .Not a pos) (tM X.K (mNotV ma)) := by
  refine PE.imp (pe_not ha) fun σ H Q h => ?_
  obtain ⟨st, ρ, v, S', rfl, hr, he, hm, k⟩ := h
  simp only [mNotV, Option.bind_eq_some_iff, Prod.exists] at hm
  obtain ⟨va, S1, h1, h2⟩ := hm
  refine ⟨st, ρ, va, S1, rfl, hr, he, h1, fun x st1 e1 l1 r1 x1 => ?_⟩
  subst e1
  cases x1 with
  | bl c =>
    obtain ⟨rfl, rfl⟩ : .bl (!c) = v ∧ st1.S = S' := by simpa using h2
    exact ⟨c, rfl, k _ st1 rfl l1 r1 (.bl (!c))⟩
  | non => cases h2
  | int i => cases h2
  | str i => cases h2
  | tup _ _ => cases h2
  | lst _ _ _ => cases h2
  | scr _ => cases h2
  | loc _ => cases h2
def mIf (c : MG Bool) (a b : M) : M := fun ρ S => (c ρ S).bind fun p => if p.1 = true then a ρ p.2 else b ρ p.2
theorem em_if {t : MG Bool} (hc : PT X c (tB' X.K t)) (ha : PE X a (tM X.K ma)) (hb : PE X b (tM X.K mb)) : PE X (.IfExp c a b pos) (tM X.K (mIf t ma mb)) := by
  refine PE.imp (pe_ifExp hc ha hb) fun σ H Q h => ?_
  obtain ⟨st, ρ, v, S', rfl, hr, he, hm, k⟩ := h
  simp only [mIf, Option.bind_eq_some_iff, Prod.exists] at hm
  obtain ⟨va, S1, h1, h2⟩ := hm
  refine ⟨st, ρ, va, S1, rfl, hr, he, h1, fun x st1 e1 l1 r1 x1 => ?_⟩
  subst x1 e1
  cases x with
  | true =>
    rw [if_pos rfl] at h2
    rw [if_pos rfl]
    exact ⟨st1, ρ, v, S', rfl, r1, he.le l1.toLv, h2, fun y st2 e2 l2 r2 x2 => k y st2 e2 (l1.trans l2) r2 x2⟩
  | false =>
    rw [if_neg Bool.false_ne_true] at h2
    rw [if_neg Bool.false_ne_true]
    exact ⟨st1, ρ, v, S', rfl, r1, he.le l1.toLv, h2, fun y st2 e2 l2 r2 x2 => k y st2 e2 (l1.trans l2) r2 x2⟩
/-- a op b op' c: f, g give bools -/
def mChain (f g : F2) (a b c : M) : M := fun ρ S => (a ρ S).bind fun p => (b ρ p.2).bind fun q => (f q.2 p.1 q.1).bind fun z => match z.1 with
  | .bl true => (c ρ z.2).bind fun w => g w.2 q.1 w.1
  | .bl false => some (.bl false, z.2)
  | _ => none
theorem em_chain {op op' : CmpOp} {r r' : R2} {f g : F2} (ho : OpR X (compareOp op) r) (ho' : OpR X (compareOp op') r') (hf : OpM X.K r f) (hg : OpM X.K r' g) (ha : PE X a (tM X.K ma)) (hb : PE X b (tM X.K mb)) (hc : PE X c (tM X.K mc))
    (hm : lastMarks [op, op'] [b, c] = false := by with_unfolding_all rfl) : PE X (.Compare a [op, op'] [b, c] pos) (tM X.K (mChain f g ma mb mc)) := by
  refine PE.imp (pe_chain ho ho' ha hb hc hm) fun σ H Q h => ?_
  obtain ⟨st, ρ, v, S', rfl, hr, he, hm, k⟩ := h
  simp only [mChain, Option.bind_eq_some_iff, Prod.exists] at hm
  obtain ⟨va, S1, h1, vb, S2, h2, vz, S3, h3, h4⟩ := hm
  refine ⟨st, ρ, va, S1, rfl, hr, he, h1, fun x st1 e1 l1 r1 x1 => ?_⟩
  subst e1
  refine ⟨st1, ρ, vb, S2, rfl, r1, he.le l1.toLv, h2, fun y st2 e2 l2 r2 x2 => ?_⟩
  subst e2
  refine hf st2 x y va vb vz S3 _ r2 (x1.le l2.toLv) x2 h3 fun z st3 e3 l3 r3 x3 => ?_
  subst e3
  cases x3 with
  | bl kk =>
    refine ⟨kk, rfl, ?_⟩
    cases kk with
    | true =>
      rw [if_pos rfl]
      simp only [Option.bind_eq_some_iff, Prod.exists] at h4
      obtain ⟨vc, S4, h5, h6⟩ := h4
      refine ⟨st3, ρ, vc, S4, rfl, r3, (he.le l1.toLv).le (l2.trans l3).toLv, h5, fun u st4 e4 l4 r4 x4 => ?_⟩
      subst e4
      exact hg st4 y u vb vc v S' Q r4 (x2.le (l3.trans l4).toLv) x4 h6 fun q st5 e5 l5 r5 x5 => k q st5 e5 (l1.trans (l2.trans (l3.trans (l4.trans l5)))) r5 x5
    | false =>
      rw [if_neg Bool.false_ne_true]
      obtain ⟨rfl, rfl⟩ : .bl false = v ∧ st3.S = S' := by simpa using h4
      exact k _ st3 rfl (l1.trans (l2.trans l3)) r3 (.bl false)
  | non => cases h4
  | int i => cases h4
  | str i => cases h4
  | tup _ _ => cases h4
  | lst _ _ _ => cases h4
  | scr _ => cases h4
  | loc _ => cases h4
/-! ### argument lists, displays, calls -/
theorem am_nil : PA X [] (tA X.K mNil) := by
  refine PA.imp pa_nil fun σ H Q h => ?_
  obtain ⟨st, ρ, v, S', rfl, hr, he, hm, k⟩ := h
  obtain ⟨rfl, rfl⟩ : [] = v ∧ st.S = S' := by simpa [mNil] using hm
  exact k [] st rfl (Le.refl st) hr .nil
theorem am_cons {es : List Expr} {mr : MG (List Val)} (ha : PE X a (tM X.K ma)) (hr : PA X es (tA X.K mr)) (hs : starEach (a :: es) X.env = (false, eval a X.env) :: starEach es X.env := by rfl) : PA X (a :: es) (tA X.K (mCons ma mr)) := by
  refine PA.imp (pa_cons ha hr hs) fun σ H Q h => ?_
  obtain ⟨st, ρ, v, S', rfl, hr, he, hm, k⟩ := h
  simp only [mCons, Option.bind_eq_some_iff, Prod.exists] at hm
  obtain ⟨va, S1, h1, vs, S2, h2, h3⟩ := hm
  obtain ⟨rfl, rfl⟩ : va :: vs = v ∧ S2 = S' := by simpa using h3
  refine ⟨st, ρ, va, S1, rfl, hr, he, h1, fun x st1 e1 l1 r1 x1 => ?_⟩
  subst e1
  exact ⟨st1, ρ, vs, S2, rfl, r1, he.le l1.toLv, h2, fun y st2 e2 l2 r2 x2 => k _ st2 e2 (l1.trans l2) r2 (.cons (x1.le l2.toLv) x2)⟩
def mTup (a : MG (List Val)) : M := fun ρ S => (a ρ S).bind fun p => if p.1.length ≤ 1000 then some (.tup p.1, p.2) else none
def mLst (a : MG (List Val)) : M := fun ρ S => (a ρ S).bind fun p => if p.1.length ≤ 1000 then some (.lst p.1, p.2) else none
/-- a list that is going to change -/
def mLstN (a : MG (List Val)) : M := fun ρ S => (a ρ S).bind fun p => if p.1.length ≤ 1000 then some (.loc p.2.length, p.2 ++ [.lst p.1]) else none
theorem sz1000 {n : Nat} (h : n ≤ 1000) : n ≤ sizeLine := Nat.le_trans h (by decide)
theorem em_tup {es : List Expr} {x1} {mr : MG (List Val)} (h : PA X es (tA X.K mr)) : PE X (.Tuple es x1 pos) (tM X.K (mTup mr)) := by
  refine PE.imp (pe_tupS h) fun σ H Q h => ?_
  obtain ⟨st, ρ, v, S', rfl, hr, he, hm, k⟩ := h
  simp only [mTup, Option.bind_eq_some_iff, Prod.exists] at hm
  obtain ⟨va, S1, h1, h2⟩ := hm
  split at h2
  · rename_i hl
    obtain ⟨rfl, rfl⟩ : .tup va = v ∧ S1 = S' := by simpa using h2
    exact ⟨st, ρ, va, S1, rfl, hr, he, h1, fun x st1 e1 l1 r1 x1 => ⟨sz1000 (by rw [x1.length]; exact hl), qtup r1 x1 e1 rfl fun z st2 e2 l2 r2 x2 => k z st2 e2 (l1.trans l2) r2 x2⟩⟩
  · cases h2
theorem em_lst {es : List Expr} {mr : MG (List Val)} (h : PA X es (tA X.K mr)) : PE X (.List es pos) (tM X.K (mLst mr)) := by
  refine PE.imp (pe_lst h) fun σ H Q h => ?_
  obtain ⟨st, ρ, v, S', rfl, hr, he, hm, k⟩ := h
  simp only [mLst, Option.bind_eq_some_iff, Prod.exists] at hm
  obtain ⟨va, S1, h1, h2⟩ := hm
  split at h2
  · rename_i hl
    obtain ⟨rfl, rfl⟩ : .lst va = v ∧ S1 = S' := by simpa using h2
    refine ⟨st, ρ, va, S1, rfl, hr, he, h1, fun x st1 e1 l1 r1 x1 => ⟨sz1000 (by rw [x1.length]; exact hl), fun p hp => ?_⟩⟩
    exact k _ ⟨st1.μ, upd st1.H p (.lst x), st1.S, st1.F⟩ e1 (l1.trans (lay r1 hp).1) (lay r1 hp).2 (lay_lst r1 hp x1)
  · cases h2
theorem em_lstN {es : List Expr} {mr : MG (List Val)} (h : PA X es (tA X.K mr)) : PE X (.List es pos) (tM X.K (mLstN mr)) := by
  refine PE.imp (pe_lst h) fun σ H Q h => ?_
  obtain ⟨st, ρ, v, S', rfl, hr, he, hm, k⟩ := h
  simp only [mLstN, Option.bind_eq_some_iff, Prod.exists] at hm
  obtain ⟨va, S1, h1, h2⟩ := hm
  split at h2
  · rename_i hl
    obtain ⟨rfl, rfl⟩ : .loc S1.length = v ∧ S1 ++ [.lst va] = S' := by simpa using h2
    refine ⟨st, ρ, va, S1, rfl, hr, he, h1, fun x st1 e1 l1 r1 x1 => ⟨sz1000 (by rw [x1.length]; exact hl), fun p hp => ?_⟩⟩
    subst e1
    have l := new_le (u := .lst x) (o := .lst va) r1 hp
    exact k _ ⟨st1.μ ++ [p], upd st1.H p (.lst x), st1.S ++ [.lst va], st1.F⟩ rfl (l1.trans l) (new_rep r1 (u := .lst x) (o := .lst va) trivial hp ⟨x, upd_same, x1.le l.toLv⟩) (new_loc r1)
  · cases h2
theorem em_callB {es : List Expr} {id : String} {x : Str} {p : Pos} {r : List V → Hp → VK → Prop} {f : FL} {mr : MG (List Val)} (hc : CallR X (.builtin id) r) (hf : CallM X.K r f) (hg : Gl X x) (hm : X.mg x = none) (hv : bootBuiltins x = some (.builtin id)) (ha : PA X (a :: es) (tA X.K mr)) (hn : x ≠ "__name__" := by decide) (hdb : (x == ("__debug__" : Str)) = false := by decide)
    (he : starEach (a :: es) X.env = (false, eval a X.env) :: starEach es X.env := by rfl) (hpl : (backTo pos (starEach es X.env)).any (·.1) = false := by rfl) : PE X (.Call (.Name x p) (a :: es) [] pos) (tM X.K (mCall f mr)) := PE.imp (pe_callB hc hg hm hv ha hn hdb he hpl) fun _ _ _ => tCB_M hf
theorem em_callTy {es : List Expr} {T : String} {x : Str} {p : Pos} {r : List V → Hp → VK → Prop} {f : FL} {mr : MG (List Val)} (hc : CallR X (.type T) r) (hf : CallM X.K r f) (hg : Gl X x) (hm : X.mg x = none) (hv : bootBuiltins x = some (.type T)) (ha : PA X (a :: es) (tA X.K mr)) (hn : x ≠ "__name__" := by decide) (hdb : (x == ("__debug__" : Str)) = false := by decide)
    (he : starEach (a :: es) X.env = (false, eval a X.env) :: starEach es X.env := by rfl) (hpl : (backTo pos (starEach es X.env)).any (·.1) = false := by rfl) : PE X (.Call (.Name x p) (a :: es) [] pos) (tM X.K (mCall f mr)) := PE.imp (pe_callTy hc hg hm hv ha hn hdb he hpl) fun _ _ _ => tCB_M hf
end
end Cw
end
section
/-! CwM3: the operations on values that the program uses. -/
namespace Cw
open PySem PySem.Spec PyProof.Rows L2

def lstOf (S : Sto) : Val → Option (List Val)
  | .lst xs => some xs
  | .loc n => match S[n]? with
    | some (.lst xs) => some xs
    | _ => none
  | _ => none
def seqOf (S : Sto) : Val → Option (List Val)
  | .tup xs => some xs
  | .scr ns => some (ns.map Val.int)
  | .lst xs => some xs
  | .loc n => match S[n]? with
    | some (.lst xs) => some xs
    | _ => none
  | _ => none
def keyOf : Val → Option Key
  | .int i => some (.inl i)
  | .str x => some (.inr x)
  | _ => none
section
variable {κ : Type} [DecidableEq κ]
def gK (kvs : List (κ × Val)) (k : κ) : Option Val := (kvs.find? fun kv => decide (kv.1 = k)).map (·.2)
def pK (kvs : List (κ × Val)) (k : κ) (v : Val) : List (κ × Val) := if (kvs.any fun kv => decide (kv.1 = k)) = true then kvs.map (fun kv => if kv.1 = k then (kv.1, v) else kv) else kvs ++ [(k, v)]
def uK (kvs more : List (κ × Val)) : List (κ × Val) := more.foldl (fun acc kv => pK acc kv.1 kv.2) kvs
end
section
variable {K : PySem.W.Frag} {st st' : Ste}
theorem lst_at (hr : Rep K st) {x : V} {v : Val} {vs : List Val} (r : RepV K st x v) (h : lstOf st.S v = some vs) : ∃ a xs, x = .ref a ∧ st.H a = some (.lst xs) ∧ RepVs K st xs vs := by
  cases r with
  | lst h1 h2 h3 =>
    obtain rfl := Option.some.inj h
    exact ⟨_, _, rfl, h1, h3⟩
  | @loc n a h1 =>
    unfold lstOf at h
    cases e : st.S[n]? with
    | none => simp only [e] at h; cases h
    | some o =>
      cases o with
      | lst xs =>
        simp only [e] at h
        obtain rfl := Option.some.inj h
        obtain ⟨ys, h2, h3⟩ := hr.ob n a _ h1 e
        exact ⟨a, ys, rfl, h2, h3⟩
      | dead => simp only [e] at h; cases h
      | dct _ => simp only [e] at h; cases h
      | dcT _ => simp only [e] at h; cases h
  | non => cases h
  | bl _ => cases h
  | int _ => cases h
  | str _ => cases h
  | tup _ _ => cases h
  | scr _ => cases h
theorem seq_lst {S : Sto} {v : Val} {vs : List Val} (h : lstOf S v = some vs) : seqOf S v = some vs := by
  cases v <;> first | exact h | cases h
theorem seq_at (hr : Rep K st) {x : V} {v : Val} {vs : List Val} (r : RepV K st x v) (h : seqOf st.S v = some vs) : ∃ a xs, x = .ref a ∧ RepVs K st xs vs ∧ (SqL K st.H a xs ∨ SqT K st.H a xs) := by
  cases r with
  | tup h1 h2 =>
    obtain rfl := Option.some.inj h
    exact ⟨_, _, rfl, h2, .inr h1.sq⟩
  | @scr a ns h1 =>
    obtain rfl := Option.some.inj h
    exact ⟨_, _, rfl, RepVs.ints ns, .inl h1.sq⟩
  | lst h1 h2 h3 =>
    obtain rfl := Option.some.inj h
    exact ⟨_, _, rfl, h3, .inl (.inl (.inl h1))⟩
  | @loc n a h1 =>
    obtain ⟨b, xs, e, h2, h3⟩ := lst_at hr (.loc h1) (show lstOf st.S (.loc n) = some vs from h)
    exact ⟨b, xs, e, h3, .inl (.inl (.inl h2))⟩
  | non => cases h
  | bl _ => cases h
  | int _ => cases h
  | str _ => cases h
theorem key_at {x : V} {v : Val} {k : Key} (r : RepV K st x v) (h : keyOf v = some k) : x = kV k := by
  cases r with
  | int i => obtain rfl := Option.some.inj h; rfl
  | str s => obtain rfl := Option.some.inj h; rfl
  | non => cases h
  | bl _ => cases h
  | tup _ _ => cases h
  | lst _ _ _ => cases h
  | scr _ => cases h
  | loc _ => cases h

/-! ### tables -/
section
variable {κ : Type} [DecidableEq κ]
theorem RepK.val {k : κ} : ∀ {xs : List (κ × V)} {vs : List (κ × Val)}, RepK K st xs vs → (∀ v, gK vs k = some v → ∃ x, valV xs k = some x ∧ RepV K st x v) ∧ (gK vs k = none → valV xs k = none)
  | _, _, .nil => ⟨fun v h => (by cases h), fun _ => rfl⟩
  | _, _, .cons (k := j) (x := x) (v := v) r t => by
    have ih := RepK.val (k := k) t
    by_cases e : j = k
    · refine ⟨fun w h => ?_, fun h => ?_⟩
      · simp only [gK, List.find?_cons, e, decide_true, Option.map_some] at h
        obtain rfl := Option.some.inj h
        exact ⟨x, valV_pos e, r⟩
      · simp [gK, List.find?_cons, e] at h
    · refine ⟨fun w h => ?_, fun h => ?_⟩
      · rw [valV_neg e]
        exact ih.1 w (by simpa [gK, List.find?_cons, e] using h)
      · rw [valV_neg e]
        exact ih.2 (by simpa [gK, List.find?_cons, e] using h)
theorem RepK.any {k : κ} : ∀ {xs : List (κ × V)} {vs : List (κ × Val)}, RepK K st xs vs → (xs.any fun kv => decide (kv.1 = k)) = (vs.any fun kv => decide (kv.1 = k))
  | _, _, .nil => rfl
  | _, _, .cons r t => by simp only [List.any_cons, RepK.any (k := k) t]
theorem RepK.repl {k : κ} {y : V} {w : Val} (ry : RepV K st y w) : ∀ {xs : List (κ × V)} {vs : List (κ × Val)}, RepK K st xs vs → RepK K st (xs.map fun kv => if kv.1 = k then (kv.1, y) else kv) (vs.map fun kv => if kv.1 = k then (kv.1, w) else kv)
  | _, _, .nil => .nil
  | _, _, .cons (k := j) (x := x) (v := v) r t => by
    have ih := RepK.repl (k := k) ry t
    by_cases e : j = k
    · simp only [List.map_cons, if_pos e]
      exact .cons ry ih
    · simp only [List.map_cons, if_neg e]
      exact .cons r ih
theorem RepK.snoc {k : κ} {y : V} {w : Val} (ry : RepV K st y w) : ∀ {xs : List (κ × V)} {vs : List (κ × Val)}, RepK K st xs vs → RepK K st (xs ++ [(k, y)]) (vs ++ [(k, w)])
  | _, _, .nil => .cons ry .nil
  | _, _, .cons r t => .cons r (RepK.snoc ry t)
theorem RepK.put {k : κ} {y : V} {w : Val} (ry : RepV K st y w) {xs : List (κ × V)} {vs : List (κ × Val)} (r : RepK K st xs vs) : RepK K st (putK xs k y) (pK vs k w) := by
  unfold putK pK
  rw [r.any (k := k)]
  split
  · exact RepK.repl ry r
  · exact RepK.snoc ry r
end
theorem RepK.merge : ∀ {more : List (Key × V)} {ms : List (Key × Val)} {xs : List (Key × V)} {vs : List (Key × Val)}, RepK K st more ms → RepK K st xs vs → RepK K st (mergeK xs more) (uK vs ms)
  | _, _, _, _, .nil, r => r
  | _, _, xs, vs, .cons (k := k) (xs := xs') (vs := vs') h t, r => RepK.merge (more := xs') (ms := vs') t (RepK.put (k := k) h r)
theorem dct_at (hr : Rep K st) {x : V} {n : Nat} {kvs : List (Key × Val)} (r : RepV K st x (.loc n)) (h : st.S[n]? = some (.dct kvs)) : ∃ a ks, x = .ref a ∧ st.μ[n]? = some a ∧ st.H a = some (.dK ks) ∧ RepK K st ks kvs := by
  cases r with
  | loc h1 =>
    obtain ⟨ks, e1, e2⟩ := hr.ob n _ _ h1 h
    exact ⟨_, ks, rfl, h1, e1, e2⟩
theorem dcT_at (hr : Rep K st) {x : V} {n : Nat} {kvs : List (List Key × Val)} (r : RepV K st x (.loc n)) (h : st.S[n]? = some (.dcT kvs)) : ∃ a ks, x = .ref a ∧ st.μ[n]? = some a ∧ st.H a = some (.dT ks) ∧ RepK K st ks kvs := by
  cases r with
  | loc h1 =>
    obtain ⟨ks, e1, e2⟩ := hr.ob n _ _ h1 h
    exact ⟨_, ks, rfl, h1, e1, e2⟩
theorem lstN_at (hr : Rep K st) {x : V} {n : Nat} {vs : List Val} (r : RepV K st x (.loc n)) (h : st.S[n]? = some (.lst vs)) : ∃ a xs, x = .ref a ∧ st.μ[n]? = some a ∧ st.H a = some (.lst xs) ∧ RepVs K st xs vs := by
  cases r with
  | loc h1 =>
    obtain ⟨ks, e1, e2⟩ := hr.ob n _ _ h1 h
    exact ⟨_, ks, rfl, h1, e1, e2⟩
/-- behind a store to an object of the store -/
theorem set_k {Q : VK} {n : Nat} {a : Addr} {o o' : Ob} {u : HO} {z : V} {v : Val} {S' : Sto} (hr : Rep K st) (hm : st.μ[n]? = some a) (hs : st.S[n]? = some o) (hd : o ≠ .dead) (eS : st.S.set n o' = S')
    (ho : ∀ st' : Ste, Lv K st st' → st'.H a = some u → RepO K st' a o') (hz : ∀ st' : Ste, Lv K st st' → RepV K st' z v)
    (k : ∀ z st', st'.S = S' → Le K st st' → Rep K st' → RepV K st' z v → Q z st'.H) : Q z (upd st.H a u) := by
  have l := set_le (u := u) (o' := o') hr hm hs hd
  exact k z ⟨st.μ, upd st.H a u, st.S.set n o', st.F⟩ eS l (set_rep hr hm hs hd (ho _ l.toLv upd_same)) (hz _ l.toLv)
end

/-! ### two-place operations -/
def fI (C : Int → Int → Bool) (g : Int → Int → Val) : F2 := fun S a b => match a, b with
  | .int i, .int j => if C i j = true then some (g i j, S) else none
  | _, _ => none
/-- a list of the store by its items -/
def dr (S : Sto) (v : Val) : Val := match v with
  | .loc n => match S[n]? with
    | some (.lst xs) => .lst xs
    | _ => v
  | _ => v
def fEq : F2 := fun S a b => if okV (dr S a) = true ∧ okV (dr S b) = true then some (.bl (vEq (dr S a) (dr S b)), S) else none
def fNe : F2 := fun S a b => if okV (dr S a) = true ∧ okV (dr S b) = true then some (.bl (!vEq (dr S a) (dr S b)), S) else none
def signIn (a : Val) (z : Str) : Option Bool := match a with
  | .str x => match x.cps.toList with
    | [c] => some (decide (c ∈ z.cps.toList))
    | _ => none
  | _ => none
def inB (S : Sto) (a b : Val) : Option Bool := match b with
  | .str z => signIn a z
  | .tup xs => if okV a = true ∧ okV b = true then some (xs.any fun z => vEq z a) else none
  | .lst xs => if okV a = true ∧ okV b = true then some (xs.any fun z => vEq z a) else none
  | .loc n => match S[n]? with
    | some (.dct kvs) => (keyOf a).map fun k => (gK kvs k).isSome
    | some (.lst xs) => if okV a = true ∧ okV (.lst xs) = true then some (xs.any fun z => vEq z a) else none
    | _ => none
  | _ => none
def fIn : F2 := fun S a b => (inB S a b).map fun c => (.bl c, S)
def fNotIn : F2 := fun S a b => (inB S a b).map fun c => (.bl (!c), S)
def isNon : Val → Bool
  | .non => true
  | _ => false
def fIs : F2 := fun S a b => match b with
  | .non => some (.bl (isNon a), S)
  | _ => none
def fIsNot : F2 := fun S a b => match b with
  | .non => some (.bl (!isNon a), S)
  | _ => none
def fCatT : F2 := fun S a b => match a, b with
  | .tup xs, .tup ys => if xs.length + ys.length ≤ 100000 then some (.tup (xs ++ ys), S) else none
  | _, _ => none
def fCatL : F2 := fun S a b => (lstOf S a).bind fun xs => (lstOf S b).bind fun ys => if xs.length + ys.length ≤ 100000 then some (.lst (xs ++ ys), S) else none
def fCatN : F2 := fun S a b => (lstOf S a).bind fun xs => (lstOf S b).bind fun ys => if xs.length + ys.length ≤ 100000 then some (.loc S.length, S ++ [.lst (xs ++ ys)]) else none
section
variable {K : PySem.W.Frag}
theorem fI_M {g : Int → Int → V} {g' : Int → Int → Val} (hg : ∀ st i j, RepV K st (g i j) (g' i j)) : OpM K (rI0 g) (fI (fun _ _ => true) g') := by
  intro st x y a b v S' Q hr hx hy hf k
  cases hx <;> first | (cases hf; done) | skip
  cases hy <;> first | (cases hf; done) | skip
  rename_i i j
  obtain ⟨rfl, rfl⟩ : g' i j = v ∧ st.S = S' := by simpa [fI] using hf
  exact ⟨i, j, rfl, rfl, k _ st rfl (Le.refl st) hr (hg st i j)⟩
theorem fIC_M {C : Int → Int → Prop} {C' : Int → Int → Bool} {g : Int → Int → V} {g' : Int → Int → Val} (hC : ∀ i j, C' i j = true → C i j) (hg : ∀ st i j, RepV K st (g i j) (g' i j)) : OpM K (rI C g) (fI C' g') := by
  intro st x y a b v S' Q hr hx hy hf k
  cases hx <;> first | (cases hf; done) | skip
  cases hy <;> first | (cases hf; done) | skip
  rename_i i j
  unfold fI at hf
  by_cases hc : C' i j = true
  · simp only [if_pos hc] at hf
    obtain ⟨rfl, rfl⟩ : g' i j = v ∧ st.S = S' := by simpa using hf
    exact ⟨i, j, rfl, rfl, hC i j hc, k _ st rfl (Le.refl st) hr (hg st i j)⟩
  · simp only [if_neg hc] at hf
    cases hf
theorem dr_dp {st : Ste} (hr : Rep K st) {x : V} {v : Val} (r : RepV K st x v) (h : okV (dr st.S v) = true) : Dp K st.H x (toD (dr st.S v)) ∧ SeqAt.shaped (toD (dr st.S v)) = true := by
  cases r with
  | @loc n a hn =>
    unfold dr at h ⊢
    simp only at h ⊢
    split at h
    · rename_i xs e
      obtain ⟨ys, g1, g2⟩ := hr.ob n a _ hn e
      have h' : pureV (.lst xs) = true ∧ SeqAt.shaped (toD (.lst xs)) = true := by simpa [okV] using h
      refine ⟨?_, h'.2⟩
      simp only [toD]
      exact .lst (.inl (.inl g1)) (RepVs.dp g2 (by simpa [pureV] using h'.1))
    · simp [okV, pureV] at h
  | non => exact okV_dp h .non
  | bl b => exact okV_dp h (.bl b)
  | int b => exact okV_dp h (.int b)
  | str b => exact okV_dp h (.str b)
  | tup h1 h2 => exact okV_dp h (.tup h1 h2)
  | lst h1 h2 h3 => exact okV_dp h (.lst h1 h2 h3)
  | scr h1 => exact okV_dp h (.scr h1)
theorem fEq_M : OpM K (rEqD K) fEq := by
  intro st x y a b v S' Q hr hx hy hf k
  unfold fEq at hf
  split at hf
  · rename_i h
    obtain ⟨rfl, rfl⟩ := Prod.mk.inj (Option.some.inj hf)
    obtain ⟨h1, h2⟩ := dr_dp hr hx h.1
    obtain ⟨h3, h4⟩ := dr_dp hr hy h.2
    exact ⟨_, _, h1, h3, h2, h4, k _ st rfl (Le.refl st) hr (.bl _)⟩
  · cases hf
theorem fNe_M : OpM K (rNeD K) fNe := by
  intro st x y a b v S' Q hr hx hy hf k
  unfold fNe at hf
  split at hf
  · rename_i h
    obtain ⟨rfl, rfl⟩ := Prod.mk.inj (Option.some.inj hf)
    obtain ⟨h1, h2⟩ := dr_dp hr hx h.1
    obtain ⟨h3, h4⟩ := dr_dp hr hy h.2
    exact ⟨_, _, h1, h3, h2, h4, k _ st rfl (Le.refl st) hr (.bl _)⟩
  · cases hf
/-! #### in -/
def rInT (K : PySem.W.Frag) (neg : Bool) : R2 := fun x y H Q => ∃ d ds, Dp K H x d ∧ Dp K H y (.tuple ds) ∧ SeqAt.shaped d = true ∧ SeqAt.shaped (.tuple ds) = true ∧ Q (.bl (if neg then !(ds.any fun z => PyData.eqv z d) else ds.any fun z => PyData.eqv z d)) H
def rInDk (neg : Bool) : R2 := fun y x H Q => ∃ a o, x = .ref a ∧ DGet H a y o ∧ Q (.bl (if neg then !o.isSome else o.isSome)) H
section
variable {X : Cx}
theorem op_inT (hu : X.A.units + 65 < cLine) : OpR X (compareOp .In) (rInT X.K false) := by
  intro pins s σ H x y v u Q I rx ry h
  obtain ⟨d, ds, hd, he, sd, se, q⟩ := h
  obtain ⟨as, r1⟩ := Dp.reads I d x v hd rx
  obtain ⟨bs, r2⟩ := Dp.reads I (.tuple ds) y u he ry
  exact SeqAt.in_tuple_reads r2 r1 (SeqAt.canLay_of_shaped se) (SeqAt.canLay_of_shaped sd) (room_in_shaped sd hu) ⟨.bl _, H, I, rfl, q⟩
theorem op_notInT (hu : X.A.units + 65 < cLine) : OpR X (compareOp .NotIn) (rInT X.K true) := by
  intro pins s σ H x y v u Q I rx ry h
  obtain ⟨d, ds, hd, he, sd, se, q⟩ := h
  obtain ⟨as, r1⟩ := Dp.reads I d x v hd rx
  obtain ⟨bs, r2⟩ := Dp.reads I (.tuple ds) y u he ry
  exact SeqAt.notIn_tuple_reads r2 r1 (SeqAt.canLay_of_shaped se) (SeqAt.canLay_of_shaped sd) (room_in_shaped sd hu) ⟨.bl _, H, I, rfl, q⟩
theorem op_inDk (hu : X.A.units + 65 < cLine) : OpR X (compareOp .In) (rInDk false) := by
  intro pins s σ H x y v u Q I rx ry h
  obtain ⟨a, o, rfl, g, q⟩ := h
  obtain rfl : u = Value.ref a := ry
  exact d_in (by omega) I g rx fun s3 I3 => ⟨.bl o.isSome, H, I3, rfl, q⟩
theorem op_notInDk (hu : X.A.units + 65 < cLine) : OpR X (compareOp .NotIn) (rInDk true) := by
  intro pins s σ H x y v u Q I rx ry h
  obtain ⟨a, o, rfl, g, q⟩ := h
  obtain rfl : u = Value.ref a := ry
  exact d_notIn (by omega) I g rx fun s3 I3 => ⟨.bl (!o.isSome), H, I3, rfl, q⟩
end
def rInA (K : PySem.W.Frag) : R2 := fun x y H Q => rInS x y H Q ∨ rInD K x y H Q ∨ rInT K false x y H Q ∨ rInDk false x y H Q
def rNotInA (K : PySem.W.Frag) : R2 := fun x y H Q => rNotInS x y H Q ∨ rNotInD K x y H Q ∨ rInT K true x y H Q ∨ rInDk true x y H Q
theorem op_inA {X : Cx} (hu : X.A.units + 65 < cLine) : OpR X (compareOp .In) (rInA X.K) := op_inS.or ((op_inD hu).or ((op_inT hu).or (op_inDk hu)))
theorem op_notInA {X : Cx} (hu : X.A.units + 65 < cLine) : OpR X (compareOp .NotIn) (rNotInA X.K) := op_notInS.or ((op_notInD hu).or ((op_notInT hu).or (op_notInDk hu)))
theorem any_toD (a : Val) : ∀ xs : List Val, ((toDs xs).any fun z => PyData.eqv z (toD a)) = xs.any fun z => vEq z a
  | [] => rfl
  | x :: xs => by simp only [toDs, List.any_cons, any_toD a xs]; rfl
theorem inA_M {Q : VK} {st : Ste} {x y : V} {a b : Val} {c : Bool} (hr : Rep K st) (hx : RepV K st x a) (hy : RepV K st y b) (hf : inB st.S a b = some c) :
    (Q (.bl c) st.H → rInA K x y st.H Q) ∧ (Q (.bl (!c)) st.H → rNotInA K x y st.H Q) := by
  cases hy with
  | str z =>
    unfold inB signIn at hf
    cases hx with
    | str s =>
      simp only at hf
      split at hf
      · rename_i ch e
        obtain rfl := Option.some.inj hf
        have es : s = ⟨#[ch]⟩ := by
          cases s with
          | mk cps =>
            have : cps = #[ch] := by
              have e' : cps.toList = [ch] := e
              exact Array.toList_inj.mp (by simpa using e')
            rw [this]
        subst es
        exact ⟨fun q => .inl ⟨ch, z, rfl, rfl, q⟩, fun q => .inl ⟨ch, z, rfl, rfl, q⟩⟩
      · cases hf
    | non => cases hf
    | bl _ => cases hf
    | int _ => cases hf
    | tup _ _ => cases hf
    | lst _ _ _ => cases hf
    | scr _ => cases hf
    | loc _ => cases hf
  | @tup p xs vs h1 h2 =>
    unfold inB at hf
    simp only at hf
    split at hf
    · rename_i h
      obtain rfl := Option.some.inj hf
      obtain ⟨d1, s1⟩ := okV_dp h.1 hx
      obtain ⟨d2, s2⟩ := okV_dp h.2 (.tup h1 h2)
      simp only [toD] at d2 s2
      rw [← any_toD a vs]
      exact ⟨fun q => .inr (.inr (.inl ⟨_, _, d1, d2, s1, s2, by simpa using q⟩)), fun q => .inr (.inr (.inl ⟨_, _, d1, d2, s1, s2, by simpa using q⟩))⟩
    · cases hf
  | @lst p xs vs h1 h2 h3 =>
    unfold inB at hf
    simp only at hf
    split at hf
    · rename_i h
      obtain rfl := Option.some.inj hf
      obtain ⟨d1, s1⟩ := okV_dp h.1 hx
      obtain ⟨d2, s2⟩ := okV_dp h.2 (.lst h1 h2 h3)
      simp only [toD] at d2 s2
      rw [← any_toD a vs]
      exact ⟨fun q => .inr (.inl ⟨_, _, d1, d2, s1, s2, q⟩), fun q => .inr (.inl ⟨_, _, d1, d2, s1, s2, q⟩)⟩
    · cases hf
  | @loc n p h1 =>
    unfold inB at hf
    simp only at hf
    split at hf
    · rename_i kvs e
      obtain ⟨k, ek, ec⟩ := Option.map_eq_some_iff.mp hf
      obtain ⟨p', ks, e1, e2, e3, e4⟩ := dct_at hr (.loc h1) e
      cases e1
      have ex := key_at hx ek
      subst ex
      have v1 := e4.val (k := k)
      have hs : (valV ks k).isSome = c := by
        rw [← ec]
        cases g : gK kvs k with
        | none => rw [v1.2 g]; rfl
        | some w =>
          obtain ⟨x, hx, _⟩ := v1.1 w g
          rw [hx]
          rfl
      exact ⟨fun q => .inr (.inr (.inr ⟨p, _, rfl, DGet.k e3, by simpa [hs] using q⟩)), fun q => .inr (.inr (.inr ⟨p, _, rfl, DGet.k e3, by simpa [hs] using q⟩))⟩
    · rename_i vs e
      split at hf
      · rename_i h
        obtain rfl := Option.some.inj hf
        obtain ⟨d1, s1⟩ := okV_dp h.1 hx
        obtain ⟨ys, g1, g2⟩ := hr.ob n p _ h1 e
        have h' : pureV (.lst vs) = true ∧ SeqAt.shaped (toD (.lst vs)) = true := by simpa [okV] using h.2
        have d2 : Dp K st.H (.ref p) (.list (toDs vs)) := .lst (.inl (.inl g1)) (RepVs.dp g2 (by simpa [pureV] using h'.1))
        have s2 := h'.2
        simp only [toD] at s2
        rw [← any_toD a vs]
        exact ⟨fun q => .inr (.inl ⟨_, _, d1, d2, s1, s2, q⟩), fun q => .inr (.inl ⟨_, _, d1, d2, s1, s2, q⟩)⟩
      · cases hf
    · cases hf
  | non => cases hf
  | bl _ => cases hf
  | int _ => cases hf
  | scr _ => cases hf
theorem fIn_M : OpM K (rInA K) fIn := by
  intro st x y a b v S' Q hr hx hy hf k
  obtain ⟨c, h1, h2⟩ := Option.map_eq_some_iff.mp (show (inB st.S a b).map (fun c => (Val.bl c, st.S)) = some (v, S') from hf)
  obtain ⟨rfl, rfl⟩ : .bl c = v ∧ st.S = S' := by simpa using h2
  exact (inA_M hr hx hy h1).1 (k _ st rfl (Le.refl st) hr (.bl c))
theorem fNotIn_M : OpM K (rNotInA K) fNotIn := by
  intro st x y a b v S' Q hr hx hy hf k
  obtain ⟨c, h1, h2⟩ := Option.map_eq_some_iff.mp (show (inB st.S a b).map (fun c => (Val.bl (!c), st.S)) = some (v, S') from hf)
  obtain ⟨rfl, rfl⟩ : .bl (!c) = v ∧ st.S = S' := by simpa using h2
  exact (inA_M hr hx hy h1).2 (k _ st rfl (Le.refl st) hr (.bl _))
theorem isNon_at {st : Ste} {x : V} {a : Val} (h : RepV K st x a) : decide (x = .non) = isNon a := by
  cases h <;> simp [isNon]
theorem fIs_M : OpM K rIsN fIs := by
  intro st x y a b v S' Q hr hx hy hf k
  cases hy <;> first | (cases hf; done) | skip
  obtain ⟨rfl, rfl⟩ : .bl (isNon a) = v ∧ st.S = S' := by simpa [fIs] using hf
  exact ⟨rfl, by rw [isNon_at hx]; exact k _ st rfl (Le.refl st) hr (.bl _)⟩
theorem fIsNot_M : OpM K rNotN fIsNot := by
  intro st x y a b v S' Q hr hx hy hf k
  cases hy <;> first | (cases hf; done) | skip
  obtain ⟨rfl, rfl⟩ : .bl (!isNon a) = v ∧ st.S = S' := by simpa [fIsNot] using hf
  exact ⟨rfl, by rw [isNon_at hx]; exact k _ st rfl (Le.refl st) hr (.bl _)⟩
theorem sz1e5 {n : Nat} (h : n ≤ 100000) : n ≤ sizeLine := Nat.le_trans h (by decide)
theorem RepVs.nil_iff {st : Ste} {xs : List V} {vs : List Val} (h : RepVs K st xs vs) : xs = [] ↔ vs = [] := by
  cases h <;> simp
theorem fCatT_M : OpM K (rCatS K) fCatT := by
  intro st x y a b v S' Q hr hx hy hf k
  cases hx <;> first | (cases hf; done) | skip
  cases hy <;> first | (cases hf; done) | skip
  rename_i p xs vs h1 h2 q ys ws h3 h4
  unfold fCatT at hf
  simp only at hf
  split at hf
  · rename_i hl
    obtain ⟨rfl, rfl⟩ : .tup (vs ++ ws) = v ∧ st.S = S' := by simpa using hf
    refine ⟨p, q, xs, ys, rfl, rfl, h1.sq, h3.sq, sz1e5 (by rw [h2.length, h4.length]; exact hl), fun e => ?_, fun e => ?_, qtup hr (h2.append h4) rfl rfl k⟩
    · have e' := h2.nil_iff.mp e
      subst e'
      exact k _ st rfl (Le.refl st) hr (.tup h3 h4)
    · have e' := h4.nil_iff.mp e
      subst e'
      exact k _ st rfl (Le.refl st) hr (.tup h1 (by rw [List.append_nil]; exact h2))
  · cases hf
theorem fCatL_M : OpM K rCat fCatL := by
  intro st x y a b v S' Q hr hx hy hf k
  simp only [fCatL, Option.bind_eq_some_iff] at hf
  obtain ⟨vs, e1, ws, e2, hf⟩ := hf
  split at hf
  · rename_i hl
    obtain ⟨rfl, rfl⟩ : .lst (vs ++ ws) = v ∧ st.S = S' := by simpa using hf
    obtain ⟨p, xs, rfl, h1, h2⟩ := lst_at hr hx e1
    obtain ⟨q, ys, rfl, h3, h4⟩ := lst_at hr hy e2
    refine ⟨p, q, xs, ys, rfl, rfl, h1, h3, sz1e5 (by rw [h2.length, h4.length]; exact hl), fun p hp => ?_⟩
    exact k _ ⟨st.μ, upd st.H p (.lst (xs ++ ys)), st.S, st.F⟩ rfl (lay hr hp).1 (lay hr hp).2 (lay_lst hr hp (h2.append h4))
  · cases hf
theorem fCatN_M : OpM K rCat fCatN := by
  intro st x y a b v S' Q hr hx hy hf k
  simp only [fCatN, Option.bind_eq_some_iff] at hf
  obtain ⟨vs, e1, ws, e2, hf⟩ := hf
  split at hf
  · rename_i hl
    obtain ⟨rfl, rfl⟩ : .loc st.S.length = v ∧ st.S ++ [.lst (vs ++ ws)] = S' := by simpa using hf
    obtain ⟨p, xs, rfl, h1, h2⟩ := lst_at hr hx e1
    obtain ⟨q, ys, rfl, h3, h4⟩ := lst_at hr hy e2
    refine ⟨p, q, xs, ys, rfl, rfl, h1, h3, sz1e5 (by rw [h2.length, h4.length]; exact hl), fun p hp => ?_⟩
    have l := new_le (u := .lst (xs ++ ys)) (o := .lst (vs ++ ws)) hr hp
    exact k _ ⟨st.μ ++ [p], upd st.H p (.lst (xs ++ ys)), st.S ++ [.lst (vs ++ ws)], st.F⟩ rfl l (new_rep hr (u := .lst (xs ++ ys)) (o := .lst (vs ++ ws)) trivial hp ⟨_, upd_same, (h2.append h4).le l.toLv⟩) (new_loc hr)
  · cases hf
end
end Cw
end
section
/-! CwM4: subscripts, slices, calls of built-ins, methods, dicts. -/
namespace Cw
open PySem PySem.Spec PyProof.Rows L2

/-! ### subscripts -/
def rDGetI : R2 := fun x y H Q => ∃ a v, x = .ref a ∧ DGet H a y (some v) ∧ Q v H
theorem ix_dict {X : Cx} (hu : X.A.units + 1 < cLine) : IxR X rDGetI := by
  intro value slice pins s σ H x y v u Q I rx ry h hs
  obtain ⟨a, w', rfl, g, q⟩ := h
  obtain rfl : v = .ref a := rx
  exact tail_any (dict_typeIs I g) PySem.F.slot_dict_getitem.lookup (d_getItem hu I g ry fun w2 s3 I3 rw' => ⟨w', H, I3, rw', q⟩) hs
def fIxSeq : F2 := fun S a b => match b with
  | .int i => (seqOf S a).bind fun xs => (atI xs i).map fun v => (v, S)
  | _ => none
def fSub : F2 := fun S a b => match a with
  | .loc n => match S[n]? with
    | some (.dct kvs) => (keyOf b).bind fun k => (gK kvs k).map fun v => (v, S)
    | some (.lst _) => fIxSeq S a b
    | _ => none
  | _ => fIxSeq S a b
section
variable {K : PySem.W.Frag}
theorem atI_rep {st : Ste} {xs : List V} {vs : List Val} {i : Int} {v : Val} (r : RepVs K st xs vs) (h : atI vs i = some v) : ∃ x, atI xs i = some x ∧ RepV K st x v := by
  unfold atI at h ⊢
  rw [r.length]
  obtain ⟨j, e1, e2⟩ := Option.bind_eq_some_iff.mp h
  obtain ⟨x, h1, h2⟩ := r.get' e2
  exact ⟨x, by rw [e1]; exact h1, h2⟩
theorem ixSeq_M {st : Ste} {x y : V} {a b v : Val} {S' : Sto} {Q : VK} (hr : Rep K st) (hx : RepV K st x a) (hy : RepV K st y b)
    (hf : fIxSeq st.S a b = some (v, S'))
    (k : ∀ z st', st'.S = S' → Le K st st' → Rep K st' → RepV K st' z v → Q z st'.H) : rIxL K x y st.H Q ∨ rIxT K x y st.H Q := by
  unfold fIxSeq at hf
  cases hy with
  | int i =>
    simp only [Option.bind_eq_some_iff, Option.map_eq_some_iff] at hf
    obtain ⟨vs, e1, v', e2, e3⟩ := hf
    obtain ⟨rfl, rfl⟩ : v' = v ∧ st.S = S' := by simpa using e3
    obtain ⟨p, xs, rfl, rv, hs⟩ := seq_at hr hx e1
    obtain ⟨z, h1, h2⟩ := atI_rep rv e2
    rcases hs with hs | hs
    · exact .inl ⟨p, xs, i, z, rfl, rfl, hs, h1, k z st rfl (Le.refl st) hr h2⟩
    · exact .inr ⟨p, xs, i, z, rfl, rfl, hs, h1, k z st rfl (Le.refl st) hr h2⟩
  | non => cases hf
  | bl _ => cases hf
  | str _ => cases hf
  | tup _ _ => cases hf
  | lst _ _ _ => cases hf
  | scr _ => cases hf
  | loc _ => cases hf
theorem fSub_M : OpM K (fun x y H Q => (rIxL K x y H Q ∨ rIxT K x y H Q) ∨ rDGetI x y H Q) fSub := by
  intro st x y a b v S' Q hr hx hy hf k
  show (rIxL K x y st.H Q ∨ rIxT K x y st.H Q) ∨ rDGetI x y st.H Q
  cases hx with
  | @loc n p h1 =>
    unfold fSub at hf
    simp only at hf
    split at hf
    · rename_i kvs e
      simp only [Option.bind_eq_some_iff, Option.map_eq_some_iff] at hf
      obtain ⟨key, e1, v', e2, e3⟩ := hf
      obtain ⟨rfl, rfl⟩ : v' = v ∧ st.S = S' := by simpa using e3
      obtain ⟨p', ks, e4, e5, e6, e7⟩ := dct_at hr (.loc h1) e
      cases e4
      have ey := key_at hy e1
      subst ey
      obtain ⟨z, z1, z2⟩ := (e7.val (k := key)).1 v' e2
      exact .inr ⟨p, z, rfl, z1 ▸ DGet.k e6, k z st rfl (Le.refl st) hr z2⟩
    · exact .inl (ixSeq_M hr (.loc h1) hy hf k)
    · cases hf
  | str _ => exact .inl (ixSeq_M hr (.str _) hy hf k)
  | non => exact .inl (ixSeq_M hr .non hy hf k)
  | bl _ => exact .inl (ixSeq_M hr (.bl _) hy hf k)
  | int _ => exact .inl (ixSeq_M hr (.int _) hy hf k)
  | tup h1 h2 => exact .inl (ixSeq_M hr (.tup h1 h2) hy hf k)
  | lst h1 h2 h3 => exact .inl (ixSeq_M hr (.lst h1 h2 h3) hy hf k)
  | scr h1 => exact .inl (ixSeq_M hr (.scr h1) hy hf k)
end
section
variable {X : Cx} {a b c : Expr} {ma mb mc : M} {pos : Pos}
theorem em_sub (hu : X.A.units + 65 < cLine) (ha : PE X a (tM X.K ma)) (hb : PE X b (tM X.K mb)) (hs : PlainIx b := by intro _ _; rfl) : PE X (.Subscript a b pos) (tM X.K (mBin fSub ma mb)) :=
  PE.imp (pe_ix ((ix_list.or ix_tup).or (ix_dict (by omega))) ha hb hs) fun _ _ _ => tOp_M fSub_M
/-! ### slices with written bounds -/
def cutG {α : Type} (xs : List α) (lo hi : Option Int) : List α := (xs.drop (HT.sIx xs.length 0 lo)).take (HT.sIx xs.length xs.length hi - HT.sIx xs.length 0 lo)
theorem RepVs.cut {K : PySem.W.Frag} {st : Ste} {xs : List V} {vs : List Val} (r : RepVs K st xs vs) (lo hi : Option Int) : RepVs K st (cutV xs lo hi) (cutG vs lo hi) := by
  unfold cutV cutG
  rw [r.length]
  exact (r.drop _).take _
def fSlice (lo hi : Option Int) : F1 := fun S a => match a with
  | .tup xs => some (.tup (cutG xs lo hi), S)
  | .scr ns => some (.lst (cutG (ns.map Val.int) lo hi), S)
  | .lst xs => some (.lst (cutG xs lo hi), S)
  | _ => none
def PSl (X : Cx) (e : Option Expr) (o : Option Int) : Prop := ∃ t, PO X e t ∧ ∀ σ H (Q : Option Int → Hp → Prop), Q o H → t σ H Q
theorem pk_none : PSl X none none := ⟨_, po_none, fun _ _ _ q => q⟩
theorem pk_int {i : Int} {j pos} : PSl X (some (.Constant (.int i) j pos)) (some i) := ⟨_, po_some pe_int, fun _ _ _ q => ⟨i, rfl, q⟩⟩
theorem em_slice {lo hi : Option Expr} {l u : Option Int} {p2 : Pos} (ha : PE X a (tM X.K ma)) (hl : PSl X lo l) (hh : PSl X hi u) : PE X (.Subscript a (.Slice lo hi none p2) pos) (tM X.K (mUn (fSlice l u) ma)) := by
  obtain ⟨tl, hl, ql⟩ := hl
  obtain ⟨th, hh, qh⟩ := hh
  refine PE.imp (pe_slice (sl_tupS.or sl_list) ha hl hh) fun σ H Q h => ?_
  have q : tUn (fun x H Q => rSlS X.K x l u H Q ∨ rSlL X.K x l u H Q) (tM X.K ma) σ H Q := by
    refine tUn_M (f := fSlice l u) ?_ h
    intro st x a v S' Q hr hx hf k
    show rSlS X.K x l u st.H Q ∨ rSlL X.K x l u st.H Q
    cases hx with
    | @tup p xs vs h1 h2 =>
      obtain ⟨rfl, rfl⟩ : .tup (cutG vs l u) = v ∧ st.S = S' := by simpa [fSlice] using hf
      refine .inl ⟨p, xs, rfl, h1.sq, fun e => ?_, qtup hr (h2.cut l u) rfl rfl k⟩
      exact k _ st rfl (Le.refl st) hr (.tup h1 (by have := h2.cut l u; rw [e] at this; exact this))
    | @lst p xs vs h1 h2 h3 =>
      obtain ⟨rfl, rfl⟩ : .lst (cutG vs l u) = v ∧ st.S = S' := by simpa [fSlice] using hf
      exact .inr ⟨p, xs, rfl, .inl (.inl h1), fun p hp => k _ ⟨st.μ, upd st.H p (.lst _), st.S, st.F⟩ rfl (lay hr hp).1 (lay hr hp).2 (lay_lst hr hp (h3.cut l u))⟩
    | @scr p ns h1 =>
      obtain ⟨rfl, rfl⟩ : .lst (cutG (ns.map Val.int) l u) = v ∧ st.S = S' := by simpa [fSlice] using hf
      exact .inr ⟨p, _, rfl, h1.sq, fun p hp => k _ ⟨st.μ, upd st.H p (.lst _), st.S, st.F⟩ rfl (lay hr hp).1 (lay hr hp).2 (lay_lst hr hp ((RepVs.ints ns).cut l u))⟩
    | non => cases hf
    | bl _ => cases hf
    | int _ => cases hf
    | str _ => cases hf
    | loc _ => cases hf
  obtain ⟨st, ρ, v, S', e0, hr, he, hm, k⟩ := q
  exact ⟨st, ρ, v, S', e0, hr, he, hm, fun x st' e1 l1 r1 x1 => ql σ _ _ (qh σ _ _ (k x st' e1 l1 r1 x1))⟩
end

/-! ### calls of built-ins -/
def fLen : FL := fun S vs => match vs with
  | [.str y] => if y.length ≤ 100000 then some (.int y.length, S) else none
  | [v] => (seqOf S v).map fun xs => (.int xs.length, S)
  | _ => none
/-- len(d) of a dict -/
def fLenD : FL := fun S vs => match vs with
  | [.loc n] => match S[n]? with
    | some (.dct kvs) => some (.int kvs.length, S)
    | _ => none
  | _ => none
def boolsOf : List Val → Option (List Bool)
  | [] => some []
  | .bl b :: r => (boolsOf r).map (b :: ·)
  | _ :: _ => none
def intsOf : List Val → Option (List Int)
  | [] => some []
  | .int b :: r => (intsOf r).map (b :: ·)
  | _ :: _ => none
def fAll : FL := fun S vs => match vs with
  | [v] => (lstOf S v).bind fun xs => (boolsOf xs).map fun bs => (.bl (bs.all id), S)
  | _ => none
def fAny : FL := fun S vs => match vs with
  | [v] => (lstOf S v).bind fun xs => (boolsOf xs).map fun bs => (.bl (bs.any id), S)
  | _ => none
def fSum : FL := fun S vs => match vs with
  | [v] => (lstOf S v).bind fun xs => (intsOf xs).map fun ns => (.int ns.sum, S)
  | _ => none
def fMaxL : FL := fun S vs => match vs with
  | [v] => (lstOf S v).bind fun xs => (intsOf xs).bind fun ns => ns.max?.map fun m => (.int m, S)
  | _ => none
def fAbs : FL := fun S vs => match vs with
  | [.int i] => some (.int (if i < 0 then -i else i), S)
  | _ => none
def fMax2 : FL := fun S vs => match vs with
  | [.int i, .int j] => some (.int (if j > i then j else i), S)
  | _ => none
def fMin2 : FL := fun S vs => match vs with
  | [.int i, .int j] => some (.int (if j < i then j else i), S)
  | _ => none
def fInt : FL := fun S vs => match vs with
  | [.int i] => some (.int i, S)
  | [.bl k] => some (.int (if k then 1 else 0), S)
  | _ => none
def fTuple : FL := fun S vs => match vs with
  | [.tup xs] => some (.tup xs, S)
  | [v] => (lstOf S v).map fun xs => (.tup xs, S)
  | _ => none
/-- list(e), a value; a list that is going to change -/
def fList : FL := fun S vs => match vs with
  | [v] => (seqOf S v).map fun xs => (.lst xs, S)
  | _ => none
def fListN : FL := fun S vs => match vs with
  | [v] => (seqOf S v).map fun xs => (.loc S.length, S ++ [.lst xs])
  | _ => none
def kVal : Key → Val
  | .inl i => .int i
  | .inr x => .str x
/-- list(d): the keys -/
def fKeys : FL := fun S vs => match vs with
  | [.loc n] => match S[n]? with
    | some (.dct kvs) => some (.lst (kvs.map fun kv => kVal kv.1), S)
    | _ => none
  | _ => none
section
variable {K : PySem.W.Frag} {X : Cx}
theorem one_at {st : Ste} {xs : List V} {v : Val} (h : RepVs K st xs [v]) : ∃ x, xs = [x] ∧ RepV K st x v := by
  cases h with
  | cons h1 h2 => cases h2; exact ⟨_, rfl, h1⟩
theorem two_at {st : Ste} {xs : List V} {v w : Val} (h : RepVs K st xs [v, w]) : ∃ x y, xs = [x, y] ∧ RepV K st x v ∧ RepV K st y w := by
  cases h with
  | cons h1 h2 =>
    obtain ⟨y, rfl, h3⟩ := one_at h2
    exact ⟨_, y, rfl, h1, h3⟩
theorem bools_eq : ∀ {vs : List Val} {bs : List Bool}, boolsOf vs = some bs → vs = bs.map Val.bl
  | [], bs, h => by cases h; rfl
  | v :: vs, bs, h => by
    cases v <;> first | (cases h; done) | skip
    simp only [boolsOf, Option.map_eq_some_iff] at h
    obtain ⟨cs, h1, rfl⟩ := h
    rw [bools_eq h1]
    rfl
theorem ints_eq : ∀ {vs : List Val} {bs : List Int}, intsOf vs = some bs → vs = bs.map Val.int
  | [], bs, h => by cases h; rfl
  | v :: vs, bs, h => by
    cases v <;> first | (cases h; done) | skip
    simp only [intsOf, Option.map_eq_some_iff] at h
    obtain ⟨cs, h1, rfl⟩ := h
    rw [ints_eq h1]
    rfl
def rLenV (K : PySem.W.Frag) : List V → Hp → VK → Prop := fun xs H Q => ∃ x n, xs = [x] ∧ LenV K x H n ∧ Q (.int n) H
theorem fLen_M : CallM K (rLenV K) fLen := by
  intro st xs vs v S' Q hr hx hf k
  unfold fLen at hf
  split at hf
  · rename_i y
    split at hf
    · rename_i hl
      obtain ⟨rfl, rfl⟩ : .int y.length = v ∧ st.S = S' := by simpa using hf
      obtain ⟨x, rfl, h1⟩ := one_at hx
      cases h1
      exact ⟨_, y.length, rfl, ⟨sz1e5 hl, rfl⟩, k _ st rfl (Le.refl st) hr (.int _)⟩
    · cases hf
  · obtain ⟨x, rfl, h1⟩ := one_at hx
    simp only [Option.map_eq_some_iff] at hf
    obtain ⟨ws, e1, e2⟩ := hf
    obtain ⟨rfl, rfl⟩ : .int ws.length = v ∧ st.S = S' := by simpa using e2
    obtain ⟨p, ys, rfl, rv, hs⟩ := seq_at hr h1 e1
    refine ⟨_, ws.length, rfl, ?_, k _ st rfl (Le.refl st) hr (.int _)⟩
    rcases hs with hs | hs
    · exact .inl ⟨ys, hs, rv.length.symm⟩
    · exact .inr ⟨ys, hs, rv.length.symm⟩
  · cases hf
def rLenD : List V → Hp → VK → Prop := fun xs H Q => ∃ d kvs, xs = [.ref d] ∧ H d = some (.dK kvs) ∧ Q (.int (kvs.length : Nat)) H
theorem cr_lenD : CallR X (.builtin "len") rLenD := by
  intro pins s σ H xs us Q I r h
  obtain ⟨d, kvs, rfl, hd, q⟩ := h
  obtain ⟨u, rfl, rx⟩ := vals1 r
  obtain rfl : u = .ref d := rx
  exact d_len I (.inl hd) fun t s' I' => ⟨.int kvs.length, H, I', ⟨t, rfl⟩, q⟩
theorem fLenD_M : CallM K rLenD fLenD := by
  intro st xs vs v S' Q hr hx hf k
  unfold fLenD at hf
  split at hf
  · split at hf
    · rename_i n kvs e
      obtain ⟨rfl, rfl⟩ : .int kvs.length = v ∧ st.S = S' := by simpa using hf
      obtain ⟨x, rfl, h1⟩ := one_at hx
      obtain ⟨p, ks, rfl, _, g1, g2⟩ := dct_at hr h1 e
      exact ⟨p, ks, rfl, g1, by rw [g2.length]; exact k _ st rfl (Le.refl st) hr (.int _)⟩
    · cases hf
  · cases hf
theorem fAll_M : CallM K (rAll K) fAll := by
  intro st xs vs v S' Q hr hx hf k
  unfold fAll at hf
  split at hf
  · simp only [Option.bind_eq_some_iff, Option.map_eq_some_iff] at hf
    obtain ⟨ws, e1, bs, e2, e3⟩ := hf
    obtain ⟨rfl, rfl⟩ : .bl (bs.all id) = v ∧ st.S = S' := by simpa using e3
    obtain ⟨x, rfl, h1⟩ := one_at hx
    obtain ⟨p, ys, rfl, hs, rv⟩ := lst_at hr h1 e1
    have e4 := bools_eq e2
    subst e4
    have e5 := rv.bls_of
    subst e5
    exact ⟨p, bs, rfl, .inl (.inl hs), k _ st rfl (Le.refl st) hr (.bl _)⟩
  · cases hf
theorem fAny_M : CallM K (rAny K) fAny := by
  intro st xs vs v S' Q hr hx hf k
  unfold fAny at hf
  split at hf
  · simp only [Option.bind_eq_some_iff, Option.map_eq_some_iff] at hf
    obtain ⟨ws, e1, bs, e2, e3⟩ := hf
    obtain ⟨rfl, rfl⟩ : .bl (bs.any id) = v ∧ st.S = S' := by simpa using e3
    obtain ⟨x, rfl, h1⟩ := one_at hx
    obtain ⟨p, ys, rfl, hs, rv⟩ := lst_at hr h1 e1
    have e4 := bools_eq e2
    subst e4
    have e5 := rv.bls_of
    subst e5
    exact ⟨p, bs, rfl, .inl (.inl hs), k _ st rfl (Le.refl st) hr (.bl _)⟩
  · cases hf
theorem fSum_M : CallM K (rSum K) fSum := by
  intro st xs vs v S' Q hr hx hf k
  unfold fSum at hf
  split at hf
  · simp only [Option.bind_eq_some_iff, Option.map_eq_some_iff] at hf
    obtain ⟨ws, e1, bs, e2, e3⟩ := hf
    obtain ⟨rfl, rfl⟩ : .int bs.sum = v ∧ st.S = S' := by simpa using e3
    obtain ⟨x, rfl, h1⟩ := one_at hx
    obtain ⟨p, ys, rfl, hs, rv⟩ := lst_at hr h1 e1
    have e4 := ints_eq e2
    subst e4
    have e5 := rv.ints_of
    subst e5
    exact ⟨p, bs, rfl, .inl (.inl hs), k _ st rfl (Le.refl st) hr (.int _)⟩
  · cases hf
theorem fMaxL_M : CallM K (rMax K) fMaxL := by
  intro st xs vs v S' Q hr hx hf k
  unfold fMaxL at hf
  split at hf
  · simp only [Option.bind_eq_some_iff, Option.map_eq_some_iff] at hf
    obtain ⟨ws, e1, bs, e2, m, em, e3⟩ := hf
    obtain ⟨rfl, rfl⟩ : .int m = v ∧ st.S = S' := by simpa using e3
    obtain ⟨x, rfl, h1⟩ := one_at hx
    obtain ⟨p, ys, rfl, hs, rv⟩ := lst_at hr h1 e1
    have e4 := ints_eq e2
    subst e4
    have e5 := rv.ints_of
    subst e5
    obtain ⟨hm, hle⟩ := List.max?_eq_some_iff.mp em
    refine ⟨p, bs, rfl, .inl (.inl hs), List.length_pos_of_mem hm, fun m' hm' hle' => ?_⟩
    have : m' = m := Int.le_antisymm (hle m' hm') (hle' m hm)
    subst this
    exact k _ st rfl (Le.refl st) hr (.int _)
  · cases hf
def rAbs : List V → Hp → VK → Prop := fun xs H Q => ∃ i, xs = [.int i] ∧ Q (.int (if i < 0 then -i else i)) H
theorem fAbs_M : CallM K rAbs fAbs := by
  intro st xs vs v S' Q hr hx hf k
  unfold fAbs at hf
  split at hf
  · rename_i i
    obtain ⟨rfl, rfl⟩ : .int (if i < 0 then -i else i) = v ∧ st.S = S' := by simpa using hf
    obtain ⟨x, rfl, h1⟩ := one_at hx
    cases h1
    exact ⟨i, rfl, k _ st rfl (Le.refl st) hr (.int _)⟩
  · cases hf
def rMax2' : List V → Hp → VK → Prop := fun xs H Q => ∃ i j, xs = [.int i, .int j] ∧ Q (.int (if j > i then j else i)) H
def rMin2' : List V → Hp → VK → Prop := fun xs H Q => ∃ i j, xs = [.int i, .int j] ∧ Q (.int (if j < i then j else i)) H
theorem fMax2_M : CallM K rMax2' fMax2 := by
  intro st xs vs v S' Q hr hx hf k
  unfold fMax2 at hf
  split at hf
  · rename_i i j
    obtain ⟨rfl, rfl⟩ : .int (if j > i then j else i) = v ∧ st.S = S' := by simpa using hf
    obtain ⟨x, y, rfl, h1, h2⟩ := two_at hx
    cases h1
    cases h2
    exact ⟨i, j, rfl, k _ st rfl (Le.refl st) hr (.int _)⟩
  · cases hf
theorem fMin2_M : CallM K rMin2' fMin2 := by
  intro st xs vs v S' Q hr hx hf k
  unfold fMin2 at hf
  split at hf
  · rename_i i j
    obtain ⟨rfl, rfl⟩ : .int (if j < i then j else i) = v ∧ st.S = S' := by simpa using hf
    obtain ⟨x, y, rfl, h1, h2⟩ := two_at hx
    cases h1
    cases h2
    exact ⟨i, j, rfl, k _ st rfl (Le.refl st) hr (.int _)⟩
  · cases hf
def rInt1 : List V → Hp → VK → Prop := fun xs H Q => (∃ i, xs = [.int i] ∧ Q (.int i) H) ∨ ∃ k, xs = [.bl k] ∧ Q (.int (if k then 1 else 0)) H
theorem fInt_M : CallM K rInt1 fInt := by
  intro st xs vs v S' Q hr hx hf k
  unfold fInt at hf
  split at hf
  · rename_i i
    obtain ⟨rfl, rfl⟩ : .int i = v ∧ st.S = S' := by simpa using hf
    obtain ⟨x, rfl, h1⟩ := one_at hx
    cases h1
    exact .inl ⟨i, rfl, k _ st rfl (Le.refl st) hr (.int _)⟩
  · rename_i i
    obtain ⟨rfl, rfl⟩ : .int (if i = true then 1 else 0) = v ∧ st.S = S' := by simpa using hf
    obtain ⟨x, rfl, h1⟩ := one_at hx
    cases h1
    exact .inr ⟨i, rfl, k _ st rfl (Le.refl st) hr (.int _)⟩
  · cases hf
theorem fTuple_M : CallM K (rTupleS K) fTuple := by
  intro st xs vs v S' Q hr hx hf k
  unfold fTuple at hf
  split at hf
  · rename_i ws
    obtain ⟨rfl, rfl⟩ : .tup ws = v ∧ st.S = S' := by simpa using hf
    obtain ⟨x, rfl, h1⟩ := one_at hx
    cases h1 with
    | @tup p ys _ h1 h2 => exact ⟨p, ys, rfl, .inr ⟨h1.sq, k _ st rfl (Le.refl st) hr (.tup h1 h2)⟩⟩
  · simp only [Option.map_eq_some_iff] at hf
    obtain ⟨ws, e1, e2⟩ := hf
    obtain ⟨rfl, rfl⟩ : .tup ws = v ∧ st.S = S' := by simpa using e2
    obtain ⟨x, rfl, h1⟩ := one_at hx
    obtain ⟨p, ys, rfl, hs, rv⟩ := lst_at hr h1 e1
    exact ⟨p, ys, rfl, .inl ⟨.inl (.inl hs), qtup hr rv rfl rfl k⟩⟩
  · cases hf
def rListO (K : PySem.W.Frag) : List V → Hp → VK → Prop := fun xs H Q => ∃ p ys, xs = [.ref p] ∧ (SqL K H p ys ∨ SqT K H p ys) ∧ ∀ l, H l = none → Q (.ref l) (upd H l (.lst ys))
theorem fList_M : CallM K (rListO K) fList := by
  intro st xs vs v S' Q hr hx hf k
  unfold fList at hf
  split at hf
  · simp only [Option.map_eq_some_iff] at hf
    obtain ⟨ws, e1, e2⟩ := hf
    obtain ⟨rfl, rfl⟩ : .lst ws = v ∧ st.S = S' := by simpa using e2
    obtain ⟨x, rfl, h1⟩ := one_at hx
    obtain ⟨p, ys, rfl, rv, hs⟩ := seq_at hr h1 e1
    exact ⟨p, ys, rfl, hs, fun p hp => k _ ⟨st.μ, upd st.H p (.lst ys), st.S, st.F⟩ rfl (lay hr hp).1 (lay hr hp).2 (lay_lst hr hp rv)⟩
  · cases hf
theorem new_k {Q : VK} {st : Ste} {p : Addr} {u : HO} {o : Ob} {v : Val} {S' : Sto} (hr : Rep K st) (hp : st.H p = none) (c : Chg u) (ev : .loc st.S.length = v) (eS : st.S ++ [o] = S')
    (ho : ∀ st' : Ste, Lv K st st' → st'.H p = some u → RepO K st' p o) (k : ∀ z st', st'.S = S' → Le K st st' → Rep K st' → RepV K st' z v → Q z st'.H) : Q (.ref p) (upd st.H p u) := by
  have l := new_le (u := u) (o := o) hr hp
  subst ev
  exact k _ ⟨st.μ ++ [p], upd st.H p u, st.S ++ [o], st.F⟩ eS l (new_rep hr (u := u) (o := o) c hp (ho _ l.toLv upd_same)) (new_loc hr)
theorem fListN_M : CallM K (rListO K) fListN := by
  intro st xs vs v S' Q hr hx hf k
  unfold fListN at hf
  split at hf
  · simp only [Option.map_eq_some_iff] at hf
    obtain ⟨ws, e1, e2⟩ := hf
    obtain ⟨e3, e4⟩ : .loc st.S.length = v ∧ st.S ++ [.lst ws] = S' := by simpa using e2
    obtain ⟨x, rfl, h1⟩ := one_at hx
    obtain ⟨p, ys, rfl, rv, hs⟩ := seq_at hr h1 e1
    exact ⟨p, ys, rfl, hs, fun p hp => new_k hr hp (u := .lst ys) (o := .lst ws) trivial e3 e4 (fun st' l e => ⟨ys, e, rv.le l⟩) k⟩
  · cases hf
theorem keys_rep {st : Ste} : ∀ {ks : List (Key × V)} {vs : List (Key × Val)}, RepK K st ks vs → RepVs K st (ks.map fun kv => kV kv.1) (vs.map fun kv => kVal kv.1)
  | _, _, .nil => .nil
  | _, _, .cons (k := k) r t => by
    refine .cons ?_ (keys_rep t)
    cases k with
    | inl i => exact .int i
    | inr x => exact .str x
theorem fKeys_M : CallM K rListD fKeys := by
  intro st xs vs v S' Q hr hx hf k
  unfold fKeys at hf
  split at hf
  · split at hf
    · rename_i n kvs e
      obtain ⟨rfl, rfl⟩ : .lst (kvs.map fun kv => kVal kv.1) = v ∧ st.S = S' := by simpa using hf
      obtain ⟨x, rfl, h1⟩ := one_at hx
      obtain ⟨p, ks, rfl, e1, e2, e3⟩ := dct_at hr h1 e
      exact ⟨p, ks, rfl, e2, fun q hq => k _ ⟨st.μ, upd st.H q (.lst _), st.S, st.F⟩ rfl (lay hr hq).1 (lay hr hq).2 (lay_lst hr hq (keys_rep e3))⟩
    · cases hf
  · cases hf
end

/-! ### isinstance -/
def tyName : Val → Option String
  | .non => some "NoneType"
  | .bl _ => some "bool"
  | .int _ => some "int"
  | .str _ => some "str"
  | .tup _ => some "tuple"
  | .lst _ => some "list"
  | .scr _ => some "list"
  | .loc _ => none
def fIsi (T : String) : F1 := fun S v => (tyName v).bind fun t => (kitB t T).map fun b => (.bl b, S)
section
variable {X : Cx} {a : Expr} {ma : M} {pos p p2 : Pos}
theorem tyX_at {K : PySem.W.Frag} {st : Ste} {x : V} {v : Val} {t : String} (r : RepV K st x v) (h : tyName v = some t) : TyX K st.H x (.type t) := by
  cases r <;> first | (cases h; done) | skip
  · exact Option.some.inj h ▸ .base .non
  · exact Option.some.inj h ▸ .base (.bl _)
  · exact Option.some.inj h ▸ .base (.int _)
  · exact Option.some.inj h ▸ .base (.str _)
  · rename_i h1 h2
    obtain rfl := Option.some.inj h
    rcases h1 with ⟨o, _, e⟩ | ⟨o, its, n, e, c, _⟩
    · exact .fTuple e
    · exact .kTuple e c
  · rename_i h1 h2 h3
    obtain rfl := Option.some.inj h
    exact .base (.lst h1)
  · rename_i h1
    obtain rfl := Option.some.inj h
    rcases h1 with ⟨o, e⟩ | ⟨o, its, n, e, c, _⟩
    · exact .base (.frz e)
    · exact .kList e c
theorem em_isi {T : String} {x : Str} (hg : Gl X "isinstance") (hm : X.mg "isinstance" = none) (hv : bootBuiltins "isinstance" = some (.builtin "isinstance")) (hgT : Gl X x) (hmT : X.mg x = none) (hvT : bootBuiltins x = some (.type T)) (ha : PE X a (tM X.K ma))
    (hnT : x ≠ "__name__" := by decide) (hdT : (x == ("__debug__" : Str)) = false := by decide)
    (he2 : starEach [.Name x p2] X.env = (false, eval (.Name x p2) X.env) :: starEach [] X.env := by rfl)
    (he : starEach [a, .Name x p2] X.env = (false, eval a X.env) :: starEach [.Name x p2] X.env := by rfl) (hpl : (backTo pos (starEach [.Name x p2] X.env)).any (·.1) = false := by rfl) :
    PE X (.Call (.Name "isinstance" p) [a, .Name x p2] [] pos) (tM X.K (mUn (fIsi T) ma)) := by
  refine PE.imp (pe_callB call_isi hg hm hv (pa_cons ha (pa_cons (pe_bltn (v := .ty T) hgT hmT hvT rfl hnT hdT) pa_nil he2) he) (by decide) (by decide) he hpl) fun σ H Q h => ?_
  have q : tUn (fun x H Q => rIsi X.K [x, .ty T] H Q) (tM X.K ma) σ H Q := by
    refine tUn_M (f := fIsi T) ?_ h
    intro st x a v S' Q hr hx hf k
    simp only [fIsi, Option.bind_eq_some_iff, Option.map_eq_some_iff] at hf
    obtain ⟨t, e1, b, e2, e3⟩ := hf
    obtain ⟨rfl, rfl⟩ : .bl b = v ∧ st.S = S' := by simpa using e3
    exact ⟨x, .ty T, .type t, .type T, b, rfl, .ty T, tyX_at hx e1, kit_ty e2, k _ st rfl (Le.refl st) hr (.bl b)⟩
  exact q
end

/-! ### methods of lists -/
def isL (S : Sto) (v : Val) : Bool := (lstOf S v).isSome
def mMeth (f : Sto → Val → List Val → Option (Val × Sto)) (o : M) (a : MG (List Val)) : M := fun ρ S => (o ρ S).bind fun p => if isL p.2 p.1 = true then (a ρ p.2).bind fun q => f q.2 p.1 q.1 else none
def fAppend : Sto → Val → List Val → Option (Val × Sto) := fun S o vs => match o, vs with
  | .loc n, [v] => match S[n]? with
    | some (.lst xs) => if xs.length < 100000 then some (.non, S.set n (.lst (xs ++ [v]))) else none
    | _ => none
  | _, _ => none
def fExtend : Sto → Val → List Val → Option (Val × Sto) := fun S o vs => match o, vs with
  | .loc n, [v] => match S[n]? with
    | some (.lst xs) => (lstOf S v).bind fun ys => if xs.length + ys.length ≤ 100000 then some (.non, S.set n (.lst (xs ++ ys))) else none
    | _ => none
  | _, _ => none
def fPopAt : Sto → Val → List Val → Option (Val × Sto) := fun S o vs => match o, vs with
  | .loc n, [.int i] => match S[n]? with
    | some (.lst xs) => (ixN xs.length i).bind fun j => xs[j]?.bind fun y => if xs.length ≤ 100000 then some (y, S.set n (.lst (xs.eraseIdx j))) else none
    | _ => none
  | _, _ => none
/-- the first place of an equal one -/
def fIndex : Sto → Val → List Val → Option (Val × Sto) := fun S o vs => match vs with
  | [v] => match o with
    | .lst xs => if okV v = true ∧ okV o = true then (xs.findIdx? fun z => vEq z v).map fun (j : Nat) => (.int (j : Int), S) else none
    | _ => none
  | _ => none
section
variable {K : PySem.W.Frag} {X : Cx} {o e : Expr} {es : List Expr} {mo : M} {ma : MG (List Val)} {apos cpos : Pos} {id : String} {name : Str}
theorem em_meth {r : V → List V → Hp → VK → Prop} {f : Sto → Val → List Val → Option (Val × Sto)} (slot : Slot "list" name id) (hty : typeOf (.builtin id) = pure (.type "method_descriptor")) (hm : MtR X id r) (hf : MtdM X.K r f) (ho : PE X o (tM X.K mo)) (ha : PA X (e :: es) (tA X.K ma))
    (hbase : attributeBase o name X.env (eval o X.env) = eval o X.env := by rfl)
    (hfew : ((backTo cpos (starEach (e :: es) X.env)).all (fun x => !x.1) && (backToKw cpos (keywordEach [] X.env)).all (fun x => x.1.isSome)
      && decide ((e :: es).length + ([] : List Keyword).length + (if ([] : List Keyword).isEmpty then 0 else 1) < 30)) = true := by rfl)
    (hline : (apos.endLine == cpos.line) = true := by rfl) (hs : starEach (e :: es) X.env = (false, eval e X.env) :: starEach es X.env := by rfl) (hplain : (backTo cpos (starEach es X.env)).any (·.1) = false := by rfl) :
    PE X (.Call (.Attribute o name apos) (e :: es) [] cpos) (tM X.K (mMeth f mo ma)) := by
  refine PE.imp (pe_bm PySem.F.plainAttrs_list slot hty hm ho ha hbase hfew hline hs hplain) fun σ H Q h => ?_
  obtain ⟨st, ρ, v, S', rfl, hr, he, hm, k⟩ := h
  simp only [mMeth, Option.bind_eq_some_iff, Prod.exists] at hm
  obtain ⟨va, S1, h1, h2⟩ := hm
  refine ⟨st, ρ, va, S1, rfl, hr, he, h1, fun x st1 e1 l1 r1 x1 => ?_⟩
  subst e1
  split at h2
  · rename_i hl
    obtain ⟨vs, hvs⟩ := Option.isSome_iff_exists.mp hl
    obtain ⟨p, ys, rfl, hs, rv⟩ := lst_at r1 x1 hvs
    simp only [Option.bind_eq_some_iff, Prod.exists] at h2
    obtain ⟨ws, S2, h3, h4⟩ := h2
    refine ⟨.inl ⟨rfl, ys, .inl (.inl hs)⟩, ⟨st1, ρ, ws, S2, rfl, r1, he.le l1.toLv, h3, fun zs st2 e2 l2 r2 x2 => ?_⟩⟩
    subst e2
    exact hf st2 _ zs va ws v S' Q r2 (x1.le l2.toLv) x2 h4 fun z st3 e3 l3 r3 x3 => k z st3 e3 (l1.trans (l2.trans l3)) r3 x3
  · cases h2
theorem fAppend_M : MtdM K rAppend fAppend := by
  intro st x xs a vs v S' Q hr hx hxs hf k
  unfold fAppend at hf
  split at hf
  · rename_i n w
    split at hf
    · rename_i ys e
      split at hf
      · rename_i hl
        obtain ⟨rfl, e2⟩ : .non = v ∧ st.S.set n (.lst (ys ++ [w])) = S' := by simpa using hf
        obtain ⟨y, rfl, hy⟩ := one_at hxs
        obtain ⟨p, zs, rfl, h1, h2, h3⟩ := lstN_at hr hx e
        refine ⟨p, zs, y, rfl, rfl, h2, Nat.lt_of_lt_of_le (by rw [h3.length]; exact hl) (by decide : 100000 ≤ sizeLine), ?_⟩
        exact set_k hr h1 e (by intro z; cases z) e2 (fun st' l eH => ⟨_, eH, (h3.le l).append (.cons (hy.le l) .nil)⟩) (fun st' l => .non) k
      · cases hf
    · cases hf
  · cases hf
theorem fExtend_M : MtdM K rExtend fExtend := by
  intro st x xs a vs v S' Q hr hx hxs hf k
  unfold fExtend at hf
  split at hf
  · rename_i n w
    split at hf
    · rename_i ys e
      simp only [Option.bind_eq_some_iff] at hf
      obtain ⟨ws, e1, hf⟩ := hf
      split at hf
      · rename_i hl
        obtain ⟨rfl, e2⟩ : .non = v ∧ st.S.set n (.lst (ys ++ ws)) = S' := by simpa using hf
        obtain ⟨y, rfl, hy⟩ := one_at hxs
        obtain ⟨p, zs, rfl, h1, h2, h3⟩ := lstN_at hr hx e
        obtain ⟨q, us, rfl, h4, h5⟩ := lst_at hr hy e1
        refine ⟨p, q, zs, us, rfl, rfl, h2, h4, sz1e5 (by rw [h3.length, h5.length]; exact hl), ?_⟩
        exact set_k hr h1 e (by intro z; cases z) e2 (fun st' l eH => ⟨_, eH, (h3.le l).append (h5.le l)⟩) (fun st' l => .non) k
      · cases hf
    · cases hf
  · cases hf
theorem fPopAt_M : MtdM K rPopAt fPopAt := by
  intro st x xs a vs v S' Q hr hx hxs hf k
  unfold fPopAt at hf
  split at hf
  · rename_i n i
    split at hf
    · rename_i ys e
      simp only [Option.bind_eq_some_iff] at hf
      obtain ⟨j, e1, y, e2, hf⟩ := hf
      split at hf
      · rename_i hl
        obtain ⟨rfl, e3⟩ : y = v ∧ st.S.set n (.lst (ys.eraseIdx j)) = S' := by simpa using hf
        obtain ⟨w, rfl, hw⟩ := one_at hxs
        cases hw
        obtain ⟨p, zs, rfl, h1, h2, h3⟩ := lstN_at hr hx e
        obtain ⟨z, hz1, hz2⟩ := h3.get' e2
        obtain ⟨q1, q2, q3, q4⟩ := ixN_seq e1
        have hl3 := h3.length
        refine ⟨p, zs, i, j, z, rfl, rfl, h2, by omega, by omega, by rw [hl3]; exact q1, hz1, ?_⟩
        exact set_k hr h1 e (by intro z; cases z) e3 (fun st' l eH => ⟨_, eH, (h3.le l).erase j⟩) (fun st' l => hz2.le l) k
      · cases hf
    · cases hf
  · cases hf
theorem toDs_get : ∀ (xs : List Val) (j : Nat), (toDs xs)[j]? = xs[j]?.map toD
  | [], j => by simp [toDs]
  | x :: xs, 0 => by simp [toDs]
  | x :: xs, j + 1 => by simp [toDs, toDs_get xs j]
theorem fIndex_M : MtdM K (rIndexD K) fIndex := by
  intro st x xs a vs v S' Q hr hx hxs hf k
  unfold fIndex at hf
  split at hf
  · rename_i w
    split at hf
    · rename_i ys
      split at hf
      · rename_i hok
        simp only [Option.map_eq_some_iff] at hf
        obtain ⟨j, e1, e2⟩ := hf
        obtain ⟨rfl, rfl⟩ : .int j = v ∧ st.S = S' := by simpa using e2
        obtain ⟨y, rfl, hy⟩ := one_at hxs
        obtain ⟨d1, s1⟩ := okV_dp hok.1 hy
        obtain ⟨d2, s2⟩ := okV_dp hok.2 hx
        cases hx with
        | @lst p zs _ h1 h2 h3 =>
          simp only [toD] at d2 s2
          obtain ⟨hj, g1, g2⟩ := List.findIdx?_eq_some_iff_getElem.mp e1
          refine ⟨p, y, _, _, j, toD ys[j], rfl, rfl, d2, d1, s2, s1, ?_, g1, fun m z' hm hz' => ?_, k _ st rfl (Le.refl st) hr (.int _)⟩
          · rw [toDs_get, List.getElem?_eq_getElem hj]
            rfl
          · rw [toDs_get, List.getElem?_eq_getElem (by omega)] at hz'
            obtain rfl := Option.some.inj hz'
            have := g2 m hm
            simpa [vEq] using this
      · cases hf
    · cases hf
  · cases hf
end
end Cw
end
section
/-! CwM5: dicts over the store. -/
namespace Cw
open PySem PySem.Spec PyProof.Rows L2

/-! ### what is being made becomes the store's, or a value -/
section
variable {K : PySem.W.Frag} {st st2 : Ste} {p : Addr} {u u' : HO} {o : Ob}
theorem made_fr (hr : Rep K st) (hp : st.H p = none) (l : Le K ⟨st.μ, upd st.H p u, st.S, p :: st.F⟩ st2) : p ∈ st2.F ∧ st2.H p = some u ∧ ∀ b, b ∈ st.F → b ∈ st2.F := by
  have h1 := l.fr p List.mem_cons_self
  exact ⟨h1.1, by rw [h1.2]; exact upd_same, fun b hb => (l.fr b (List.mem_cons_of_mem _ hb)).1⟩
theorem given (hr : Rep K st) (hp : st.H p = none) (c : Chg u) (c' : Chg u') (l : Le K ⟨st.μ, upd st.H p u, st.S, p :: st.F⟩ st2) (r2 : Rep K st2) (ho : ∀ st', Lv K st2 st' → st'.H p = some u' → RepO K st' p o) :
    Le K st ⟨st2.μ ++ [p], upd st2.H p u', st2.S ++ [o], st.F⟩ ∧ Rep K ⟨st2.μ ++ [p], upd st2.H p u', st2.S ++ [o], st.F⟩ ∧ RepV K ⟨st2.μ ++ [p], upd st2.H p u', st2.S ++ [o], st.F⟩ (.ref p) (.loc st2.S.length) := by
  obtain ⟨h1, h2, h3⟩ := made_fr hr hp l
  have l0 := make_le (u := u) hr hp
  have lg := give_lv (u := u') (o := o) (F' := st.F) r2 h1 h3
  refine ⟨⟨l0.toLv.trans (l.toLv.trans lg), fun b hb => ⟨hb, ?_⟩⟩, give_rep r2 h1 h3 (hr.notF hp) (ho _ lg upd_same), give_loc r2⟩
  have hbp : b ≠ p := fun z => hr.notF hp (z ▸ hb)
  show upd st2.H p u' b = _
  rw [upd_ne hbp, (l.fr b (List.mem_cons_of_mem _ hb)).2]
  exact upd_ne hbp
theorem finished (hr : Rep K st) (hp : st.H p = none) (l : Le K ⟨st.μ, upd st.H p u, st.S, p :: st.F⟩ st2) (r2 : Rep K st2) :
    Le K st ⟨st2.μ, st2.H, st2.S, st.F⟩ ∧ Rep K ⟨st2.μ, st2.H, st2.S, st.F⟩ ∧ Lv K st2 ⟨st2.μ, st2.H, st2.S, st.F⟩ := by
  obtain ⟨h1, h2, h3⟩ := made_fr hr hp l
  have l0 := make_le (u := u) hr hp
  have lg := done_lv (K := K) (st := st2) (F' := st.F) h3
  refine ⟨⟨l0.toLv.trans (l.toLv.trans lg), fun b hb => ⟨hb, ?_⟩⟩, done_rep r2 h3, lg⟩
  have hbp : b ≠ p := fun z => hr.notF hp (z ▸ hb)
  show st2.H b = _
  rw [(l.fr b (List.mem_cons_of_mem _ hb)).2]
  exact upd_ne hbp
end

/-! ### displays -/
def mPairs : List (Key × M) → MG (List (Key × Val))
  | [] => fun _ S => some ([], S)
  | q :: r => fun ρ S => (q.2 ρ S).bind fun p => (mPairs r ρ p.2).bind fun t => some ((q.1, p.1) :: t.1, t.2)
def mDisp (ms : List (Key × M)) : M := fun ρ S => (mPairs ms ρ S).bind fun p => if p.1.length ≤ 15 then some (.loc p.2.length, p.2 ++ [.dct (uK [] p.1)]) else none
def mNewK : M := fun _ S => some (.loc S.length, S ++ [.dct []])
def mNewT : M := fun _ S => some (.loc S.length, S ++ [.dcT []])
section
variable {X : Cx} {pos : Pos}
def PPM (X : Cx) (pos : Pos) (keys : List (Option Expr)) (values : List Expr) (ms : List (Key × M)) : Prop := PPs X pos keys values (ms.map fun q => (tC (kV q.1), tM X.K q.2))
theorem ppm_nil : PPM X pos [] [] [] := pps_nil
theorem ppm_cons {k : Str} {j kp} {v : Expr} {ks : List (Option Expr)} {vs : List Expr} {m : M} {ms : List (Key × M)} (hv : PE X v (tM X.K m)) (hr : PPM X pos ks vs ms) : PPM X pos (some (.Constant (.str k) j kp) :: ks) (v :: vs) ((.inr k, m) :: ms) :=
  pps_cons (k := .Constant (.str k) j kp) pe_str hv hr
theorem mPairs_M {K : PySem.W.Frag} : ∀ (ms : List (Key × M)) (st : Ste) (ρ : Env') (σ : L2.St) (kvs : List (Key × Val)) (S' : Sto) (Q : List (V × V) → Hp → Prop), Rep K st → RepE K st ρ σ → mPairs ms ρ st.S = some (kvs, S') →
    (∀ (ks : List (Key × V)) st', st'.S = S' → Le K st st' → Rep K st' → RepK K st' ks kvs → Q (ks.map fun kv => (kV kv.1, kv.2)) st'.H) → tPairs (ms.map fun q => (tC (kV q.1), tM K q.2)) σ st.H Q
  | [], st, ρ, σ, kvs, S', Q, hr, he, hm, k => by
    obtain ⟨rfl, rfl⟩ : [] = kvs ∧ st.S = S' := by simpa [mPairs] using hm
    exact k [] st rfl (Le.refl st) hr .nil
  | q :: ms, st, ρ, σ, kvs, S', Q, hr, he, hm, k => by
    simp only [mPairs, Option.bind_eq_some_iff, Prod.exists] at hm
    obtain ⟨v, S1, h1, r, S2, h2, h3⟩ := hm
    obtain ⟨rfl, rfl⟩ : (q.1, v) :: r = kvs ∧ S2 = S' := by simpa using h3
    refine ⟨st, ρ, v, S1, rfl, hr, he, h1, fun x st1 e1 l1 r1 x1 => ?_⟩
    subst e1
    refine mPairs_M ms st1 ρ σ r S2 _ r1 (he.le l1.toLv) h2 fun ks st2 e2 l2 r2 x2 => ?_
    exact k ((q.1, x) :: ks) st2 e2 (l1.trans l2) r2 (.cons (x1.le l2.toLv) x2)
theorem em_disp {keys : List (Option Expr)} {values : List Expr} {ms : List (Key × M)} (h : PPM X pos keys values ms) (hall : keys.all (·.isSome) = true := by rfl) (hl : keys.length = values.length := by rfl) (h0 : keys ≠ [] := by intro z; cases z) (h15 : keys.length ≤ 15 := by decide) :
    PE X (.Dict keys values pos) (tM X.K (mDisp ms)) := by
  refine PE.imp (pe_disp h hall hl h0 h15) fun σ H Q hh => ?_
  obtain ⟨st, ρ, v, S', rfl, hr, he, hm, k⟩ := hh
  simp only [mDisp, Option.bind_eq_some_iff, Prod.exists] at hm
  obtain ⟨kvs, S1, h1, h2⟩ := hm
  split at h2
  · rename_i hlen
    obtain ⟨rfl, rfl⟩ : .loc S1.length = v ∧ S1 ++ [.dct (uK [] kvs)] = S' := by simpa using h2
    intro p hp
    have l0 := make_le (u := .dK []) hr hp
    refine mPairs_M ms ⟨st.μ, upd st.H p (.dK []), st.S, p :: st.F⟩ ρ σ kvs S1 _ (make_rep hr (u := .dK []) trivial hp) (he.le l0.toLv) h1 fun ks st2 e2 l2 r2 x2 => ?_
    subst e2
    obtain ⟨g1, g2, g3⟩ := made_fr hr hp l2
    refine ⟨g2, ks, rfl, by rw [x2.length]; exact hlen, ?_⟩
    obtain ⟨q1, q2, q3⟩ := given (u := .dK []) (u' := .dK (mergeK [] ks)) (o := .dct (uK [] kvs)) hr hp trivial trivial l2 r2 fun st' l e => ⟨_, e, RepK.merge (x2.le l) .nil⟩
    exact k _ _ rfl q1 q2 q3
  · cases h2
theorem em_newK : PE X (.Dict [] [] pos) (tM X.K mNewK) := by
  refine PE.imp pe_dnewK fun σ H Q hh => ?_
  obtain ⟨st, ρ, v, S', rfl, hr, he, hm, k⟩ := hh
  obtain ⟨e1, e2⟩ : .loc st.S.length = v ∧ st.S ++ [.dct []] = S' := by simpa [mNewK] using hm
  exact fun p hp => new_k hr hp (u := .dK []) (o := .dct []) trivial e1 e2 (fun st' l e => ⟨_, e, .nil⟩) k
theorem em_newT : PE X (.Dict [] [] pos) (tM X.K mNewT) := by
  refine PE.imp pe_dnewT fun σ H Q hh => ?_
  obtain ⟨st, ρ, v, S', rfl, hr, he, hm, k⟩ := hh
  obtain ⟨e1, e2⟩ : .loc st.S.length = v ∧ st.S ++ [.dcT []] = S' := by simpa [mNewT] using hm
  exact fun p hp => new_k hr hp (u := .dT []) (o := .dcT []) trivial e1 e2 (fun st' l e => ⟨_, e, .nil⟩) k
end

/-! ### dict(..) -/
def pairOf : Val → Option (Key × Val)
  | .tup [k, v] => (keyOf k).map fun k => (k, v)
  | _ => none
def pairsOf : List Val → Option (List (Key × Val))
  | [] => some []
  | v :: r => (pairOf v).bind fun p => (pairsOf r).map fun q => p :: q
def fDict : FL := fun S vs => match vs with
  | [.loc n] => match S[n]? with
    | some (.dct kvs) => if kvs.length ≤ 1000 then some (.loc S.length, S ++ [.dct kvs]) else none
    | _ => none
  | [.tup xs] => (pairsOf xs).map fun kvs => (.loc S.length, S ++ [.dct (uK [] kvs)])
  | _ => none
def mDictC (kvs : List (Key × Val)) : M := fun _ S => some (.loc S.length, S ++ [.dct kvs])
def zipK : List Val → List Val → Option (List (Key × Val))
  | [], [] => some []
  | x :: xs, y :: ys => (keyOf x).bind fun k => (zipK xs ys).map fun q => (k, y) :: q
  | _, _ => none
def fDictZip : FL := fun S vs => match vs with
  | [.tup xs, .tup ys] => if xs.length ≤ 1000 then (zipK xs ys).map fun kvs => (.loc S.length, S ++ [.dct (uK [] kvs)]) else none
  | _ => none
section
variable {K : PySem.W.Frag} {X : Cx} {pos : Pos}
theorem pairs_rep {st : Ste} : ∀ {xs : List V} {vs : List Val} {kvs : List (Key × Val)}, RepVs K st xs vs → pairsOf vs = some kvs →
    ∃ (ps : List Addr) (ks : List (Key × V)), xs = ps.map V.ref ∧ Paired (fun p kv => SqT K st.H p [kV kv.1, kv.2]) ps ks ∧ RepK K st ks kvs
  | _, _, kvs, .nil, h => by
    obtain rfl : [] = kvs := by simpa [pairsOf] using h
    exact ⟨[], [], rfl, .nil, .nil⟩
  | _, _, kvs, .cons (v := v) r t, h => by
    simp only [pairsOf, Option.bind_eq_some_iff, Option.map_eq_some_iff] at h
    obtain ⟨kv, h1, q, h2, rfl⟩ := h
    unfold pairOf at h1
    split at h1
    · rename_i a b
      simp only [Option.map_eq_some_iff] at h1
      obtain ⟨key, h3, rfl⟩ := h1
      obtain ⟨ps, ks, e1, e2, e3⟩ := pairs_rep t h2
      cases r with
      | @tup p ys _ g1 g2 =>
        obtain ⟨x, y, rfl, g3, g4⟩ := two_at g2
        have := key_at g3 h3
        subst this
        exact ⟨p :: ps, (key, y) :: ks, by rw [e1]; rfl, .cons g1.sq e2, .cons g4 e3⟩
    · cases h1
theorem fDict_M : CallM X.K (fun xs H Q => rDictD X.prog X.w X.K xs H Q ∨ rDictT X.K xs H Q) fDict := by
  intro st xs vs v S' Q hr hx hf k
  show rDictD X.prog X.w X.K xs st.H Q ∨ rDictT X.K xs st.H Q
  unfold fDict at hf
  split at hf
  · split at hf
    · rename_i n kvs e
      split at hf
      · rename_i hl
        obtain ⟨e1, e2⟩ : .loc st.S.length = v ∧ st.S ++ [.dct kvs] = S' := by simpa using hf
        obtain ⟨x, rfl, h1⟩ := one_at hx
        obtain ⟨p, ks, rfl, g1, g2, g3⟩ := dct_at hr h1 e
        exact .inl ⟨p, ks, rfl, .inl (.inl g2), by rw [g3.length]; exact hl, fun q hq => new_k hr hq (u := .dK ks) (o := .dct kvs) trivial e1 e2 (fun st' l e => ⟨_, e, g3.le l⟩) k⟩
      · cases hf
    · cases hf
  · simp only [Option.map_eq_some_iff] at hf
    obtain ⟨kvs, e0, e3⟩ := hf
    obtain ⟨e1, e2⟩ : .loc st.S.length = v ∧ st.S ++ [.dct (uK [] kvs)] = S' := by simpa using e3
    obtain ⟨x, rfl, h1⟩ := one_at hx
    cases h1 with
    | @tup p ys _ g1 g2 =>
      obtain ⟨ps, ks, rfl, g3, g4⟩ := pairs_rep g2 e0
      exact .inr ⟨p, ps, ks, rfl, g1, g3, fun q hq => new_k hr hq (u := .dK (mergeK [] ks)) (o := .dct (uK [] kvs)) trivial e1 e2 (fun st' l e => ⟨_, e, RepK.merge (g4.le l) .nil⟩) k⟩
  · cases hf
theorem cr_dictA (hc : X.calm = true) : CallR X (.type "dict") (fun xs H Q => rDictD X.prog X.w X.K xs H Q ∨ rDictT X.K xs H Q) := cr_dictD.or (cr_dictT hc)
/-- dict(D), D a dict of the module -/
theorem em_dictC {x : Str} {a : Addr} {ks : List (Key × V)} {kvs : List (Key × Val)} {p p2 : Pos} (hg : Gl X "dict") (hm : X.mg "dict" = none) (hv : bootBuiltins "dict" = some (.type "dict")) (hgx : Gl X x) (hmx : X.mg x = some (.ref a)) (hk : KDk X.prog X.w X.K a ks) (hz : ks.length ≤ 1000) (hr : ∀ st, RepK X.K st ks kvs)
    (hdx : (x == ("__debug__" : Str)) = false := by decide) (he2 : starEach [.Name x p2] X.env = (false, eval (.Name x p2) X.env) :: starEach [] X.env := by rfl) : PE X (.Call (.Name "dict" p) [.Name x p2] [] pos) (tM X.K (mDictC kvs)) := by
  refine PE.imp (pe_callTy cr_dictD hg hm hv (pa_cons (pe_glob (v := .ref a) hgx hmx rfl hdx) pa_nil he2) (by decide) (by decide) he2 (by rfl)) fun σ H Q hh => ?_
  obtain ⟨st, ρ, v, S', rfl, hr', he, hm, k⟩ := hh
  obtain ⟨e1, e2⟩ : .loc st.S.length = v ∧ st.S ++ [.dct kvs] = S' := by simpa [mDictC] using hm
  exact ⟨a, ks, rfl, .inr hk, hz, fun q hq => new_k hr' hq (u := .dK ks) (o := .dct kvs) trivial e1 e2 (fun st' l e => ⟨_, e, hr st'⟩) k⟩
theorem zip_rep {st : Ste} : ∀ {xs ys : List V} {vs ws : List Val} {kvs : List (Key × Val)}, RepVs K st xs vs → RepVs K st ys ws → zipK vs ws = some kvs →
    xs.length = ys.length ∧ ∃ ks : List (Key × V), xs = ks.map (fun kv => kV kv.1) ∧ ys = ks.map (·.2) ∧ RepK K st ks kvs
  | _, _, _, _, kvs, .nil, .nil, h => by
    obtain rfl : [] = kvs := by simpa [zipK] using h
    exact ⟨rfl, [], rfl, rfl, .nil⟩
  | _, _, _, _, _, .nil, .cons _ _, h => by simp [zipK] at h
  | _, _, _, _, _, .cons _ _, .nil, h => by simp [zipK] at h
  | _, _, _, _, kvs, .cons r t, .cons (x := y) r' t', h => by
    simp only [zipK, Option.bind_eq_some_iff, Option.map_eq_some_iff] at h
    obtain ⟨key, h1, q, h2, rfl⟩ := h
    obtain ⟨l, ks, e1, e2, e3⟩ := zip_rep t t' h2
    have := key_at r h1
    subst this
    exact ⟨by simp [l], (key, y) :: ks, by rw [e1]; rfl, by rw [e2]; rfl, .cons r' e3⟩
theorem paired_of_at {H : Hp} : ∀ {ts : List Addr} {ks : List (Key × V)}, ts.length = ks.length → (∀ (j : Nat) (t : Addr), ts[j]? = some t → ∃ kv, ks[j]? = some kv ∧ H t = some (.tup [kV kv.1, kv.2])) → Paired (fun p kv => SqT K H p [kV kv.1, kv.2]) ts ks
  | [], [], _, _ => .nil
  | [], _ :: _, h, _ => by simp at h
  | _ :: _, [], h, _ => by simp at h
  | t :: ts, kv :: ks, h, f => by
    refine .cons ?_ (paired_of_at (by simpa using h) fun j t e => ?_)
    · obtain ⟨kv', e1, e2⟩ := f 0 t rfl
      obtain rfl : kv = kv' := by simpa using e1
      exact .inl (.inl e2)
    · obtain ⟨kv', e1, e2⟩ := f (j + 1) t (by simpa using e)
      exact ⟨kv', by simpa using e1, e2⟩
/-- dict(list(zip(e, f, strict=True))) -/
theorem em_dictZip {e e2 : Expr} {ma : MG (List Val)} {pd pl p zpos kpos kp lpos : Pos} {j : Nat} (hc : X.calm = true) (hgd : Gl X "dict") (hmd : X.mg "dict" = none) (hvd : bootBuiltins "dict" = some (.type "dict")) (hgl : Gl X "list") (hml : X.mg "list" = none) (hvl : bootBuiltins "list" = some (.type "list")) (hg : Gl X "zip") (hm : X.mg "zip" = none) (ha : PA X [e, e2] (tA X.K ma))
    (hs : starEach [e, e2] X.env = (false, eval e X.env) :: starEach [e2] X.env := by rfl) (hpl : (backTo zpos (starEach [e, e2] X.env)).any (·.1) = false := by rfl)
    (hst : starEach [.Call (.Name "zip" p) [e, e2] [⟨some "strict", .Constant (.bool true) j kp, kpos⟩] zpos] X.env = (false, eval (.Call (.Name "zip" p) [e, e2] [⟨some "strict", .Constant (.bool true) j kp, kpos⟩] zpos) X.env) :: starEach [] X.env := by rfl)
    (hsl : starEach [.Call (.Name "list" pl) [.Call (.Name "zip" p) [e, e2] [⟨some "strict", .Constant (.bool true) j kp, kpos⟩] zpos] [] lpos] X.env = (false, eval (.Call (.Name "list" pl) [.Call (.Name "zip" p) [e, e2] [⟨some "strict", .Constant (.bool true) j kp, kpos⟩] zpos] [] lpos) X.env) :: starEach [] X.env := by rfl) :
    PE X (.Call (.Name "dict" pd) [.Call (.Name "list" pl) [.Call (.Name "zip" p) [e, e2] [⟨some "strict", .Constant (.bool true) j kp, kpos⟩] zpos] [] lpos] [] pos) (tM X.K (mCall fDictZip ma)) := by
  refine PE.imp (pe_callTy (call_dictP hc) hgd hmd hvd (pa_cons (pe_listZip hc hgl hml hvl hg hm ha hs hpl hst) pa_nil hsl) (by decide) (by decide) hsl (by rfl)) fun σ H Q hh => ?_
  obtain ⟨st, ρ, v, S', rfl, hr, he, hm, k⟩ := hh
  simp only [mCall, Option.bind_eq_some_iff, Prod.exists] at hm
  obtain ⟨vs, S1, h1, h2⟩ := hm
  refine ⟨st, ρ, vs, S1, rfl, hr, he, h1, fun xs st1 e1 l1 r1 x1 => ?_⟩
  subst e1
  unfold fDictZip at h2
  split at h2
  · rename_i us ws
    split at h2
    · rename_i hl
      simp only [Option.map_eq_some_iff] at h2
      obtain ⟨kvs, e0, e3⟩ := h2
      obtain ⟨e4, e5⟩ : .loc st1.S.length = v ∧ st1.S ++ [.dct (uK [] kvs)] = S' := by simpa using e3
      obtain ⟨x, y, rfl, hx, hy⟩ := two_at x1
      cases hx with
      | @tup a xs _ a1 a2 =>
        cases hy with
        | @tup b ys _ b1 b2 =>
          obtain ⟨hlen, ks, rfl, rfl, rk⟩ := zip_rep a2 b2 e0
          refine ⟨a, b, _, _, rfl, a1.sq, b1.sq, hlen, by rw [a2.length]; exact hl, fun H' p ts sm hn hp hat => ?_⟩
          obtain ⟨lg, rg⟩ := grow r1 (H' := H') sm
          refine ⟨p, ts, ks, rfl, .inl (.inl hp), paired_of_at (by rw [hat.1]; simp) (fun j t e => ?_), fun q hq => ?_⟩
          · obtain ⟨x, y, g1, g2, g3⟩ := hat.2 j t e
            rw [List.getElem?_map, Option.map_eq_some_iff] at g1 g2
            obtain ⟨kv, g4, rfl⟩ := g1
            obtain ⟨kv', g5, rfl⟩ := g2
            rw [g4] at g5
            obtain rfl := Option.some.inj g5
            exact ⟨kv, g4, g3⟩
          · exact new_k (st := ⟨st1.μ, H', st1.S, st1.F⟩) rg hq (u := .dK (mergeK [] ks)) (o := .dct (uK [] kvs)) trivial e4 e5 (fun st' l e => ⟨_, e, RepK.merge ((rk.le lg.toLv).le l) .nil⟩) fun z st3 e3 l3 r3 x3 => k z st3 e3 (l1.trans (lg.trans l3)) r3 x3
    · cases h2
  · cases h2
end

/-! ### d.update(e), d.get(k, x), d.setdefault((..), x) -/
def isDc (S : Sto) (v : Val) : Bool := match v with
  | .loc n => match S[n]? with
    | some (.dct _) => true
    | _ => false
  | _ => false
def fUpd : F2 := fun S a b => match a, b with
  | .loc n, .loc m => if n = m then none else match S[n]?, S[m]? with
    | some (.dct kvs), some (.dct more) => if kvs.length + more.length ≤ 1000 then some (.non, S.set n (.dct (uK kvs more))) else none
    | _, _ => none
  | _, _ => none
def mUpd (o e : M) : M := fun ρ S => (o ρ S).bind fun p => if isDc p.2 p.1 = true then (e ρ p.2).bind fun q => fUpd q.2 p.1 q.1 else none
def mGet2 (o k d : M) : M := fun ρ S => (o ρ S).bind fun p => if isDc p.2 p.1 = true then (k ρ p.2).bind fun q => (d ρ q.2).bind fun r => match p.1 with
  | .loc n => match r.2[n]? with
    | some (.dct kvs) => (keyOf q.1).map fun key => ((gK kvs key).getD r.1, r.2)
    | _ => none
  | _ => none else none
def keysOf : List Val → Option (List Key)
  | [] => some []
  | v :: r => (keyOf v).bind fun k => (keysOf r).map fun q => k :: q
def isDT (S : Sto) (v : Val) : Bool := match v with
  | .loc n => match S[n]? with
    | some (.dcT _) => true
    | _ => false
  | _ => false
def fSetd (S : Sto) (a : Val) (key : List Key) (d : Val) : Option (Val × Sto) := match a with
  | .loc n => match S[n]? with
    | some (.dcT kvs) => if kvs.length < 100000 then match gK kvs key with
      | some v => some (v, S)
      | none => some (d, S.set n (.dcT (pK kvs key d)))
      else none
    | _ => none
  | _ => none
def mSetd (o : M) (k : MG (List Val)) (d : M) : M := fun ρ S => (o ρ S).bind fun p => if isDT p.2 p.1 = true then (k ρ p.2).bind fun q => if q.1.length ≤ 1000 then (d ρ q.2).bind fun r => (keysOf q.1).bind fun key => fSetd r.2 p.1 key r.1 else none else none
section
variable {K : PySem.W.Frag} {X : Cx} {pos : Pos}
theorem isDc_at {st : Ste} (hr : Rep K st) {x : V} {v : Val} (r : RepV K st x v) (h : isDc st.S v = true) : ∃ a, x = .ref a ∧ IsD st.H a := by
  unfold isDc at h
  split at h
  · split at h
    · rename_i n kvs e
      obtain ⟨a, ks, rfl, _, g, _⟩ := dct_at hr r e
      exact ⟨a, rfl, .inl ⟨ks, .inl g⟩⟩
    · cases h
  · cases h
theorem isDT_at {st : Ste} (hr : Rep K st) {x : V} {v : Val} (r : RepV K st x v) (h : isDT st.S v = true) : ∃ a, x = .ref a ∧ IsD st.H a := by
  unfold isDT at h
  split at h
  · split at h
    · rename_i n kvs e
      obtain ⟨a, ks, rfl, _, g, _⟩ := dcT_at hr r e
      exact ⟨a, rfl, .inr ⟨ks, .inl g⟩⟩
    · cases h
  · cases h
variable {o e f : Expr} {mo me mf : M} {apos cpos : Pos}
theorem em_dupd (ho : PE X o (tM X.K mo)) (he : PE X e (tM X.K me)) (m : M1 X o "update" apos e cpos := by exact ⟨by rfl, by rfl, by rfl, by rfl⟩) : PE X (.Call (.Attribute o "update" apos) [e] [] cpos) (tM X.K (mUpd mo me)) := by
  refine PE.imp (pe_dupd ho he m) fun σ H Q hh => ?_
  obtain ⟨st, ρ, v, S', rfl, hr, he, hm, k⟩ := hh
  simp only [mUpd, Option.bind_eq_some_iff, Prod.exists] at hm
  obtain ⟨va, S1, h1, h2⟩ := hm
  split at h2
  · rename_i hd
    simp only [Option.bind_eq_some_iff, Prod.exists] at h2
    obtain ⟨vb, S2, h3, h4⟩ := h2
    refine ⟨st, ρ, va, S1, rfl, hr, he, h1, fun x st1 e1 l1 r1 x1 => ?_⟩
    subst e1
    obtain ⟨a, rfl, hD⟩ := isDc_at r1 x1 hd
    refine ⟨a, rfl, hD, st1, ρ, vb, S2, rfl, r1, he.le l1.toLv, h3, fun y st2 e2 l2 r2 x2 => ?_⟩
    subst e2
    unfold fUpd at h4
    split at h4
    · rename_i n m'
      split at h4
      · cases h4
      · rename_i hne
        split at h4
        · rename_i kvs more en em
          split at h4
          · rename_i hz
            obtain ⟨rfl, e5⟩ : .non = v ∧ st2.S.set n (.dct (uK kvs more)) = S' := by simpa using h4
            obtain ⟨p, ks, ep, g1, g2, g3⟩ := dct_at r2 (x1.le l2.toLv) en
            cases ep
            obtain ⟨q, ms, rfl, g4, g5, g6⟩ := dct_at r2 x2 em
            refine ⟨q, ks, ms, rfl, g2, .inl (.inl g5), fun z => ?_, by rw [g3.length, g6.length]; exact hz, ?_⟩
            · subst z
              exact hne (r2.inj g1 g4)
            · exact set_k r2 g1 en (by intro z; cases z) e5 (fun st' l eH => ⟨_, eH, RepK.merge (g6.le l) (g3.le l)⟩) (fun st' l => .non) fun z st3 e3 l3 r3 x3 => k z st3 e3 (l1.trans (l2.trans l3)) r3 x3
          · cases h4
        · cases h4
    · cases h4
  · cases h2
theorem em_dget2 (hu : X.A.units + 65 < cLine) (ho : PE X o (tM X.K mo)) (he : PE X e (tM X.K me)) (hf : PE X f (tM X.K mf)) (m : M2 X o "get" apos e f cpos := by exact ⟨by rfl, by rfl, by rfl, by rfl⟩) : PE X (.Call (.Attribute o "get" apos) [e, f] [] cpos) (tM X.K (mGet2 mo me mf)) := by
  refine PE.imp (pe_dget2 (by omega) ho he hf m) fun σ H Q hh => ?_
  obtain ⟨st, ρ, v, S', rfl, hr, he, hm, k⟩ := hh
  simp only [mGet2, Option.bind_eq_some_iff, Prod.exists] at hm
  obtain ⟨va, S1, h1, h2⟩ := hm
  split at h2
  · rename_i hd
    simp only [Option.bind_eq_some_iff, Prod.exists] at h2
    obtain ⟨vb, S2, h3, vc, S3, h4, h5⟩ := h2
    refine ⟨st, ρ, va, S1, rfl, hr, he, h1, fun x st1 e1 l1 r1 x1 => ?_⟩
    subst e1
    obtain ⟨a, rfl, hD⟩ := isDc_at r1 x1 hd
    refine ⟨a, rfl, hD, st1, ρ, vb, S2, rfl, r1, he.le l1.toLv, h3, fun y st2 e2 l2 r2 x2 => ?_⟩
    subst e2
    refine ⟨st2, ρ, vc, S3, rfl, r2, (he.le l1.toLv).le l2.toLv, h4, fun z st3 e3 l3 r3 x3 => ?_⟩
    subst e3
    split at h5
    · split at h5
      · rename_i n kvs en
        simp only [Option.map_eq_some_iff] at h5
        obtain ⟨key, e5, e6⟩ := h5
        obtain ⟨rfl, rfl⟩ : (gK kvs key).getD vc = v ∧ st3.S = S' := by simpa using e6
        obtain ⟨p, ks, ep, g1, g2, g3⟩ := dct_at r3 (x1.le (l2.trans l3).toLv) en
        cases ep
        have := key_at x2 e5
        subst this
        have hv := g3.val (k := key)
        refine ⟨_, DGet.k g2, ?_⟩
        cases ek : gK kvs key with
        | none =>
          rw [hv.2 ek]
          exact k _ st3 rfl (l1.trans (l2.trans l3)) r3 (by rw [ek]; exact x3)
        | some w =>
          obtain ⟨y, g4, g5⟩ := hv.1 w ek
          rw [g4]
          exact k _ st3 rfl (l1.trans (l2.trans l3)) r3 (by rw [ek]; exact g5)
      · cases h5
    · cases h5
  · cases h2
/-- d.setdefault((..), x) -/
def tSetdT (td te tx : TE) : TE := fun σ H Q => td σ H fun x H1 => ∃ a, x = .ref a ∧ IsD H1 a ∧ te σ H1 fun y H2 => tx σ H2 fun z H3 => ∃ (b : Addr) (kvs : List (List Key × V)) (k : List Key), y = .ref b ∧ H3 a = some (.dT kvs) ∧ H3 b = some (.tup (k.map kV)) ∧ kvs.length < sizeLine ∧
  (∀ v, valV kvs k = some v → Q v H3) ∧ (valV kvs k = none → Q z (upd H3 a (.dT (putK kvs k z))))
theorem pe_setdT {td te tx : TE} (hu : X.A.units + 65 < cLine) (ho : PE X o td) (he : PE X e te) (hf : PE X f tx) (m : M2 X o "setdefault" apos e f cpos) : PE X (.Call (.Attribute o "setdefault" apos) [e, f] [] cpos) (tSetdT td te tx) := by
  constructor
  intro pins s σ H Q I h
  refine wpAny_Call_method m.base m.few m.line PySem.F.plainAttrs_dict PySem.F.slot_dict_setdefault PySem.F.type_dict_setdefault (thn (ho.run pins s σ H _ I h) fun u s1 h1 => ?_)
  obtain ⟨x, H1, I1, rx, a, rfl, d, q1⟩ := h1
  obtain rfl : u = Value.ref a := rx
  refine ⟨(isD_at I1 d).1, (isD_at I1 d).2.1, ?_⟩
  rw [m.trees]
  refine Calls.callWith_builtin rfl (Calls.evalArgs_plain (Calls.spliced_cons (thn (he.run pins s1 σ H1 _ I1 q1) fun iv s2 h2 => ?_)))
  obtain ⟨y, H2, I2, ry, q2⟩ := h2
  refine Calls.spliced_cons (thn (hf.run pins s2 σ H2 _ I2 q2) fun fv s3 h3 => Calls.spliced_nil ?_)
  obtain ⟨z, H3, I3, rz, b, kvs, key, rfl, ea, eb, hl, q3, q4⟩ := h3
  obtain rfl : iv = Value.ref b := ry
  exact d_setdT (by omega) I3 ea eb rz hl (fun v hv w' s' I4 rw' => ⟨v, H3, I4, rw', q3 v hv⟩) fun hn s' I4 => ⟨z, _, I4, rz, q4 hn⟩
theorem keys_at {st : Ste} : ∀ {xs : List V} {vs : List Val} {ks : List Key}, RepVs K st xs vs → keysOf vs = some ks → xs = ks.map kV
  | _, _, ks, .nil, h => by
    obtain rfl : [] = ks := by simpa [keysOf] using h
    rfl
  | _, _, ks, .cons r t, h => by
    simp only [keysOf, Option.bind_eq_some_iff, Option.map_eq_some_iff] at h
    obtain ⟨k, h1, q, h2, rfl⟩ := h
    rw [key_at r h1, keys_at t h2]
    rfl
theorem em_setdT {es : List Expr} {j} {tpos : Pos} {mk : MG (List Val)} (hu : X.A.units + 65 < cLine) (ho : PE X o (tM X.K mo)) (he : PA X es (tA X.K mk)) (hf : PE X f (tM X.K mf)) (m : M2 X o "setdefault" apos (.Tuple es j tpos) f cpos := by exact ⟨by rfl, by rfl, by rfl, by rfl⟩) :
    PE X (.Call (.Attribute o "setdefault" apos) [.Tuple es j tpos, f] [] cpos) (tM X.K (mSetd mo mk mf)) := by
  refine PE.imp (pe_setdT hu ho (pe_tup he) hf m) fun σ H Q hh => ?_
  obtain ⟨st, ρ, v, S', rfl, hr, he, hm, k⟩ := hh
  simp only [mSetd, Option.bind_eq_some_iff, Prod.exists] at hm
  obtain ⟨va, S1, h1, h2⟩ := hm
  split at h2
  · rename_i hd
    simp only [Option.bind_eq_some_iff, Prod.exists] at h2
    obtain ⟨vk, S2, h3, h4⟩ := h2
    split at h4
    · rename_i hlk
      simp only [Option.bind_eq_some_iff, Prod.exists] at h4
      obtain ⟨vd, S3, h5, key, h6, h7⟩ := h4
      refine ⟨st, ρ, va, S1, rfl, hr, he, h1, fun x st1 e1 l1 r1 x1 => ?_⟩
      subst e1
      obtain ⟨a, rfl, hD⟩ := isDT_at r1 x1 hd
      refine ⟨a, rfl, hD, st1, ρ, vk, S2, rfl, r1, he.le l1.toLv, h3, fun ys st2 e2 l2 r2 x2 => ⟨sz1000 (by rw [x2.length]; exact hlk), fun p hp => ?_⟩⟩
      subst e2
      obtain ⟨lt, rt⟩ := lay (u := .tup ys) r2 hp
      refine ⟨⟨st2.μ, upd st2.H p (.tup ys), st2.S, st2.F⟩, ρ, vd, S3, rfl, rt, ((he.le l1.toLv).le l2.toLv).le lt.toLv, h5, fun z st3 e3 l3 r3 x3 => ?_⟩
      subst e3
      have hk := keys_at x2 h6
      unfold fSetd at h7
      split at h7
      · split at h7
        · rename_i n kvs en
          split at h7
          · rename_i hl
            obtain ⟨p', ks, ep, g1, g2, g3⟩ := dcT_at r3 (x1.le (l2.trans (lt.trans l3)).toLv) en
            cases ep
            have hv := g3.val (k := key)
            refine ⟨p, ks, key, rfl, g2, l3.tpx _ _ (by rw [← hk]; exact upd_same), Nat.lt_of_lt_of_le (by rw [g3.length]; exact hl) (by decide : 100000 ≤ sizeLine), fun w hw => ?_, fun hn => ?_⟩
            · split at h7
              · rename_i v' ev
                obtain ⟨rfl, rfl⟩ : v' = v ∧ st3.S = S' := by simpa using h7
                obtain ⟨y, g4, g5⟩ := hv.1 v' ev
                rw [hw] at g4
                obtain rfl := Option.some.inj g4
                exact k w st3 rfl (l1.trans (l2.trans (lt.trans l3))) r3 g5
              · rename_i ev
                rw [hv.2 ev] at hw
                cases hw
            · split at h7
              · rename_i v' ev
                obtain ⟨y, g4, g5⟩ := hv.1 v' ev
                rw [hn] at g4
                cases g4
              · obtain ⟨rfl, e5⟩ := Prod.mk.inj (Option.some.inj h7)
                exact set_k (o' := .dcT (pK kvs key vd)) r3 g1 en (by intro z; cases z) e5 (fun st' l eH => ⟨_, eH, RepK.put (x3.le l) (g3.le l)⟩) (fun st' l => x3.le l) fun z st4 e4 l4 r4 x4 => k z st4 e4 (l1.trans (l2.trans (lt.trans (l3.trans l4)))) r4 x4
          · cases h7
        · cases h7
      · cases h7
    · cases h4
  · cases h2
end
end Cw
end
section
/-! CwM6: targets, walks, comprehensions over the store. -/
namespace Cw
open PySem PySem.Spec PyProof.Rows L2

/-! ### targets -/
abbrev MT := Val → Env' → Sto → Option (Env' × Sto)
abbrev MTs := List Val → Env' → Sto → Option (Env' × Sto)
/-- slots other than is stay -/
def Only' (is : List Nat) (σ σ' : L2.St) : Prop := ∀ ws : List Nat, (∀ i, i ∈ is → i ∈ ws) → L2.wipe σ' ws = L2.wipe σ ws
def gM (K : PySem.W.Frag) (is : List Nat) (mg : MT) : TG := fun x σ H Q => ∃ (st : Ste) (ρ : Env') (v : Val) (ρ' : Env') (S' : Sto), st.H = H ∧ Rep K st ∧ RepE K st ρ σ ∧ RepV K st x v ∧ mg v ρ st.S = some (ρ', S') ∧
  ∀ σ' st', st'.S = S' → Le K st st' → Rep K st' → RepE K st' ρ' σ' → Only' is σ σ' → Q σ' st'.H
def gMs (K : PySem.W.Frag) (is : List Nat) (mg : MTs) : TGs := fun xs σ H Q => ∃ (st : Ste) (ρ : Env') (vs : List Val) (ρ' : Env') (S' : Sto), st.H = H ∧ Rep K st ∧ RepE K st ρ σ ∧ RepVs K st xs vs ∧ mg vs ρ st.S = some (ρ', S') ∧
  ∀ σ' st', st'.S = S' → Le K st st' → Rep K st' → RepE K st' ρ' σ' → Only' is σ σ' → Q σ' st'.H
theorem wipe_mem : ∀ {ws : List Nat} {σ : L2.St} {i : Nat} {o : Option V}, i ∈ ws → L2.wipe (σ.set i o) ws = L2.wipe σ ws
  | w :: ws, σ, i, o, h => by
    unfold L2.wipe
    by_cases e : i ∈ ws
    · rw [wipe_mem e]
    · have hi : i = w := by rcases List.mem_cons.mp h with z | z; exact z; exact absurd z e
      subst hi
      have : ∀ (ws : List Nat), i ∉ ws → L2.wipe (σ.set i o) ws = (L2.wipe σ ws).set i o := by
        intro ws
        induction ws with
        | nil => intro _; rfl
        | cons u us ih =>
          intro hn
          unfold L2.wipe
          rw [ih (fun z => hn (List.mem_cons_of_mem _ z)), List.set_comm _ _ (fun z => hn (by rw [z]; exact List.mem_cons_self))]
      rw [this ws e, List.set_set]
theorem Only'.name {i : Nat} {σ : L2.St} {o : Option V} : Only' [i] σ (σ.set i o) := fun ws h => wipe_mem (h i (by simp))
theorem Only'.trans {is js : List Nat} {σ σ' σ'' : L2.St} (a : Only' is σ σ') (b : Only' js σ' σ'') : Only' (is ++ js) σ σ'' := fun ws h =>
  (b ws fun i hi => h i (List.mem_append_right _ hi)).trans (a ws fun i hi => h i (List.mem_append_left _ hi))
theorem wipe_idem (σ : L2.St) (ws : List Nat) : L2.wipe (L2.wipe σ ws) ws = L2.wipe σ ws := by
  have : ∀ us : List Nat, (∀ i, i ∈ us → i ∈ ws) → L2.wipe (L2.wipe σ us) ws = L2.wipe σ ws := by
    intro us
    induction us with
    | nil => intro _; rfl
    | cons u us ih =>
      intro h
      show L2.wipe ((L2.wipe σ us).set u none) ws = _
      rw [wipe_mem (h u List.mem_cons_self)]
      exact ih fun i hi => h i (List.mem_cons_of_mem _ hi)
  exact this ws fun _ h => h
def mName (i : Nat) : MT := fun v ρ S => some (ρ.set i (some v), S)
def mTNil : MTs := fun vs ρ S => match vs with
  | [] => some (ρ, S)
  | _ => none
def mTCons (m : MT) (r : MTs) : MTs := fun vs ρ S => match vs with
  | v :: vs => (m v ρ S).bind fun p => r vs p.1 p.2
  | _ => none
def mTTup (n : Nat) (m : MTs) : MT := fun v ρ S => match v with
  | .tup vs => if vs.length = n then m vs ρ S else none
  | _ => none
/-- the target at place i of n is a star -/
def mTStar (n i : Nat) (m : MTs) : MT := fun v ρ S => match v with
  | .tup vs => if n ≤ vs.length + 1 ∧ vs.length ≤ 1000 then m (vs.take i ++ [.lst ((vs.drop i).take (vs.length + 1 - n))] ++ (vs.drop i).drop (vs.length + 1 - n)) ρ S else none
  | _ => none
section
variable {X : Cx} {pos : Pos}
theorem PGs.imp {X : Cx} {e : List Expr} {t t' : TGs} (h : PGs X e t) (k : ∀ v σ H Q, t' v σ H Q → t v σ H Q) : PGs X e t' := ⟨fun pins s σ H x v Q I r q => h.run pins s σ H x v Q I r (k x σ H Q q)⟩
theorem gm_name {i : Nat} {x : Str} (hN : X.N.Nodup) (hi : X.N[i]? = some x) (hx : Loc X.env.scope x) (hf : X.fn x = true ∨ X.env.scope.names.lookup x = some .local := by first | exact .inl rfl | exact .inr rfl | assumption) : PG X (.Name x pos) (gM X.K [i] (mName i)) := by
  refine PG.imp (pg_name hN hi hx hf) fun x σ H Q h => ?_
  obtain ⟨st, ρ, v, ρ', S', rfl, hr, he, hx, hm, k⟩ := h
  obtain ⟨rfl, rfl⟩ : ρ.set i (some v) = ρ' ∧ st.S = S' := by simpa [mName] using hm
  exact k _ st rfl (Le.refl st) hr (he.set i hx) Only'.name
theorem gms_nil : PGs X [] (gMs X.K [] mTNil) := by
  refine PGs.imp pgs_nil fun x σ H Q h => ?_
  obtain ⟨st, ρ, v, ρ', S', rfl, hr, he, hx, hm, k⟩ := h
  cases hx with
  | nil =>
    obtain ⟨rfl, rfl⟩ : ρ = ρ' ∧ st.S = S' := by simpa [mTNil] using hm
    exact ⟨rfl, k _ st rfl (Le.refl st) hr he fun _ _ => rfl⟩
  | cons _ _ => cases hm
theorem gms_of {t : TG} {u : TGs} {is js : List Nat} {m : MT} {r : MTs} {K : PySem.W.Frag} {xs : List V} {σ : L2.St} {H : Hp} {Q : L2.St → Hp → Prop} (ht : ∀ x σ H Q, gM K is m x σ H Q → t x σ H Q) (hu : ∀ x σ H Q, gMs K js r x σ H Q → u x σ H Q)
    (h : gMs K (is ++ js) (mTCons m r) xs σ H Q) : gCons t u xs σ H Q := by
  obtain ⟨st, ρ, vs, ρ', S', rfl, hr, he, hx, hm, k⟩ := h
  cases hx with
  | nil => cases hm
  | @cons x xs v vs hx hxs =>
    simp only [mTCons, Option.bind_eq_some_iff, Prod.exists] at hm
    obtain ⟨ρ1, S1, h1, h2⟩ := hm
    refine ⟨x, xs, rfl, ht _ _ _ _ ⟨st, ρ, v, ρ1, S1, rfl, hr, he, hx, h1, fun σ1 st1 e1 l1 r1 x1 o1 => ?_⟩⟩
    subst e1
    exact hu _ _ _ _ ⟨st1, ρ1, vs, ρ', S', rfl, r1, x1, hxs.le l1.toLv, h2, fun σ2 st2 e2 l2 r2 x2 o2 => k σ2 st2 e2 (l1.trans l2) r2 x2 (o1.trans o2)⟩
theorem gms_cons {e : Expr} {es : List Expr} {is js : List Nat} {m : MT} {r : MTs} (h1 : PG X e (gM X.K is m)) (h2 : PGs X es (gMs X.K js r))
    (hs : (assignEach (e :: es) X.env).map (·.2) = assign e X.env :: (assignEach es X.env).map (·.2) := by rfl) : PGs X (e :: es) (gMs X.K (is ++ js) (mTCons m r)) :=
  PGs.imp (pgs_cons h1 h2 hs) fun _ _ _ _ h => gms_of (fun _ _ _ _ q => q) (fun _ _ _ _ q => q) h
theorem gms_star {e : Expr} {es : List Expr} {sp : Pos} {is js : List Nat} {m : MT} {r : MTs} (h1 : PG X e (gM X.K is m)) (h2 : PGs X es (gMs X.K js r)) : PGs X (.Starred e sp :: es) (gMs X.K (is ++ js) (mTCons m r)) :=
  PGs.imp (pgs_star h1 h2) fun _ _ _ _ h => gms_of (fun _ _ _ _ q => q) (fun _ _ _ _ q => q) h
theorem gm_tup {es : List Expr} {j : Nat} {is : List Nat} {m : MTs} {n : Nat} (hc : X.calm = true) (h : PGs X es (gMs X.K is m)) (hn : (assignEach es X.env).length = n := by rfl) (hst : (assignEach es X.env).findIdx? (·.1) = none := by rfl) :
    PG X (.Tuple es j pos) (gM X.K is (mTTup n m)) := by
  refine PG.imp (pg_tup hc h hn hst) fun x σ H Q hh => ?_
  obtain ⟨st, ρ, v, ρ', S', rfl, hr, he, hx, hm, k⟩ := hh
  unfold mTTup at hm
  split at hm
  · split at hm
    · rename_i vs hl
      cases hx with
      | @tup a xs _ h1 h2 => exact ⟨a, xs, rfl, h1.sq, by rw [h2.length]; exact hl, st, ρ, vs, ρ', S', rfl, hr, he, h2, hm, k⟩
    · cases hm
  · cases hm
theorem gm_star {es : List Expr} {j : Nat} {is : List Nat} {m : MTs} {n i : Nat} (hc : X.calm = true) (h : PGs X es (gMs X.K is m)) (hn : (assignEach es X.env).length = n := by rfl) (hst : (assignEach es X.env).findIdx? (·.1) = some i := by rfl) (hin : i < n := by decide) :
    PG X (.Tuple es j pos) (gM X.K is (mTStar n i m)) := by
  refine PG.imp (pg_starT hc h hn hst hin) fun x σ H Q hh => ?_
  obtain ⟨st, ρ, v, ρ', S', rfl, hr, he, hx, hm, k⟩ := hh
  unfold mTStar at hm
  split at hm
  · split at hm
    · rename_i vs hl
      cases hx with
      | @tup a xs _ h1 h2 =>
        rw [← h2.length] at hl hm
        refine ⟨a, xs, rfl, h1.sq, hl.1, hl.2, fun p hp => ?_⟩
        have rr := (h2.drop i).take (xs.length + 1 - n)
        obtain ⟨l1, r1⟩ := lay (u := .lst ((xs.drop i).take (xs.length + 1 - n))) hr hp
        have rl := lay_lst hr hp rr
        refine ⟨_, ρ, _, ρ', S', rfl, r1, he.le l1.toLv, ?_, hm, fun σ' st' e l r x o => k σ' st' e (l1.trans l) r x o⟩
        exact (((h2.le l1.toLv).take i).append (.cons rl .nil)).append (((h2.le l1.toLv).drop i).drop (xs.length + 1 - n))
    · cases hm
  · cases hm
end

/-! ### walks -/
/-- what J yields, from st on -/
def Walk (K : PySem.W.Frag) (st : Ste) (J : It) (vs : List Val) : Prop := ∀ st1, Lv K st st1 → Rep K st1 → J.stop vs.length st1.H ∧
  ∀ i v, vs[i]? = some v → J.go i st1.H ∧ ∀ x H', J.yld i st1.H x H' → ∃ st2, st2.H = H' ∧ st2.S = st1.S ∧ Le K st1 st2 ∧ Rep K st2 ∧ RepV K st2 x v
def tI (K : PySem.W.Frag) (m : MG (List Val)) : TI := fun σ H R => ∃ (st : Ste) (ρ : Env') (vs : List Val) (S' : Sto), st.H = H ∧ Rep K st ∧ RepE K st ρ σ ∧ m ρ st.S = some (vs, S') ∧ ∀ J st', st'.S = S' → Le K st st' → Rep K st' → Walk K st' J vs → R J st'.H
def mSeq (a : M) : MG (List Val) := fun ρ S => (a ρ S).bind fun p => match p.1 with
  | .tup xs => some (xs, p.2)
  | .lst xs => some (xs, p.2)
  | _ => none
def signs (x : Str) : List Val := x.cps.toList.map fun c => Val.str ⟨#[c]⟩
def mSigns (a : M) : MG (List Val) := fun ρ S => (a ρ S).bind fun p => match p.1 with
  | .str x => some (signs x, p.2)
  | _ => none
def intsV (n : Nat) : List Val := (List.range n).map fun (i : Nat) => Val.int (i : Int)
def mRange (a : MG (List Val)) : MG (List Val) := fun ρ S => (a ρ S).bind fun p => match p.1 with
  | [.int j] => if -(2 ^ 62) ≤ j ∧ j < 2 ^ 62 then some (intsV j.toNat, p.2) else none
  | _ => none
def zipV : List Val → List Val → List Val
  | x :: xs, y :: ys => .tup [x, y] :: zipV xs ys
  | _, _ => []
def itOf : Val → Option (Bool × List Val)
  | .tup xs => some (true, xs)
  | .lst xs => some (false, xs)
  | _ => none
/-- t1, t2: which of the two is a tuple; sf: strict -/
def mZip (sf t1 t2 : Bool) (a : MG (List Val)) : MG (List Val) := fun ρ S => (a ρ S).bind fun p => match p.1 with
  | [x, y] => match itOf x, itOf y with
    | some (u1, xs), some (u2, ys) => if u1 = t1 ∧ u2 = t2 ∧ (xs.length = ys.length ∨ (sf = false ∧ ys.length ≤ xs.length)) then some (zipV xs ys, p.2) else none
    | _, _ => none
  | _ => none
section
variable {X : Cx} {tg e : Expr} {m : M} {K : PySem.W.Frag}
theorem PI.imp {X : Cx} {tg it : Expr} {t t' : TI} (h : PI X tg it t) (k : ∀ σ H R, t' σ H R → t σ H R) : PI X tg it t' := ⟨fun pins s σ H R I q => h.run pins s σ H R I (k σ H R q)⟩
theorem PI.or {X : Cx} {tg it : Expr} {t t' : TI} (h : PI X tg it t) (h' : PI X tg it t') : PI X tg it (fun σ H R => t σ H R ∨ t' σ H R) := ⟨fun pins s σ H R I q => q.elim (h.run pins s σ H R I) (h'.run pins s σ H R I)⟩
theorem walk_tup {st : Ste} {a : Addr} {vs : List Val} (h : RepV K st (.ref a) (.tup vs)) : Walk K st (Itt K a) vs := fun st1 l r1 => by
  cases h.le l with
  | @tup _ xs _ h1 h2 =>
    refine ⟨⟨xs, h1.sq, by rw [h2.length]; exact Nat.le_refl _⟩, fun i v hv => ?_⟩
    obtain ⟨x, g1, g2⟩ := h2.get' hv
    refine ⟨⟨xs, x, h1.sq, g1⟩, fun y H' hy => ⟨st1, hy.1.symm, rfl, Le.refl _, r1, ?_⟩⟩
    have := hy.2 xs h1.sq
    rw [g1] at this
    rw [← Option.some.inj this]
    exact g2
theorem walk_lst {st : Ste} {a : Addr} {vs : List Val} (h : RepV K st (.ref a) (.lst vs)) : Walk K st (Itl K a) vs := fun st1 l r1 => by
  cases h.le l with
  | @lst _ xs _ h1 hn h2 =>
    have hs : SqL K st1.H a xs := .inl (.inl h1)
    refine ⟨⟨xs, hs, by rw [h2.length]; exact Nat.le_refl _⟩, fun i v hv => ?_⟩
    obtain ⟨x, g1, g2⟩ := h2.get' hv
    refine ⟨⟨xs, x, hs, g1⟩, fun y H' hy => ⟨st1, hy.1.symm, rfl, Le.refl _, r1, ?_⟩⟩
    have := hy.2 xs hs
    rw [g1] at this
    rw [← Option.some.inj this]
    exact g2
/-- over a tuple, over a list that is a value -/
theorem im_seq (h : PE X e (tM X.K m)) : PI X tg e (tI X.K (mSeq m)) := by
  refine PI.imp (PI.or (pi_tup h) (pi_list h)) fun σ H R q => ?_
  obtain ⟨st, ρ, vs, S', rfl, hr, he, hm, k⟩ := q
  simp only [mSeq, Option.bind_eq_some_iff, Prod.exists] at hm
  obtain ⟨v, S1, h1, h2⟩ := hm
  split at h2
  · rename_i xs
    obtain ⟨rfl, rfl⟩ : xs = vs ∧ S1 = S' := by simpa using h2
    refine .inl ⟨st, ρ, _, S1, rfl, hr, he, h1, fun x st1 e1 l1 r1 x1 => ?_⟩
    cases x1 with
    | @tup a ys _ g1 g2 => exact ⟨a, rfl, ⟨ys, g1.sq⟩, k _ st1 e1 l1 r1 (walk_tup (.tup g1 g2))⟩
  · rename_i xs
    obtain ⟨rfl, rfl⟩ : xs = vs ∧ S1 = S' := by simpa using h2
    refine .inr ⟨st, ρ, _, S1, rfl, hr, he, h1, fun x st1 e1 l1 r1 x1 => ?_⟩
    cases x1 with
    | @lst a ys _ g1 g2 g3 => exact ⟨a, rfl, ⟨ys, .inl (.inl g1)⟩, k _ st1 e1 l1 r1 (walk_lst (.lst g1 g2 g3))⟩
  · cases h2
theorem im_str (h : PE X e (tM X.K m)) : PI X tg e (tI X.K (mSigns m)) := by
  refine PI.imp (pi_str h) fun σ H R q => ?_
  obtain ⟨st, ρ, vs, S', rfl, hr, he, hm, k⟩ := q
  simp only [mSigns, Option.bind_eq_some_iff, Prod.exists] at hm
  obtain ⟨v, S1, h1, h2⟩ := hm
  split at h2
  · rename_i x
    obtain ⟨rfl, rfl⟩ : signs x = vs ∧ S1 = S' := by simpa using h2
    refine ⟨st, ρ, _, S1, rfl, hr, he, h1, fun x st1 e1 l1 r1 x1 => ?_⟩
    cases x1 with
    | str x =>
      refine ⟨x, rfl, k _ st1 e1 l1 r1 fun st2 l2 r2 => ⟨?_, fun i v hv => ?_⟩⟩
      · show x.cps.size ≤ (signs x).length
        simp [signs]
      · simp only [signs, List.getElem?_map, Option.map_eq_some_iff] at hv
        obtain ⟨c, hc, rfl⟩ := hv
        have hi : i < x.cps.size := by simpa using (List.getElem?_eq_some_iff.mp hc).1
        refine ⟨hi, fun y H' hy => ?_⟩
        obtain ⟨e1, c', e2, rfl⟩ := hy
        refine ⟨st2, e1.symm, rfl, Le.refl _, r2, ?_⟩
        have : c = c' := by
          rw [Array.getElem?_toList] at hc
          rw [hc] at e2
          exact Option.some.inj e2
        subst this
        exact .str _
  · cases h2
theorem im_range {a : Expr} {ma : MG (List Val)} {p pos : Pos} (hg : Gl X "range") (hm : X.mg "range" = none) (ha : PA X [a] (tA X.K ma)) (hs : starEach [a] X.env = [(false, eval a X.env)] := by rfl) : PI X tg (.Call (.Name "range" p) [a] [] pos) (tI X.K (mRange ma)) := by
  refine PI.imp (pi_range1 hg hm ha hs) fun σ H R q => ?_
  obtain ⟨st, ρ, vs, S', rfl, hr, he, hm, k⟩ := q
  simp only [mRange, Option.bind_eq_some_iff, Prod.exists] at hm
  obtain ⟨v, S1, h1, h2⟩ := hm
  split at h2
  · split at h2
    · rename_i j hj
      obtain ⟨rfl, rfl⟩ : intsV j.toNat = vs ∧ S1 = S' := by simpa using h2
      refine ⟨st, ρ, _, S1, rfl, hr, he, h1, fun x st1 e1 l1 r1 x1 => ?_⟩
      obtain ⟨y, rfl, hy⟩ := one_at x1
      cases hy
      refine ⟨j, rfl, hj.1, hj.2, k _ st1 e1 l1 r1 fun st2 l2 r2 => ⟨?_, fun i v hv => ?_⟩⟩
      · show j.toNat ≤ (intsV j.toNat).length
        simp [intsV]
      · simp only [intsV, List.getElem?_map, Option.map_eq_some_iff] at hv
        obtain ⟨c, hc, rfl⟩ := hv
        obtain ⟨hi, hc⟩ := List.getElem?_eq_some_iff.mp hc
        have hi : i < j.toNat := by simpa using hi
        have : i = c := by simpa using hc
        subst this
        refine ⟨hi, fun y H' hy => ⟨st2, hy.1.symm, rfl, Le.refl _, r2, ?_⟩⟩
        rw [hy.2]
        simp only [Int.zero_add]
        exact .int _
    · cases h2
  · cases h2
theorem zipV_get : ∀ {xs ys : List Val} {i : Nat} {v : Val}, (zipV xs ys)[i]? = some v → ∃ x y, xs[i]? = some x ∧ ys[i]? = some y ∧ v = .tup [x, y]
  | x :: xs, y :: ys, 0, v, h => ⟨x, y, rfl, rfl, by simpa [zipV] using h.symm⟩
  | x :: xs, y :: ys, i + 1, v, h => by
    obtain ⟨a, b, h1, h2, h3⟩ := zipV_get (xs := xs) (ys := ys) (i := i) (v := v) (by simpa [zipV] using h)
    exact ⟨a, b, by simpa using h1, by simpa using h2, h3⟩
  | [], _, _, _, h => by simp [zipV] at h
  | _ :: _, [], _, _, h => by simp [zipV] at h
theorem zipV_len : ∀ (xs ys : List Val), (zipV xs ys).length = min xs.length ys.length
  | x :: xs, y :: ys => by simp [zipV, zipV_len xs ys]
  | [], _ => by simp [zipV]
  | _ :: _, [] => by simp [zipV]
theorem itOf_at {st : Ste} {x : V} {v : Val} {t : Bool} {vs : List Val} (r : RepV K st x v) (h : itOf v = some (t, vs)) : ∃ a xs, x = .ref a ∧ SqX t K st.H a xs ∧ RepVs K st xs vs := by
  cases r with
  | @tup a xs ws h1 h2 =>
    obtain ⟨rfl, rfl⟩ : true = t ∧ ws = vs := by simpa [itOf] using h
    exact ⟨a, xs, rfl, h1.sq, h2⟩
  | @lst a xs ws h1 h2 h3 =>
    obtain ⟨rfl, rfl⟩ : false = t ∧ ws = vs := by simpa [itOf] using h
    exact ⟨a, xs, rfl, .inl (.inl h1), h3⟩
  | non => cases h
  | bl _ => cases h
  | int _ => cases h
  | str _ => cases h
  | scr _ => cases h
  | loc _ => cases h
theorem zip_M {sf t1 t2 : Bool} {ma : MG (List Val)} {σ : L2.St} {H : Hp} {R : It → Hp → Prop} (q : tI K (mZip sf t1 t2 ma) σ H R) : iZip2 K sf t1 t2 (tA K ma) σ H R := by
  obtain ⟨st, ρ, vs, S', rfl, hr, he, hm, k⟩ := q
  simp only [mZip, Option.bind_eq_some_iff, Prod.exists] at hm
  obtain ⟨v, S1, h1, h2⟩ := hm
  split at h2
  · rename_i v1 v2
    split at h2
    · split at h2
      · rename_i u1 xs u2 ys e1 e2 hc
        obtain ⟨rfl, rfl, hl⟩ := hc
        obtain ⟨rfl, rfl⟩ : zipV xs ys = vs ∧ S1 = S' := by simpa using h2
        refine ⟨st, ρ, _, S1, rfl, hr, he, h1, fun x st1 e1' l1 r1 x1 => ?_⟩
        obtain ⟨y1, y2, rfl, hy1, hy2⟩ := two_at x1
        obtain ⟨a, us, rfl, s1, rv1⟩ := itOf_at hy1 e1
        obtain ⟨b, ws, rfl, s2, rv2⟩ := itOf_at hy2 e2
        refine ⟨a, b, us, ws, rfl, s1, s2, k _ st1 e1' l1 r1 fun st2 l2 r2 => ?_⟩
        obtain ⟨a', us', ea, s1', rv1'⟩ := itOf_at (hy1.le l2) e1
        obtain ⟨b', ws', eb, s2', rv2'⟩ := itOf_at (hy2.le l2) e2
        cases ea
        cases eb
        have n1 := rv1'.length
        have n2 := rv2'.length
        refine ⟨⟨us', ws', s1', s2', ?_, ?_⟩, fun i v hv => ?_⟩
        · rw [zipV_len, n2]; omega
        · rw [zipV_len, n1]
          rcases hl with hl | ⟨hl, hl2⟩
          · exact .inl (by omega)
          · by_cases h : xs.length = ys.length
            · exact .inl (by omega)
            · exact .inr ⟨hl, by omega⟩
        · obtain ⟨c, d, g1, g2, rfl⟩ := zipV_get hv
          obtain ⟨p, g3, g4⟩ := rv1'.get' g1
          obtain ⟨q, g5, g6⟩ := rv2'.get' g2
          refine ⟨⟨us', ws', p, q, s1', s2', g3, g5⟩, fun y H' hy => ?_⟩
          obtain ⟨T, o, p', q', rfl, hT, hd, rfl, f1, f2⟩ := hy
          have := f1 us' s1'
          rw [g3] at this
          obtain rfl := Option.some.inj this
          have := f2 ws' s2'
          rw [g5] at this
          obtain rfl := Option.some.inj this
          exact ⟨⟨st2.μ, upd st2.H T (.frz o (.tup [p, q])), st2.S, st2.F⟩, rfl, rfl, (lay r2 hT).1, (lay r2 hT).2, lay_tup r2 hT hd (.cons g4 (.cons g6 .nil))⟩
      · cases h2
    · cases h2
  · cases h2
theorem im_zip (t1 t2 : Bool) {e e2 : Expr} {ma : MG (List Val)} {p pos tpos : Pos} {elts : List Expr} {kk : Nat} (hg : Gl X "zip") (hm : X.mg "zip" = none) (ha : PA X [e, e2] (tA X.K ma))
    (hs : starEach [e, e2] X.env = (false, eval e X.env) :: starEach [e2] X.env := by rfl) (hpl : (backTo pos (starEach [e2] X.env)).any (·.1) = false := by rfl) :
    PI X (.Tuple elts kk tpos) (.Call (.Name "zip" p) [e, e2] [] pos) (tI X.K (mZip false t1 t2 ma)) := PI.imp (pi_zip2 t1 t2 hg hm ha hs hpl) fun _ _ _ q => zip_M q
theorem im_zipS (t1 t2 : Bool) {e e2 : Expr} {ma : MG (List Val)} {p pos kpos kp tpos : Pos} {j : Nat} {elts : List Expr} {kk : Nat} (hg : Gl X "zip") (hm : X.mg "zip" = none) (ha : PA X [e, e2] (tA X.K ma))
    (hs : starEach [e, e2] X.env = (false, eval e X.env) :: starEach [e2] X.env := by rfl) (hpl : (backTo pos (starEach [e, e2] X.env)).any (·.1) = false := by rfl) :
    PI X (.Tuple elts kk tpos) (.Call (.Name "zip" p) [e, e2] [⟨some "strict", .Constant (.bool true) j kp, kpos⟩] pos) (tI X.K (mZip true t1 t2 ma)) := PI.imp (pi_zipS t1 t2 hg hm ha hs hpl) fun _ _ _ q => zip_M q
end

/-! ### comprehensions -/
def wipeE (ρ : Env') (vs : List Nat) : Env' := vs.foldr (fun i r => r.set i none) ρ
def mYes : MG Bool := fun _ S => some (true, S)
def lcGo (mg : MT) (mt : MG Bool) (me : M) (ρ : Env') : List Val → Sto → Option (List Val × Sto)
  | [], S => some ([], S)
  | v :: vs, S => (mg v ρ S).bind fun p => (mt p.1 p.2).bind fun q => if q.1 = true then (me p.1 q.2).bind fun r => (lcGo mg mt me ρ vs r.2).map fun z => (r.1 :: z.1, z.2) else lcGo mg mt me ρ vs q.2
def mLc (mi : MG (List Val)) (mg : MT) (mt : MG Bool) (me : M) (own : List Nat) : M := fun ρ S => (mi ρ S).bind fun p => if p.1.length ≤ 100000 then (lcGo mg mt me (wipeE ρ own) p.1 p.2).map fun q => (.lst q.1, q.2) else none
def dcGo (mg : MT) (mt : MG Bool) (mk me : M) (ρ : Env') : List Val → List (Key × Val) → Sto → Option (List (Key × Val) × Sto)
  | [], acc, S => some (acc, S)
  | v :: vs, acc, S => (mg v ρ S).bind fun p => (mt p.1 p.2).bind fun q => if q.1 = true then (mk p.1 q.2).bind fun r => (me p.1 r.2).bind fun t => (keyOf r.1).bind fun k => dcGo mg mt mk me ρ vs (pK acc k t.1) t.2 else dcGo mg mt mk me ρ vs acc q.2
def mDc (mi : MG (List Val)) (mg : MT) (mt : MG Bool) (mk me : M) (own : List Nat) : M := fun ρ S => (mi ρ S).bind fun p => if p.1.length ≤ 100000 then (dcGo mg mt mk me (wipeE ρ own) p.1 [] p.2).map fun q => (.loc q.2.length, q.2 ++ [.dct q.1]) else none
section
variable {X : Cx} {K : PySem.W.Frag}
theorem ptm_nil : PTs X [] (tB' X.K mYes) := by
  refine ⟨fun pins s σ H Q I h => pts_nil.run pins s σ H Q I ?_⟩
  obtain ⟨st, ρ, v, S', rfl, hr, he, hm, k⟩ := h
  obtain ⟨rfl, rfl⟩ : true = v ∧ st.S = S' := by simpa [mYes] using hm
  exact k true st rfl (Le.refl st) hr rfl
theorem ptm_one {c : Expr} {t : MG Bool} (h : PT X c (tB' X.K t)) : PTs X [c] (tB' X.K t) := pts_one h
/-- the state of a comprehension's walk -/
structure LcAt (K : PySem.W.Frag) (st0 : Ste) (ρ : Env') (σ : L2.St) (D : Addr) (H : Hp) (acc : List Val) (S : Sto) : Prop where
  at_ : ∃ (st : Ste) (xs : List V), st.H = H ∧ st.S = S ∧ Lv K ⟨st0.μ, upd st0.H D (.lst []), st0.S, D :: st0.F⟩ st ∧ (∀ b, b ∈ st0.F → b ∈ st.F ∧ st.H b = st0.H b) ∧ D ∈ st.F ∧ Rep K st ∧ RepE K st ρ σ ∧ st.H D = some (.lst xs) ∧ RepVs K st xs acc
theorem lc_M {mi : MG (List Val)} {mg : MT} {mt : MG Bool} {me : M} {is own : List Nat} (hown : ∀ i, i ∈ is → i ∈ own) {σ : L2.St} {H : Hp} {Q : VK} (h : tM K (mLc mi mg mt me own) σ H Q) :
    tLc (tI K mi) (gM K is mg) (tB' K mt) (tM K me) own σ H Q := by
  obtain ⟨st, ρ, v, S', rfl, hr, he, hm, k⟩ := h
  simp only [mLc, Option.bind_eq_some_iff, Prod.exists] at hm
  obtain ⟨vs, S1, h1, h2⟩ := hm
  split at h2
  · rename_i hlen
    simp only [Option.map_eq_some_iff, Prod.exists] at h2
    obtain ⟨rs, S2, h3, h4⟩ := h2
    obtain ⟨rfl, rfl⟩ : .lst rs = v ∧ S2 = S' := by simpa using h4
    refine ⟨st, ρ, vs, S1, rfl, hr, he, h1, fun J st1 e1 l1 r1 w1 => ?_⟩
    subst e1
    intro D hD
    have he1 : RepE K st1 (wipeE ρ own) (L2.wipe σ own) := (he.le l1.toLv).wipe own
    have ml := make_le (u := .lst []) r1 hD
    have mr := make_rep (u := .lst []) r1 trivial hD
    refine ⟨fun i m H => m = vs.length - i ∧ i ≤ vs.length ∧ ∃ acc rest S, acc.length ≤ i ∧ acc ++ rest = rs ∧ lcGo mg mt me (wipeE ρ own) (vs.drop i) S = some (rest, S2) ∧ LcAt K st1 (wipeE ρ own) (L2.wipe σ own) D H acc S, ⟨vs.length, by simp, Nat.zero_le _, [], rs, st1.S, by simp, rfl, by simpa using h3, ?_⟩, ?_⟩
    · exact ⟨⟨⟨st1.μ, upd st1.H D (.lst []), st1.S, D :: st1.F⟩, [], rfl, rfl, ⟨fun b xs h => h, fun b xs h n => ⟨h, n⟩, fun b xs h => h, fun n a h => h, fun b xs h => h⟩, fun b hb => ⟨List.mem_cons_of_mem _ hb, upd_ne (show b ≠ D from fun z => r1.notF hD (z ▸ hb))⟩, List.mem_cons_self, mr, he1.le ml.toLv, upd_same, .nil⟩⟩
    · rintro i m H' ⟨rfl, hi, acc, rest, S, hal, hacc, hgo, ⟨st2, xs, rfl, rfl, lv, fr, hF, r2, he2, hxs, rv⟩⟩
      have wk := w1 st2 (ml.toLv.trans lv) r2
      by_cases hlt : i < vs.length
      · have hv : vs[i]? = some vs[i] := List.getElem?_eq_getElem hlt
        obtain ⟨go, yl⟩ := wk.2 i vs[i] hv
        rw [List.drop_eq_getElem_cons hlt] at hgo
        simp only [lcGo, Option.bind_eq_some_iff, Prod.exists] at hgo
        obtain ⟨ρ1, S3, g1, b, S4, g2, g3⟩ := hgo
        refine .inr ⟨go, fun H' => ∃ acc rest S, acc.length ≤ i + 1 ∧ acc ++ rest = rs ∧ lcGo mg mt me (wipeE ρ own) (vs.drop (i + 1)) S = some (rest, S2) ∧ LcAt K st1 (wipeE ρ own) (L2.wipe σ own) D H' acc S,
          fun H' hN => ⟨vs.length - (i + 1), by omega, rfl, hlt, hN⟩, fun x H' hy => ?_⟩
        obtain ⟨st3, rfl, e3, l3, r3, x3⟩ := yl x H' hy
        rw [← e3] at g1
        refine ⟨st3, wipeE ρ own, vs[i], ρ1, S3, rfl, r3, he2.le l3.toLv, x3, g1, fun σ4 st4 e4 l4 r4 x4 o4 => ⟨?_, ?_⟩⟩
        · rw [o4 own hown]
          exact wipe_idem σ own
        · subst e4
          refine ⟨st4, ρ1, b, S4, rfl, r4, x4, g2, fun c st5 e5 l5 r5 x5 => ?_⟩
          subst x5 e5
          have l25 : Le K st2 st5 := l3.trans (l4.trans l5)
          cases c with
          | true =>
            rw [if_pos rfl] at g3
            rw [if_pos rfl]
            simp only [Option.bind_eq_some_iff, Option.map_eq_some_iff, Prod.exists] at g3
            obtain ⟨w, S6, g4, rs', S7, g5, g6⟩ := g3
            obtain ⟨rfl, rfl⟩ : w :: rs' = rest ∧ S7 = S2 := by simpa using g6
            refine ⟨st5, ρ1, w, S6, rfl, r5, x4.le l5.toLv, g4, fun y st6 e6 l6 r6 x6 => ?_⟩
            subst e6
            have l26 := l25.trans l6
            have hD6 := l26.fr D hF
            refine ⟨xs, by rw [hD6.2]; exact hxs, ?_, acc ++ [w], rs', st6.S, by simp; omega, by rw [← hacc]; simp, g5, ?_⟩
            · rw [rv.length]
              exact Nat.lt_of_le_of_lt (Nat.le_trans hal hi) (Nat.lt_of_le_of_lt hlen (by decide : 100000 < sizeLine))
            · have fl := forge_lv (u := .lst (xs ++ [y])) r6 hD6.1
              refine ⟨⟨⟨st6.μ, upd st6.H D (.lst (xs ++ [y])), st6.S, st6.F⟩, xs ++ [y], rfl, rfl, (lv.trans l26.toLv).trans fl, fun b hb => ?_, hD6.1, forge_rep r6 hD6.1 trivial, (he2.le l26.toLv).le fl, upd_same, ((rv.le l26.toLv).le fl).append (.cons (x6.le fl) .nil)⟩⟩
              have hb2 := fr b hb
              have hb6 := l26.fr b hb2.1
              refine ⟨hb6.1, ?_⟩
              show upd st6.H D _ b = _
              rw [upd_ne (show b ≠ D from fun z => r1.notF hD (z ▸ hb)), hb6.2, hb2.2]
          | false =>
            rw [if_neg Bool.false_ne_true] at g3
            rw [if_neg Bool.false_ne_true]
            have hD5 := l25.fr D hF
            refine ⟨acc, rest, st5.S, by omega, hacc, g3, ⟨st5, xs, rfl, rfl, lv.trans l25.toLv, fun b hb => ?_, hD5.1, r5, he2.le l25.toLv, by rw [hD5.2]; exact hxs, rv.le l25.toLv⟩⟩
            have hb2 := fr b hb
            have hb5 := l25.fr b hb2.1
            exact ⟨hb5.1, hb5.2.trans hb2.2⟩
      · have e : i = vs.length := by omega
        subst e
        rw [List.drop_length] at hgo
        obtain ⟨rfl, e5⟩ : [] = rest ∧ st2.S = S2 := by simpa [lcGo] using hgo
        rw [List.append_nil] at hacc
        subst hacc
        refine .inl ⟨wk.1, ?_⟩
        have hsub : ∀ b, b ∈ st1.F → b ∈ st2.F := fun b hb => (fr b hb).1
        have ld := done_lv (K := K) (st := st2) hsub
        have rd := done_rep r2 hsub
        have le : Le K st1 ⟨st2.μ, st2.H, st2.S, st1.F⟩ := ⟨ml.toLv.trans (lv.trans ld), fun b hb => ⟨hb, (fr b hb).2⟩⟩
        refine k _ ⟨st2.μ, st2.H, st2.S, st1.F⟩ e5 (l1.trans le) rd (.lst hxs (fun z => ?_) (rv.le ld))
        rcases z with z | ⟨n, o, h1, _, _⟩
        · exact r1.notF hD z
        · exact (r2.fo D hF).1 (List.mem_of_getElem? h1)
  · cases h2
theorem em_lc {elt tg iter : Expr} {ifs : List Expr} {scope : Scope} {own : List (Str × Nat)} {pos : Pos} {mi : MG (List Val)} {mg : MT} {mt : MG Bool} {me : M} {is : List Nat} (hc : X.calm = true) (hN : X.N.Nodup) (hi : PI X tg iter (tI X.K mi)) (ok : BlkOk X.N X.env.scope scope own)
    (hg : ∀ (s : Shared) (H : Hp) (C : Addr) (cl : List (Str × Addr)) (fp : List Addr), PG (X.blk s H scope (compEnvC scope cl C X.env) fp) tg (gM X.K is mg)) (ht : ∀ (s : Shared) (H : Hp) (C : Addr) (cl : List (Str × Addr)) (fp : List Addr), PTs (X.blk s H scope (compEnvC scope cl C X.env) fp) ifs (tB' X.K mt))
    (he : ∀ (s : Shared) (H : Hp) (C : Addr) (cl : List (Str × Addr)) (fp : List Addr), PE (X.blk s H scope (compEnvC scope cl C X.env) fp) elt (tM X.K me)) (hown : is.all (fun i => (own.map (·.2)).contains i) = true := by decide) (hs : ∀ x, foldedSetIterable iter X.env x = pure x := by intro _; rfl) :
    PE X (.ListComp elt [⟨tg, iter, ifs, 0⟩] scope pos) (tM X.K (mLc mi mg mt me (own.map (·.2)))) :=
  PE.imp (pe_lc hc hN hi ok hg ht he hs) fun σ H Q h => lc_M (fun i hi => by simpa using List.all_eq_true.mp hown i hi) h
structure DcAt (K : PySem.W.Frag) (st0 : Ste) (ρ : Env') (σ : L2.St) (D : Addr) (H : Hp) (acc : List (Key × Val)) (S : Sto) : Prop where
  at_ : ∃ (st : Ste) (xs : List (Key × V)), st.H = H ∧ st.S = S ∧ Le K ⟨st0.μ, upd st0.H D (.dK []), st0.S, D :: st0.F⟩ { st with H := upd st.H D (.dK []) } ∧ Lv K ⟨st0.μ, upd st0.H D (.dK []), st0.S, D :: st0.F⟩ st ∧ (∀ b, b ∈ st0.F → b ∈ st.F ∧ st.H b = st0.H b) ∧ D ∈ st.F ∧ Rep K st ∧ RepE K st ρ σ ∧ st.H D = some (.dK xs) ∧ RepK K st xs acc
theorem pK_len {κ : Type} [DecidableEq κ] (kvs : List (κ × Val)) (k : κ) (v : Val) : (pK kvs k v).length ≤ kvs.length + 1 := by
  unfold pK
  split <;> simp
theorem dc_M {mi : MG (List Val)} {mg : MT} {mt : MG Bool} {mk me : M} {is own : List Nat} (hown : ∀ i, i ∈ is → i ∈ own) {σ : L2.St} {H : Hp} {Q : VK} (h : tM K (mDc mi mg mt mk me own) σ H Q) :
    tDc (tI K mi) (gM K is mg) (tB' K mt) (tM K mk) (tM K me) own σ H Q := by
  obtain ⟨st, ρ, v, S', rfl, hr, he, hm, k⟩ := h
  simp only [mDc, Option.bind_eq_some_iff, Prod.exists] at hm
  obtain ⟨vs, S1, h1, h2⟩ := hm
  split at h2
  · rename_i hlen
    simp only [Option.map_eq_some_iff, Prod.exists] at h2
    obtain ⟨rs, S2, h3, h4⟩ := h2
    obtain ⟨ev, eS⟩ : .loc S2.length = v ∧ S2 ++ [.dct rs] = S' := by simpa using h4
    refine ⟨st, ρ, vs, S1, rfl, hr, he, h1, fun J st1 e1 l1 r1 w1 => ?_⟩
    subst e1
    intro D hD
    have he1 : RepE K st1 (wipeE ρ own) (L2.wipe σ own) := (he.le l1.toLv).wipe own
    have ml := make_le (u := .dK []) r1 hD
    have mr := make_rep (u := .dK []) r1 trivial hD
    have base : ∀ (st2 : Ste), Lv K ⟨st1.μ, upd st1.H D (.dK []), st1.S, D :: st1.F⟩ st2 → (∀ b, b ∈ st1.F → b ∈ st2.F ∧ st2.H b = st1.H b) → D ∈ st2.F → Rep K st2 → Le K ⟨st1.μ, upd st1.H D (.dK []), st1.S, D :: st1.F⟩ { st2 with H := upd st2.H D (.dK []) } := fun st2 lv fr hF r2 =>
      ⟨lv.trans (forge_lv r2 hF), fun b hb => by
        rcases List.mem_cons.mp hb with e | hb
        · subst e
          exact ⟨hF, (upd_same : upd st2.H b (.dK []) b = some (.dK [])).trans (upd_same : upd st1.H b (.dK []) b = some (.dK [])).symm⟩
        · have hbD : b ≠ D := fun z => r1.notF hD (z ▸ hb)
          refine ⟨(fr b hb).1, ?_⟩
          show upd st2.H D _ b = upd st1.H D _ b
          rw [upd_ne hbD, upd_ne hbD]
          exact (fr b hb).2⟩
    refine ⟨fun i m H => m = vs.length - i ∧ i ≤ vs.length ∧ ∃ acc S, acc.length ≤ i ∧ dcGo mg mt mk me (wipeE ρ own) (vs.drop i) acc S = some (rs, S2) ∧ DcAt K st1 (wipeE ρ own) (L2.wipe σ own) D H acc S, ⟨vs.length, by simp, Nat.zero_le _, [], st1.S, by simp, by simpa using h3, ?_⟩, ?_⟩
    · have lv0 : Lv K ⟨st1.μ, upd st1.H D (.dK []), st1.S, D :: st1.F⟩ ⟨st1.μ, upd st1.H D (.dK []), st1.S, D :: st1.F⟩ := (Le.refl _).toLv
      have fr0 : ∀ b, b ∈ st1.F → b ∈ D :: st1.F ∧ upd st1.H D (.dK []) b = st1.H b := fun b hb => ⟨List.mem_cons_of_mem _ hb, upd_ne (show b ≠ D from fun z => r1.notF hD (z ▸ hb))⟩
      exact ⟨⟨⟨st1.μ, upd st1.H D (.dK []), st1.S, D :: st1.F⟩, [], rfl, rfl, base _ lv0 fr0 List.mem_cons_self mr, lv0, fr0, List.mem_cons_self, mr, he1.le ml.toLv, upd_same, .nil⟩⟩
    · rintro i m H' ⟨rfl, hi, acc, S, hal, hgo, ⟨st2, xs, rfl, rfl, _, lv, fr, hF, r2, he2, hxs, rv⟩⟩
      have wk := w1 st2 (ml.toLv.trans lv) r2
      by_cases hlt : i < vs.length
      · have hv : vs[i]? = some vs[i] := List.getElem?_eq_getElem hlt
        obtain ⟨go, yl⟩ := wk.2 i vs[i] hv
        rw [List.drop_eq_getElem_cons hlt] at hgo
        simp only [dcGo, Option.bind_eq_some_iff, Prod.exists] at hgo
        obtain ⟨ρ1, S3, g1, b, S4, g2, g3⟩ := hgo
        refine .inr ⟨go, fun H' => ∃ acc S, acc.length ≤ i + 1 ∧ dcGo mg mt mk me (wipeE ρ own) (vs.drop (i + 1)) acc S = some (rs, S2) ∧ DcAt K st1 (wipeE ρ own) (L2.wipe σ own) D H' acc S,
          fun H' hN => ⟨vs.length - (i + 1), by omega, rfl, hlt, hN⟩, fun x H' hy => ?_⟩
        obtain ⟨st3, rfl, e3, l3, r3, x3⟩ := yl x H' hy
        rw [← e3] at g1
        refine ⟨st3, wipeE ρ own, vs[i], ρ1, S3, rfl, r3, he2.le l3.toLv, x3, g1, fun σ4 st4 e4 l4 r4 x4 o4 => ⟨?_, ?_⟩⟩
        · rw [o4 own hown]
          exact wipe_idem σ own
        · subst e4
          refine ⟨st4, ρ1, b, S4, rfl, r4, x4, g2, fun c st5 e5 l5 r5 x5 => ?_⟩
          subst x5 e5
          have l25 : Le K st2 st5 := l3.trans (l4.trans l5)
          have frX : ∀ st6, Le K st2 st6 → ∀ b, b ∈ st1.F → b ∈ st6.F ∧ st6.H b = st1.H b := fun st6 l b hb => by
            have hb2 := fr b hb
            have hb6 := l.fr b hb2.1
            exact ⟨hb6.1, hb6.2.trans hb2.2⟩
          cases c with
          | true =>
            rw [if_pos rfl] at g3
            rw [if_pos rfl]
            simp only [Option.bind_eq_some_iff, Prod.exists] at g3
            obtain ⟨w, S6, g4, w', S7, g5, key, g6, g7⟩ := g3
            refine ⟨st5, ρ1, w, S6, rfl, r5, x4.le l5.toLv, g4, fun y st6 e6 l6 r6 x6 => ?_⟩
            subst e6
            refine ⟨st6, ρ1, w', S7, rfl, r6, (x4.le l5.toLv).le l6.toLv, g5, fun z st7 e7 l7 r7 x7 => ?_⟩
            subst e7
            have l27 := l25.trans (l6.trans l7)
            have hD7 := l27.fr D hF
            refine ⟨xs, key, key_at x6 g6, by rw [hD7.2]; exact hxs, ?_, pK acc key w', st7.S, by have := pK_len acc key w'; omega, g7, ?_⟩
            · rw [rv.length]
              exact Nat.lt_of_le_of_lt (Nat.le_trans hal hi) (Nat.lt_of_le_of_lt hlen (by decide : 100000 < sizeLine))
            · have fl := forge_lv (u := .dK (putK xs key z)) r7 hD7.1
              have lvN := (lv.trans l27.toLv).trans fl
              have frN : ∀ b, b ∈ st1.F → b ∈ st7.F ∧ upd st7.H D (.dK (putK xs key z)) b = st1.H b := fun b hb => by
                have q := frX st7 l27 b hb
                exact ⟨q.1, by rw [upd_ne (show b ≠ D from fun z => r1.notF hD (z ▸ hb))]; exact q.2⟩
              have rN := forge_rep (u := .dK (putK xs key z)) r7 hD7.1 trivial
              exact ⟨⟨⟨st7.μ, upd st7.H D (.dK (putK xs key z)), st7.S, st7.F⟩, putK xs key z, rfl, rfl, base _ lvN frN hD7.1 rN, lvN, frN, hD7.1, rN, (he2.le l27.toLv).le fl, upd_same, RepK.put (x7.le fl) ((rv.le l27.toLv).le fl)⟩⟩
          | false =>
            rw [if_neg Bool.false_ne_true] at g3
            rw [if_neg Bool.false_ne_true]
            have hD5 := l25.fr D hF
            exact ⟨acc, st5.S, by omega, g3, ⟨st5, xs, rfl, rfl, base _ (lv.trans l25.toLv) (frX st5 l25) hD5.1 r5, lv.trans l25.toLv, frX st5 l25, hD5.1, r5, he2.le l25.toLv, by rw [hD5.2]; exact hxs, rv.le l25.toLv⟩⟩
      · have e : i = vs.length := by omega
        subst e
        rw [List.drop_length] at hgo
        obtain ⟨rfl, e5⟩ : acc = rs ∧ st2.S = S2 := by simpa [dcGo] using hgo
        subst e5
        refine .inl ⟨wk.1, ?_⟩
        have hsub : ∀ b, b ∈ st1.F → b ∈ st2.F := fun b hb => (fr b hb).1
        have lg := give_lv (u := .dK xs) (o := .dct acc) (F' := st1.F) r2 hF hsub
        have rg := give_rep (u := .dK xs) (o := .dct acc) (F' := st1.F) r2 hF hsub (r1.notF hD) ⟨xs, upd_same, rv.le lg⟩
        have eH : upd st2.H D (.dK xs) = st2.H := by
          funext b
          by_cases hb : b = D
          · subst hb
            rw [hxs]
            exact upd_same
          · exact upd_ne hb
        have le : Le K st1 ⟨st2.μ ++ [D], upd st2.H D (.dK xs), st2.S ++ [.dct acc], st1.F⟩ := ⟨ml.toLv.trans (lv.trans lg), fun b hb => ⟨hb, by
          show upd st2.H D (.dK xs) b = _
          rw [eH]
          exact (fr b hb).2⟩⟩
        subst ev
        have q := k _ ⟨st2.μ ++ [D], upd st2.H D (.dK xs), st2.S ++ [.dct acc], st1.F⟩ eS (l1.trans le) rg (give_loc r2)
        rw [show (⟨st2.μ ++ [D], upd st2.H D (.dK xs), st2.S ++ [.dct acc], st1.F⟩ : Ste).H = st2.H from eH] at q
        exact q
  · cases h2
theorem em_dc {kx vx tg iter : Expr} {ifs : List Expr} {scope : Scope} {own : List (Str × Nat)} {pos : Pos} {mi : MG (List Val)} {mg : MT} {mt : MG Bool} {mk me : M} {is : List Nat} (hc : X.calm = true) (hN : X.N.Nodup) (hi : PI X tg iter (tI X.K mi)) (ok : BlkOk X.N X.env.scope scope own)
    (hg : ∀ (s : Shared) (H : Hp) (C : Addr) (cl : List (Str × Addr)) (fp : List Addr), PG (X.blk s H scope (compEnvC scope cl C X.env) fp) tg (gM X.K is mg)) (ht : ∀ (s : Shared) (H : Hp) (C : Addr) (cl : List (Str × Addr)) (fp : List Addr), PTs (X.blk s H scope (compEnvC scope cl C X.env) fp) ifs (tB' X.K mt))
    (hk : ∀ (s : Shared) (H : Hp) (C : Addr) (cl : List (Str × Addr)) (fp : List Addr), PE (X.blk s H scope (compEnvC scope cl C X.env) fp) kx (tM X.K mk))
    (he : ∀ (s : Shared) (H : Hp) (C : Addr) (cl : List (Str × Addr)) (fp : List Addr), PE (X.blk s H scope (compEnvC scope cl C X.env) fp) vx (tM X.K me)) (hown : is.all (fun i => (own.map (·.2)).contains i) = true := by decide) (hs : ∀ x, foldedSetIterable iter X.env x = pure x := by intro _; rfl) :
    PE X (.DictComp kx vx [⟨tg, iter, ifs, 0⟩] scope pos) (tM X.K (mDc mi mg mt mk me (own.map (·.2)))) :=
  PE.imp (pe_dc hc hN hi ok hg ht hk he hs) fun σ H Q h => dc_M (fun i hi => by simpa using List.all_eq_true.mp hown i hi) h
end
end Cw
end
section
/-! CwL: a, b = l, l a list. -/
namespace Cw
open PySem PySem.Spec PyProof.Rows L2
section
variable {prog : Program} {w : World} {A : Around} {E : Value → Shared → Prop} {s : Shared}
theorem draw_lst {it l : Addr} {items : Array Value} (hne : l ≠ it) : ∀ (n i : Nat) (s : Shared) (Q : List Value → Shared → Prop), s.heap.IsListIter it l i → s.heap.IsList l items → i + n ≤ items.size →
    (∀ h', h'.IsListIter it l (i + n) → Heap.SameBut it s.heap h' → Q ((items.toList.drop i).take n) { s with heap := h' }) → wpAny (model prog w) A (draw (.ref it) n) Q E s
  | 0, i, s, Q, hit, _, _, hQ => by
    show wpAny _ _ (pure []) Q E s
    exact wpAny_pure (by simpa using hQ s.heap hit (Heap.SameBut.refl ..))
  | n + 1, i, s, Q, hit, hl, hle, hQ => by
    have hlt : i < items.size := by omega
    show wpAny _ _ (pyNext (.ref it) >>= _) Q E s
    refine wpAny_bind (wpAny_pyNext_list_item hit hl (x := items[i]) (by simp [hlt]) fun h1 it1 s1 => ?_)
    refine wpAny_bind (wpAny_holding (draw_lst hne n (i + 1) _ _ it1 (hl.extBut s1.extBut hne) (by omega) fun h2 it2 s2 => wpAny_pure ?_))
    have q := hQ h2 (by rw [show i + (n + 1) = i + 1 + n by omega]; exact it2) (s1.trans s2)
    rw [show items.toList.drop i = items[i] :: items.toList.drop (i + 1) by simp [List.drop_eq_getElem_cons, hlt], List.take_succ_cons] at q
    exact q
theorem assign_lst {env : Env} {elts : List Expr} {j} {pos : Pos} {l : Addr} {items : Array Value} {Q : Unit → Shared → Prop} (hh : A.handled = none) (hl : s.heap.IsList l items)
    (hn : (assignEach elts env).length = items.size) (hstar : (assignEach elts env).findIdx? (·.1) = none)
    (h : ∀ h', (∀ b o, s.heap.get? b = some o → h'.get? b = some o) → wpAny (model prog w) A (assignInOrder ((assignEach elts env).map (·.2)) items.toList) Q E { s with heap := h' }) :
    wpAny (model prog w) A (assign (.Tuple elts j pos) env (.ref l)) Q E s := by
  rw [assign_Tuple]
  refine wpAny_bind (wpAny_standAt ?_)
  unfold unpack
  rw [hn, hstar]
  refine wpAny_bind (wpAny_holding ?_)
  have hlt : l ≠ s.heap.objs.size := by obtain ⟨o, ho, _⟩ := hl; exact Nat.ne_of_lt (Heap.lt_size ho)
  unfold unpackItems
  refine wpAny_bind ?_
  unfold notIterableAtAll
  refine wpAny_bind (wpAny_specialOf hl.typeIs PySem.F.slot_list_iter.lookup (wpAny_pure ?_))
  simp only [Bool.false_eq_true, if_false]
  refine wpAny_bind (wpAny_holding (wpAny_pyIter_list hl ?_))
  have hl1 : (s.heap.push { cls := .type "list_iterator", data := .fields #[.ref l, .int 0 0] }).IsList l items := hl.at fun o e => Heap.get?_push_of_some _ e
  refine wpAny_bind (wpAny_holding (draw_lst hlt items.size 0 _ _ ⟨_, Heap.get?_push_size _ rfl, rfl, rfl⟩ hl1 (by omega) fun h1 it1 s1 => ?_))
  rw [show List.take items.size (List.drop 0 items.toList) = items.toList by rw [List.drop_zero]; exact List.take_of_length_le (by simp), if_neg (by simp)]
  have hl2 : h1.IsList l items := hl1.extBut s1.extBut hlt
  rw [Nat.zero_add] at it1
  refine wpAny_bind (wpAny_holding (wpAny_pyNext_list_end hh it1 hl2 (by simp) fun h2 e2 => ?_))
  simp only [Option.isSome_none, Bool.false_eq_true, if_false]
  refine wpAny_pure (h h2 fun b o e => ?_)
  have hb : b ≠ s.heap.objs.size := Nat.ne_of_lt (Heap.lt_size e)
  exact e2 b o hb (s1.extBut b o hb (Heap.get?_push_of_some _ e))
end
def gTupL (n : Nat) (t : TGs) : TG := fun v σ H Q => ∃ a xs, v = .ref a ∧ H a = some (.lst xs) ∧ xs.length = n ∧ t xs σ H Q
section
variable {X : Cx} {pos : Pos}
theorem pg_tupL {es : List Expr} {j : Nat} {t : TGs} {n : Nat} (hc : X.calm = true) (h : PGs X es t) (hn : (assignEach es X.env).length = n := by rfl) (hst : (assignEach es X.env).findIdx? (·.1) = none := by rfl) : PG X (.Tuple es j pos) (gTupL n t) := by
  constructor
  intro pins s σ H v u Q I r hw
  obtain ⟨a, xs, rfl, hq, hl, hw⟩ := hw
  obtain rfl : u = .ref a := r
  obtain ⟨its, rv, hp, _⟩ := I.list (.inl (.inl hq))
  refine assign_lst (I.ok.hd hc) hp.isList (by simp [hn, ← hl, rv.length]) hst fun h' hx => ?_
  have I1 : L2.Inv X pins σ H { s with heap := h' } := I.kept (t' := s.toks) hx
  exact h.run pins _ σ H xs _ Q I1 (by simpa using rv) hw
def mTLst (n : Nat) (m : MTs) : MT := fun v ρ S => match v with
  | .lst vs => if vs.length = n then m vs ρ S else none
  | _ => none
theorem gm_lst {es : List Expr} {j : Nat} {is : List Nat} {m : MTs} {n : Nat} (hc : X.calm = true) (h : PGs X es (gMs X.K is m)) (hn : (assignEach es X.env).length = n := by rfl) (hst : (assignEach es X.env).findIdx? (·.1) = none := by rfl) :
    PG X (.Tuple es j pos) (gM X.K is (mTLst n m)) := by
  refine PG.imp (pg_tupL hc h hn hst) fun x σ H Q hh => ?_
  obtain ⟨st, ρ, v, ρ', S', rfl, hr, he, hx, hm, k⟩ := hh
  unfold mTLst at hm
  split at hm
  · split at hm
    · rename_i vs hl
      cases hx with
      | @lst a xs _ h1 h2 h3 => exact ⟨a, xs, rfl, h1, by rw [h3.length]; exact hl, st, ρ, vs, ρ', S', rfl, hr, he, h3, hm, k⟩
    · cases hm
  · cases hm
end
end Cw
end
section
/-! CwM7: statements, defs, calls of the text's defs, over the store. -/
namespace Cw
open PySem PySem.Spec PyProof.Rows L2

inductive Res where
  | nx (ρ : Env') (S : Sto) | rt (v : Val) (S : Sto)
abbrev MS := Env' → Sto → Option Res
def tS (K : PySem.W.Frag) (ms : MS) : TS := fun D σ H => ∃ (st : Ste) (ρ : Env') (r : Res), st.H = H ∧ Rep K st ∧ RepE K st ρ σ ∧ ms ρ st.S = some r ∧
  (∀ ρ' S', r = .nx ρ' S' → ∀ σ' st', st'.S = S' → Le K st st' → Rep K st' → RepE K st' ρ' σ' → D.nx σ' st'.H) ∧
  (∀ v S', r = .rt v S' → ∀ x st', st'.S = S' → Le K st st' → Rep K st' → RepV K st' x v → D.rt x st'.H)
def mAsg (m : M) (g : MT) : MS := fun ρ S => (m ρ S).bind fun p => (g p.1 ρ p.2).map fun q => .nx q.1 q.2
def mDrop (m : M) : MS := fun ρ S => (m ρ S).map fun p => .nx ρ p.2
def mRet (m : M) : MS := fun ρ S => (m ρ S).map fun p => .rt p.1 p.2
def mIfS (c : MG Bool) (a b : MS) : MS := fun ρ S => (c ρ S).bind fun p => if p.1 = true then a ρ p.2 else b ρ p.2
def mNext : MS := fun ρ S => some (.nx ρ S)
def mThen (a b : MS) : MS := fun ρ S => (a ρ S).bind fun r => match r with
  | .nx ρ' S' => b ρ' S'
  | .rt v S' => some (.rt v S')
def mNever : MS := fun _ _ => none
/-- d[k] = v: the value first -/
def fPut (S : Sto) (a k v : Val) : Option Sto := match a with
  | .loc n => match S[n]? with
    | some (.dct kvs) => if kvs.length < 100000 then (keyOf k).map fun key => S.set n (.dct (pK kvs key v)) else none
    | _ => none
  | _ => none
def mPut (o i v : M) : MS := fun ρ S => (v ρ S).bind fun p => (o ρ p.2).bind fun q => (i ρ q.2).bind fun r => (fPut r.2 q.1 r.1 p.1).map fun S' => .nx ρ S'
/-- d[k] op= v of ints -/
def mAugD (g : Int → Int → Int) (o i v : M) : MS := fun ρ S => (o ρ S).bind fun p => (i ρ p.2).bind fun q => match p.1 with
  | .loc n => match q.2[n]? with
    | some (.dct kvs) => (keyOf q.1).bind fun key => (gK kvs key).bind fun old => (v ρ q.2).bind fun r => match old, r.1 with
      | .int x, .int y => (fPut r.2 p.1 q.1 (.int (g x y))).map fun S' => .nx ρ S'
      | _, _ => none
    | _ => none
  | _ => none
def forGo (g : MT) (b : MS) : List Val → Env' → Sto → Option Res
  | [], ρ, S => some (.nx ρ S)
  | v :: vs, ρ, S => (g v ρ S).bind fun p => (b p.1 p.2).bind fun r => match r with
    | .nx ρ' S' => forGo g b vs ρ' S'
    | .rt w S' => some (.rt w S')
def mFor (mi : MG (List Val)) (g : MT) (b : MS) : MS := fun ρ S => (mi ρ S).bind fun p => forGo g b p.1 ρ p.2
def whileGo (c : MG Bool) (b : MS) : Nat → Env' → Sto → Option Res
  | 0, _, _ => none
  | n + 1, ρ, S => (c ρ S).bind fun p => if p.1 = true then (b ρ p.2).bind fun r => match r with
    | .nx ρ' S' => whileGo c b n ρ' S'
    | .rt w S' => some (.rt w S') else some (.nx ρ p.2)
def mWhile (fuel : Nat) (c : MG Bool) (b : MS) : MS := fun ρ S => whileGo c b fuel ρ S
/-- a list of the store is let go: its value -/
def mFree (m : M) : M := fun ρ S => (m ρ S).bind fun p => match p.1 with
  | .loc n => match p.2[n]? with
    | some (.lst xs) => some (.lst xs, p.2.set n .dead)
    | _ => none
  | .lst xs => some (.lst xs, p.2)
  | _ => none
section
variable {X : Cx} {e tg c : Expr} {m : M} {g : MT} {is : List Nat} {pos : Pos} {K : PySem.W.Frag}
theorem em_free (h : PE X e (tM X.K m)) : PE X e (tM X.K (mFree m)) := by
  refine PE.imp h fun σ H Q hh => ?_
  obtain ⟨st, ρ, v, S', rfl, hr, he, hm, k⟩ := hh
  simp only [mFree, Option.bind_eq_some_iff, Prod.exists] at hm
  obtain ⟨va, S1, h1, h2⟩ := hm
  split at h2
  · split at h2
    · rename_i n _ xs en
      obtain ⟨rfl, e2⟩ : .lst xs = v ∧ S1.set n .dead = S' := by simpa using h2
      refine ⟨st, ρ, _, S1, rfl, hr, he, h1, fun x st1 e1 l1 r1 x1 => ?_⟩
      subst e1
      cases x1 with
      | @loc _ a hn => exact k _ ⟨st1.μ, st1.H, st1.S.set n .dead, st1.F⟩ e2 (l1.trans (kill_le n)) (kill_rep r1 en) (kill_val r1 hn en)
    · cases h2
  · rename_i xs
    obtain ⟨rfl, rfl⟩ : .lst xs = v ∧ S1 = S' := by simpa using h2
    exact ⟨st, ρ, _, S1, rfl, hr, he, h1, k⟩
  · cases h2
theorem asg_M {is : List Nat} {te : TE} {tgr : TG} {σ : L2.St} {H : Hp} {D : Ends} (ht : ∀ σ H Q, tM K m σ H Q → te σ H Q) (hg : ∀ x σ H Q, gM K is g x σ H Q → tgr x σ H Q) (h : tS K (mAsg m g) D σ H) : tAsg te tgr D σ H := by
  obtain ⟨st, ρ, r, rfl, hr, he, hm, kn, kr⟩ := h
  simp only [mAsg, Option.bind_eq_some_iff, Option.map_eq_some_iff, Prod.exists] at hm
  obtain ⟨v, S1, h1, ρ', S', h2, rfl⟩ := hm
  refine ht _ _ _ ⟨st, ρ, v, S1, rfl, hr, he, h1, fun x st1 e1 l1 r1 x1 => hg _ _ _ _ ?_⟩
  subst e1
  exact ⟨st1, ρ, v, ρ', S', rfl, r1, he.le l1.toLv, x1, h2, fun σ' st' e2 l2 r2 x2 _ => kn ρ' S' rfl σ' st' e2 (l1.trans l2) r2 x2⟩
theorem sm_asg (he : PE X e (tM X.K m)) (hg : PG X tg (gM X.K is g)) (hs : swapsWithSole [tg] e pos.line X.env = pure false := by rfl) (hw : swappedStores [tg] e X.env = pure none := by rfl)
    (h1 : (assignEach [tg] X.env).map (·.2) = [assign tg X.env] := by rfl) : PS X (.Assign [tg] e pos) (tS X.K (mAsg m g)) :=
  PS.imp (ps_asg he hg hs hw h1) fun D σ H h => asg_M (is := is) (fun _ _ _ q => q) (fun _ _ _ _ q => q) h
/-- name = [..], on one line, a local name -/
theorem sm_setLc {i : Nat} {y : Str} {py : Pos} {elt tg iter : Expr} {ifs : List Expr} {scope : Scope} {own : List (Str × Nat)} {pos spos : Pos} {mi : MG (List Val)} {mg : MT} {mt : MG Bool} {me : M} {is : List Nat} (hc : X.calm = true) (hN : X.N.Nodup) (hy : X.N[i]? = some y) (hyl : X.env.scope.names.lookup y = some .local)
    (hsw : swapsWith (.ListComp elt [⟨tg, iter, ifs, 0⟩] scope pos) (some (.Name y py)) spos.line X.env = pure true) (hi : PI X tg iter (tI X.K mi)) (ok : BlkOk X.N X.env.scope scope own)
    (hg : ∀ (s : Shared) (H : Hp) (C : Addr) (cl : List (Str × Addr)) (fp : List Addr), PG (X.blk s H scope (compEnvC scope cl C X.env) fp) tg (gM X.K is mg)) (ht : ∀ (s : Shared) (H : Hp) (C : Addr) (cl : List (Str × Addr)) (fp : List Addr), PTs (X.blk s H scope (compEnvC scope cl C X.env) fp) ifs (tB' X.K mt))
    (he : ∀ (s : Shared) (H : Hp) (C : Addr) (cl : List (Str × Addr)) (fp : List Addr), PE (X.blk s H scope (compEnvC scope cl C X.env) fp) elt (tM X.K me)) (hown : is.all (fun i => (own.map (·.2)).contains i) = true := by decide) (hs : ∀ x, foldedSetIterable iter X.env x = pure x := by intro _; rfl) :
    PS X (.Assign [.Name y py] (.ListComp elt [⟨tg, iter, ifs, 0⟩] scope pos) spos) (tS X.K (mAsg (mLc mi mg mt me (own.map (·.2))) (mName i))) :=
  PS.imp (ps_setLc hc hN hy hyl hsw hi ok hg ht he hs) fun D σ H h => asg_M (is := [i]) (fun σ H Q q => lc_M (fun i hi => by simpa using List.all_eq_true.mp hown i hi) q) (fun x σ H Q q => by
    obtain ⟨st, ρ, v, ρ', S', rfl, hr, he, hx, hm, k⟩ := q
    obtain ⟨rfl, rfl⟩ : ρ.set i (some v) = ρ' ∧ st.S = S' := by simpa [mName] using hm
    exact k _ st rfl (Le.refl st) hr (he.set i hx) Only'.name) h
theorem sm_expr (he : PE X e (tM X.K m)) (hs : swapsWith e none pos.line X.env = pure false := by rfl) : PS X (.Expr e pos) (tS X.K (mDrop m)) := by
  refine PS.imp (ps_expr he hs) fun D σ H h => ?_
  obtain ⟨st, ρ, r, rfl, hr, he, hm, kn, kr⟩ := h
  simp only [mDrop, Option.map_eq_some_iff, Prod.exists] at hm
  obtain ⟨v, S1, h1, rfl⟩ := hm
  exact ⟨st, ρ, v, S1, rfl, hr, he, h1, fun x st1 e1 l1 r1 x1 => kn ρ S1 rfl σ st1 e1 l1 r1 (he.le l1.toLv)⟩
theorem sm_ret (he : PE X e (tM X.K m)) : PS X (.Return (some e) pos) (tS X.K (mRet m)) := by
  refine PS.imp (ps_ret he) fun D σ H h => ?_
  obtain ⟨st, ρ, r, rfl, hr, he, hm, kn, kr⟩ := h
  simp only [mRet, Option.map_eq_some_iff, Prod.exists] at hm
  obtain ⟨v, S1, h1, rfl⟩ := hm
  exact ⟨st, ρ, v, S1, rfl, hr, he, h1, kr v S1 rfl⟩
theorem sm_if {a b : List Stmt} {t : MG Bool} {ma mb : MS} (hc : PT X c (tB' X.K t)) (ha : PSs X a (tS X.K ma)) (hb : PSs X b (tS X.K mb)) : PS X (.If c a b pos) (tS X.K (mIfS t ma mb)) := by
  refine PS.imp (ps_if hc ha hb) fun D σ H h => ?_
  obtain ⟨st, ρ, r, rfl, hr, he, hm, kn, kr⟩ := h
  simp only [mIfS, Option.bind_eq_some_iff, Prod.exists] at hm
  obtain ⟨va, S1, h1, h2⟩ := hm
  refine ⟨st, ρ, va, S1, rfl, hr, he, h1, fun x st1 e1 l1 r1 x1 => ?_⟩
  subst x1 e1
  have kn' : ∀ ρ' S', r = .nx ρ' S' → ∀ σ' st', st'.S = S' → Le X.K st1 st' → Rep X.K st' → RepE X.K st' ρ' σ' → D.nx σ' st'.H := fun ρ' S' e σ' st' e2 l2 => kn ρ' S' e σ' st' e2 (l1.trans l2)
  have kr' : ∀ v S', r = .rt v S' → ∀ x st', st'.S = S' → Le X.K st1 st' → Rep X.K st' → RepV X.K st' x v → D.rt x st'.H := fun v S' e x st' e2 l2 => kr v S' e x st' e2 (l1.trans l2)
  cases x with
  | true =>
    rw [if_pos rfl] at h2
    rw [if_pos rfl]
    exact ⟨st1, ρ, r, rfl, r1, he.le l1.toLv, h2, kn', kr'⟩
  | false =>
    rw [if_neg Bool.false_ne_true] at h2
    rw [if_neg Bool.false_ne_true]
    exact ⟨st1, ρ, r, rfl, r1, he.le l1.toLv, h2, kn', kr'⟩
theorem sms_nil : PSs X [] (tS X.K mNext) := by
  refine PSs.imp pss_nil fun D σ H h => ?_
  obtain ⟨st, ρ, r, rfl, hr, he, hm, kn, kr⟩ := h
  obtain rfl : .nx ρ st.S = r := by simpa [mNext] using hm
  exact kn ρ st.S rfl σ st rfl (Le.refl st) hr he
theorem sms_cons {s : Stmt} {r : List Stmt} {a b : MS} (h1 : PS X s (tS X.K a)) (h2 : PSs X r (tS X.K b)) : PSs X (s :: r) (tS X.K (mThen a b)) := by
  refine PSs.imp (pss_cons h1 h2) fun D σ H h => ?_
  obtain ⟨st, ρ, r, rfl, hr, he, hm, kn, kr⟩ := h
  simp only [mThen, Option.bind_eq_some_iff] at hm
  obtain ⟨r1, h1, h2⟩ := hm
  refine ⟨st, ρ, r1, rfl, hr, he, h1, fun ρ' S' e σ' st' e2 l2 rr x2 => ?_, fun v S' e x st' e2 l2 rr x2 => ?_⟩
  · subst e e2
    exact ⟨st', ρ', r, rfl, rr, x2, h2, fun ρ'' S'' e σ'' st'' e3 l3 => kn ρ'' S'' e σ'' st'' e3 (l2.trans l3), fun v S'' e x st'' e3 l3 => kr v S'' e x st'' e3 (l2.trans l3)⟩
  · subst e
    have e5 : Res.rt v S' = r := Option.some.inj h2
    exact kr v S' e5.symm x st' e2 l2 rr x2
theorem sms_one {s : Stmt} {a : MS} (h1 : PS X s (tS X.K a)) : PSs X [s] (tS X.K a) := pss_one h1
theorem sms_never {r : List Stmt} : PSs X r (tS X.K mNever) := PSs.imp pss_never fun D σ H h => by
  obtain ⟨st, ρ, r, rfl, hr, he, hm, kn, kr⟩ := h
  cases hm
theorem put_M {st : Ste} {a k v : Val} {S' : Sto} {x y z : V} (hr : Rep K st) (hx : RepV K st x a) (hy : RepV K st y k) (hz : RepV K st z v) (h : fPut st.S a k v = some S') :
    ∃ p H4, x = .ref p ∧ DPut st.H p y z H4 ∧ ∃ st', st'.H = H4 ∧ st'.S = S' ∧ Le K st st' ∧ Rep K st' := by
  unfold fPut at h
  split at h
  · split at h
    · rename_i n kvs en
      split at h
      · rename_i hl
        simp only [Option.map_eq_some_iff] at h
        obtain ⟨key, e1, rfl⟩ := h
        obtain ⟨p, ks, rfl, g1, g2, g3⟩ := dct_at hr hx en
        have := key_at hy e1
        subst this
        have l := set_le (u := .dK (putK ks key z)) (o' := .dct (pK kvs key v)) hr g1 en (by intro z; cases z)
        refine ⟨p, _, rfl, DPut.k g2 (Nat.lt_of_lt_of_le (by rw [g3.length]; exact hl) (by decide : 100000 ≤ sizeLine)), ⟨_, rfl, rfl, l, set_rep hr g1 en (by intro z; cases z) ⟨_, upd_same, RepK.put (hz.le l.toLv) (g3.le l.toLv)⟩⟩⟩
      · cases h
    · cases h
  · cases h
theorem sm_put {o i : Expr} {mo mi : M} {pos' : Pos} (hu : X.A.units + 65 < cLine) (ho : PE X o (tM X.K mo)) (hi : PE X i (tM X.K mi)) (hv : PE X e (tM X.K m)) (hs : swapsWith e (some (.Subscript o i pos')) pos.line X.env = pure false := by rfl) :
    PS X (.Assign [.Subscript o i pos'] e pos) (tS X.K (mPut mo mi m)) := by
  refine PS.imp (ps_dput (by omega) ho hi hv hs) fun D σ H h => ?_
  obtain ⟨st, ρ, r, rfl, hr, he, hm, kn, kr⟩ := h
  simp only [mPut, Option.bind_eq_some_iff, Option.map_eq_some_iff, Prod.exists] at hm
  obtain ⟨v, S1, h1, a, S2, h2, k, S3, h3, S4, h4, rfl⟩ := hm
  refine ⟨st, ρ, v, S1, rfl, hr, he, h1, fun z st1 e1 l1 r1 z1 => ?_⟩
  subst e1
  refine ⟨st1, ρ, a, S2, rfl, r1, he.le l1.toLv, h2, fun x st2 e2 l2 r2 x2 => ?_⟩
  subst e2
  refine ⟨st2, ρ, k, S3, rfl, r2, (he.le l1.toLv).le l2.toLv, h3, fun y st3 e3 l3 r3 y3 => ?_⟩
  subst e3
  obtain ⟨p, H4, ex, hp, st', eH, eS, l4, r4⟩ := put_M r3 (x2.le l3.toLv) y3 (z1.le (l2.trans l3).toLv) h4
  refine ⟨p, H4, ex, hp, ?_⟩
  rw [← eH]
  exact kn ρ S4 rfl σ st' eS (l1.trans (l2.trans (l3.trans l4))) r4 ((((he.le l1.toLv).le l2.toLv).le l3.toLv).le l4.toLv)
theorem sm_aug {o i : Expr} {mo mi : M} {tpos : Pos} {op : Operator} {gi : Int → Int → Int} {rd : V → V → Hp → VK → Prop} (hu : X.A.units + 65 < cLine) (hop : InOp X op rd) (hrd : ∀ i j H Q, Q (.int (gi i j)) H → rd (.int i) (.int j) H Q) (ho : PE X o (tM X.K mo)) (hi : PE X i (tM X.K mi)) (hv : PE X e (tM X.K m))
    (ha : ∀ ov iv new, augStore i ov iv new = (do holding [new, ov, iv] (setItem ov iv new); release [new, ov, iv] []; pure .next) := by intros; rfl) : PS X (.AugAssign (.Subscript o i tpos) op e pos) (tS X.K (mAugD gi mo mi m)) := by
  refine PS.imp (ps_daug (by omega) ho hi hv hop ha) fun D σ H h => ?_
  obtain ⟨st, ρ, r, rfl, hr, he, hm, kn, kr⟩ := h
  simp only [mAugD, Option.bind_eq_some_iff, Prod.exists] at hm
  obtain ⟨a, S1, h1, k, S2, h2, h3⟩ := hm
  refine ⟨st, ρ, a, S1, rfl, hr, he, h1, fun x st1 e1 l1 r1 x1 => ?_⟩
  subst e1
  refine ⟨st1, ρ, k, S2, rfl, r1, he.le l1.toLv, h2, fun y st2 e2 l2 r2 y2 => ?_⟩
  subst e2
  split at h3
  · split at h3
    · rename_i n kvs en
      simp only [Option.bind_eq_some_iff, Prod.exists] at h3
      obtain ⟨key, g1, old, g2, v, S3, g3, g4⟩ := h3
      obtain ⟨p, ks, rfl, f1, f2, f3⟩ := dct_at r2 (x1.le l2.toLv) en
      have := key_at y2 g1
      subst this
      obtain ⟨zo, f4, f5⟩ := (f3.val (k := key)).1 old g2
      refine ⟨p, zo, rfl, f4 ▸ DGet.k f2, st2, ρ, v, S3, rfl, r2, (he.le l1.toLv).le l2.toLv, g3, fun z st3 e3 l3 r3 z3 => ?_⟩
      subst e3
      split at g4
      · rename_i i' j'
        simp only [Option.map_eq_some_iff] at g4
        obtain ⟨S4, g5, rfl⟩ := g4
        cases f5
        cases z3
        refine hrd _ _ _ _ ?_
        obtain ⟨p', H4, ex, hp, st', eH, eS, l4, r4⟩ := put_M r3 (x1.le (l2.trans l3).toLv) (y2.le l3.toLv) (.int _) g5
        cases ex
        refine ⟨H4, hp, ?_⟩
        rw [← eH]
        exact kn ρ S4 rfl σ st' eS (l1.trans (l2.trans (l3.trans l4))) r4 ((((he.le l1.toLv).le l2.toLv).le l3.toLv).le l4.toLv)
      · cases g4
    · cases h3
  · cases h3
theorem sm_augAdd {o i : Expr} {mo mi : M} {tpos : Pos} (hu : X.A.units + 65 < cLine) (ho : PE X o (tM X.K mo)) (hi : PE X i (tM X.K mi)) (hv : PE X e (tM X.K m)) (ha : ∀ ov iv new, augStore i ov iv new = (do holding [new, ov, iv] (setItem ov iv new); release [new, ov, iv] []; pure .next) := by intros; rfl) :
    PS X (.AugAssign (.Subscript o i tpos) .Add e pos) (tS X.K (mAugD (· + ·) mo mi m)) := sm_aug (rd := rAdd) hu iop_add (fun i j H Q q => ⟨i, j, rfl, rfl, q⟩) ho hi hv ha
theorem sm_augSub {o i : Expr} {mo mi : M} {tpos : Pos} (hu : X.A.units + 65 < cLine) (ho : PE X o (tM X.K mo)) (hi : PE X i (tM X.K mi)) (hv : PE X e (tM X.K m)) (ha : ∀ ov iv new, augStore i ov iv new = (do holding [new, ov, iv] (setItem ov iv new); release [new, ov, iv] []; pure .next) := by intros; rfl) :
    PS X (.AugAssign (.Subscript o i tpos) .Sub e pos) (tS X.K (mAugD (· - ·) mo mi m)) := sm_aug (rd := rSub) hu iop_sub (fun i j H Q q => ⟨i, j, rfl, rfl, q⟩) ho hi hv ha
theorem sm_for {iter : Expr} {body : List Stmt} {mi : MG (List Val)} {b : MS} (hp : PassesOwn (model X.prog X.w) X.A X.env X.xe) (hc : X.calm = true) (hi : PI X tg iter (tI X.K mi)) (hg : PG X tg (gM X.K is g)) (hb : PSs X body (tS X.K b))
    (hs : ∀ x, foldedSetIterable iter X.env x = pure x := by intro _; rfl) : PS X (.For tg iter body [] pos) (tS X.K (mFor mi g b)) := by
  refine PS.imp (ps_for hp hc hi hg hb hs) fun D σ H h => ?_
  obtain ⟨st, ρ, r, rfl, hr, he, hm, kn, kr⟩ := h
  simp only [mFor, Option.bind_eq_some_iff, Prod.exists] at hm
  obtain ⟨vs, S1, h1, h2⟩ := hm
  refine ⟨st, ρ, vs, S1, rfl, hr, he, h1, fun J st1 e1 l1 r1 w1 => ?_⟩
  subst e1
  refine ⟨fun i m σ H => m = vs.length - i ∧ i ≤ vs.length ∧ ∃ (st2 : Ste) (ρ2 : Env'), st2.H = H ∧ Le X.K st1 st2 ∧ Rep X.K st2 ∧ RepE X.K st2 ρ2 σ ∧ forGo g b (vs.drop i) ρ2 st2.S = some r, ⟨vs.length, by simp, Nat.zero_le _, st1, ρ, rfl, Le.refl st1, r1, he.le l1.toLv, by simpa using h2⟩, ?_⟩
  rintro i m σ2 H2 ⟨rfl, hi, st2, ρ2, rfl, l2, r2, he2, hgo⟩
  have wk := w1 st2 l2.toLv r2
  by_cases hlt : i < vs.length
  · have hv : vs[i]? = some vs[i] := List.getElem?_eq_getElem hlt
    obtain ⟨go, yl⟩ := wk.2 i vs[i] hv
    rw [List.drop_eq_getElem_cons hlt] at hgo
    simp only [forGo, Option.bind_eq_some_iff, Prod.exists] at hgo
    obtain ⟨ρ3, S3, g1, r4, g2, g3⟩ := hgo
    refine .inr ⟨go, fun σ H => ∃ (st2 : Ste) (ρ2 : Env'), st2.H = H ∧ Le X.K st1 st2 ∧ Rep X.K st2 ∧ RepE X.K st2 ρ2 σ ∧ forGo g b (vs.drop (i + 1)) ρ2 st2.S = some r, fun σ' H' hN => ⟨vs.length - (i + 1), by omega, rfl, hlt, hN⟩, fun x H' hy => ?_⟩
    obtain ⟨st3, rfl, e3, l3, r3, x3⟩ := yl x H' hy
    rw [← e3] at g1
    refine ⟨st3, ρ2, vs[i], ρ3, S3, rfl, r3, he2.le l3.toLv, x3, g1, fun σ4 st4 e4 l4 r4' x4 _ => ?_⟩
    subst e4
    refine ⟨st4, ρ3, r4, rfl, r4', x4, g2, fun ρ5 S5 e5 σ5 st5 e6 l5 r5 x5 => ?_, fun w S5 e5 x st5 e6 l5 r5 x5 => ?_⟩
    · subst e5 e6
      exact ⟨st5, ρ5, rfl, l2.trans (l3.trans (l4.trans l5)), r5, x5, g3⟩
    · subst e5
      have e7 : Res.rt w S5 = r := Option.some.inj g3
      exact kr w S5 e7.symm x st5 e6 (l1.trans (l2.trans (l3.trans (l4.trans l5)))) r5 x5
  · have e : i = vs.length := by omega
    subst e
    rw [List.drop_length] at hgo
    have e5 : Res.nx ρ2 st2.S = r := Option.some.inj hgo
    exact .inl ⟨wk.1, kn ρ2 st2.S e5.symm σ2 st2 rfl (l1.trans l2) r2 he2⟩
theorem sm_while {body : List Stmt} {t : MG Bool} {b : MS} (fuel : Nat) (hp : PassesOwn (model X.prog X.w) X.A X.env X.xe) (hc : PT X c (tB' X.K t)) (hb : PSs X body (tS X.K b)) : PS X (.While c body [] pos) (tS X.K (mWhile fuel t b)) := by
  refine PS.imp (ps_while hp hc hb) fun D σ H h => ?_
  obtain ⟨st, ρ, r, rfl, hr, he, hm, kn, kr⟩ := h
  refine ⟨fun m σ H => ∃ (st2 : Ste) (ρ2 : Env'), st2.H = H ∧ Le X.K st st2 ∧ Rep X.K st2 ∧ RepE X.K st2 ρ2 σ ∧ whileGo t b m ρ2 st2.S = some r, ⟨fuel, st, ρ, rfl, Le.refl st, hr, he, hm⟩, ?_⟩
  rintro m σ2 H2 ⟨st2, ρ2, rfl, l2, r2, he2, hgo⟩
  cases m with
  | zero => cases hgo
  | succ m =>
    simp only [whileGo, Option.bind_eq_some_iff, Prod.exists] at hgo
    obtain ⟨cc, S3, g1, g2⟩ := hgo
    refine ⟨st2, ρ2, cc, S3, rfl, r2, he2, g1, fun x st3 e3 l3 r3 x3 => ?_⟩
    subst x3 e3
    cases x with
    | true =>
      rw [if_pos rfl] at g2
      rw [if_pos rfl]
      simp only [Option.bind_eq_some_iff] at g2
      obtain ⟨r4, g3, g4⟩ := g2
      refine ⟨fun σ H => ∃ (st2 : Ste) (ρ2 : Env'), st2.H = H ∧ Le X.K st st2 ∧ Rep X.K st2 ∧ RepE X.K st2 ρ2 σ ∧ whileGo t b m ρ2 st2.S = some r, fun σ' H' hN => ⟨m, Nat.lt_succ_self m, hN⟩, st3, ρ2, r4, rfl, r3, he2.le l3.toLv, g3, fun ρ5 S5 e5 σ5 st5 e6 l5 r5 x5 => ?_, fun w S5 e5 x st5 e6 l5 r5 x5 => ?_⟩
      · subst e5 e6
        exact ⟨st5, ρ5, rfl, l2.trans (l3.trans l5), r5, x5, g4⟩
      · subst e5
        have e7 : Res.rt w S5 = r := Option.some.inj g4
        exact kr w S5 e7.symm x st5 e6 (l2.trans (l3.trans l5)) r5 x5
    | false =>
      rw [if_neg Bool.false_ne_true] at g2
      rw [if_neg Bool.false_ne_true]
      have e7 : Res.nx ρ2 st3.S = r := Option.some.inj g2
      exact kn ρ2 st3.S e7.symm σ2 st3 rfl (l2.trans l3) r3 (he2.le l3.toLv)
end

/-! ### defs -/
abbrev FV := List Val → Sto → Option (Val × Sto)
/-- the promise: what the program over the store computes -/
def spM (K : PySem.W.Frag) (n : Nat) (F : FV) : Sp := fun vs H Q _ => ∃ (st : Ste) (as : List Val) (v : Val) (S' : Sto), st.H = H ∧ Rep K st ∧ RepVs K st vs as ∧ as.length = n ∧ F as st.S = some (v, S') ∧ ∀ x st', st'.S = S' → Le K st st' → Rep K st' → RepV K st' x v → Q x st'.H
def startE (N : Nat) (as : List Val) : Env' := as.map some ++ List.replicate (N - as.length) none
def mBody (N : Nat) (ms : MS) : FV := fun as S => (ms (startE N as) S).map fun r => match r with
  | .nx _ S' => (.non, S')
  | .rt v S' => (v, S')
section
variable {P : Program} {w : World} {K : PySem.W.Frag} {mg : Str → Option Value} {base : Heap}
theorem startE_rep {st : Ste} {N : List Str} {vs : List V} {as : List Val} (h : RepVs K st vs as) : RepE K st (startE N.length as) (L2.start N vs) := by
  have hl := h.length
  refine ⟨by simp [L2.start, startE, hl], fun i v q => ?_⟩
  unfold startE at q
  by_cases hi : i < as.length
  · rw [List.getElem?_append_left (by simpa using hi), List.getElem?_map, Option.map_eq_some_iff] at q
    obtain ⟨a, h1, h2⟩ := q
    obtain rfl := Option.some.inj h2
    obtain ⟨x, h3, h4⟩ := h.get' h1
    refine ⟨x, ?_, h4⟩
    unfold L2.start
    rw [List.getElem?_append_left (by simpa [hl] using hi), List.getElem?_map, h3]
    rfl
  · rw [List.getElem?_append_right (by simpa using hi), List.getElem?_replicate] at q
    split at q <;> cases q
theorem def_ok {x qual : Str} {params : Arguments} {body : List Stmt} {scope : Scope} {dvs : List V} {kws : List (Str × V)} {f : Addr} {fd : FuncData} {N ps : List Str} {k : Nat} {ms : MS} (F : FunD K x qual params body scope dvs kws f fd) (S : FnScope N ps scope)
    (hbody : ∀ (cdv : Value) (A : Around) (outer : List Env) (s : Shared) (H : Hp) (E : XK), Room k (A.deeper (envOfC qual scope s.heap.objs.size f cdv)) → PSs (cxOf CX0 P w K mg base N qual scope f cdv A outer s H E).nox body (tS K ms)) :
    FnOk P w K mg base CX0 (k + 1) f fd ps (spM K ps.length (mBody N.length ms)) := by
  refine F.ok S (fun vs H Q E h => ?_) fun cdv A outer s H vs Q E hr h => ⟨_, PSs.nox (hbody cdv A outer s H E hr), ?_⟩
  · obtain ⟨st, as, v, S', _, _, hx, hl, _⟩ := h
    rw [hx.length]
    exact hl
  · obtain ⟨st, as, v, S', rfl, hr, hx, hl, hm, k⟩ := h
    simp only [mBody, Option.map_eq_some_iff] at hm
    obtain ⟨r, h1, h2⟩ := hm
    refine ⟨st, _, r, rfl, hr, startE_rep hx, h1, fun ρ' S1 e σ' st' e2 l r x => ?_, fun v1 S1 e x st' e2 l r xx => ?_⟩
    · subst e
      obtain ⟨rfl, rfl⟩ : .non = v ∧ S1 = S' := by simpa using h2
      exact k .non st' e2 l r .non
    · subst e
      obtain ⟨rfl, rfl⟩ : v1 = v ∧ S1 = S' := by simpa using h2
      exact k x st' e2 l r xx
/-- a def that may be called by positions; dv: the values of the keyword-only defaults -/
def Callee (P : Program) (w : World) (K : PySem.W.Frag) (mg : Str → Option Value) (base : Heap) (x : Str) (k : Nat) (dv : List Val) (n : Nat) (F : FV) : Prop :=
  ∃ (f : Addr) (fd : FuncData) (ps : List Str) (dvs : List V) (ds : List Value), mg x = some (.ref f) ∧ PySem.W.keepIn K (.ref f) = true ∧ FnOk P w K mg base CX0 k f fd ps (spM K n F) ∧ Binds K fd ps ds ∧ Vals dvs ds ∧ ∀ st, RepVs K st dvs dv
/-- .. by n positions and the keywords ks; g puts them in the parameters' order -/
def CalleeK (P : Program) (w : World) (K : PySem.W.Frag) (mg : Str → Option Value) (base : Heap) (x : Str) (k : Nat) (np : Nat) (ks : List Str) (g : List Val → List Val → List Val) (n : Nat) (F : FV) : Prop :=
  ∃ (f : Addr) (fd : FuncData) (ps : List Str) (gu : List Value → List Value → List Value) (gV : List V → List V → List V), mg x = some (.ref f) ∧ PySem.W.keepIn K (.ref f) = true ∧ FnOk P w K mg base CX0 k f fd ps (spM K n F) ∧ KBn K fd ps np ks gu gV ∧
    ∀ (st : Ste) (vs zs : List V) (as bs : List Val), RepVs K st vs as → RepVs K st zs bs → RepVs K st (gV vs zs) (g as bs)
end
def mCallF (n : Nat) (F : FV) (dv : List Val) (a : MG (List Val)) : M := fun ρ S => (a ρ S).bind fun p => if (p.1 ++ dv).length = n then F (p.1 ++ dv) p.2 else none
def mCallK (n np nk : Nat) (F : FV) (g : List Val → List Val → List Val) (a b : MG (List Val)) : M := fun ρ S => (a ρ S).bind fun p => (b ρ p.2).bind fun q => if p.1.length = np ∧ q.1.length = nk ∧ (g p.1 q.1).length = n then F (g p.1 q.1) q.2 else none
section
variable {X : Cx} {x : Str} {k n np : Nat} {F : FV} {e : Expr} {es : List Expr} {ma mb : MG (List Val)} {p pos kpos : Pos} {dv : List Val} {kws : List Keyword} {nm : Option Str} {m : M}
theorem em_call (C : Callee X.prog X.w X.K X.mg X.base x k dv n F) (hr : Room k X.A) (ha : PA X (e :: es) (tA X.K ma)) (hx : X.xe = fun _ _ => False := by rfl) (hg : Gl X x := by rfl) (hdb : (x == ("__debug__" : Str)) = false := by decide)
    (he : starEach (e :: es) X.env = (false, eval e X.env) :: starEach es X.env := by rfl) (hpl : (backTo pos (starEach es X.env)).any (·.1) = false := by rfl) : PE X (.Call (.Name x p) (e :: es) [] pos) (tM X.K (mCallF n F dv ma)) := by
  obtain ⟨f, fd, ps, dvs, ds, h1, h2, h3, h4, h5, h6⟩ := C
  refine PE.imp (pe_call h3 hr hg h1 h2 h4 h5 pass0 ha hdb he hpl) fun σ H Q hh => ?_
  obtain ⟨st, ρ, v, S', rfl, hr, he, hm, k⟩ := hh
  simp only [mCallF, Option.bind_eq_some_iff, Prod.exists] at hm
  obtain ⟨va, S1, g1, g2⟩ := hm
  split at g2
  · rename_i hl
    refine ⟨st, ρ, va, S1, rfl, hr, he, g1, fun xs st1 e1 l1 r1 x1 => ?_⟩
    subst e1
    exact ⟨st1, va ++ dv, v, S', rfl, r1, x1.append (h6 st1), hl, g2, fun y st2 e2 l2 r2 x2 => k y st2 e2 (l1.trans l2) r2 x2⟩
  · cases g2
theorem km_nil : PK X [] (tA X.K mNil) := by
  refine ⟨fun pos pins s σ H Q I h => pk_nil.run pos pins s σ H Q I ?_⟩
  obtain ⟨st, ρ, v, S', rfl, hr, he, hm, k⟩ := h
  obtain ⟨rfl, rfl⟩ : [] = v ∧ st.S = S' := by simpa [mNil] using hm
  exact k [] st rfl (Le.refl st) hr .nil
theorem km_cons (ha : PE X e (tM X.K m)) (hr : PK X kws (tA X.K mb)) : PK X (⟨nm, e, kpos⟩ :: kws) (tA X.K (mCons m mb)) := by
  refine ⟨fun pos pins s σ H Q I h => (pk_cons ha hr).run pos pins s σ H Q I ?_⟩
  obtain ⟨st, ρ, v, S', rfl, hr, he, hm, k⟩ := h
  simp only [mCons, Option.bind_eq_some_iff, Prod.exists] at hm
  obtain ⟨va, S1, h1, vs, S2, h2, h3⟩ := hm
  obtain ⟨rfl, rfl⟩ : va :: vs = v ∧ S2 = S' := by simpa using h3
  refine ⟨st, ρ, va, S1, rfl, hr, he, h1, fun x st1 e1 l1 r1 x1 => ?_⟩
  subst e1
  exact ⟨st1, ρ, vs, S2, rfl, r1, he.le l1.toLv, h2, fun y st2 e2 l2 r2 x2 => k _ st2 e2 (l1.trans l2) r2 (.cons (x1.le l2.toLv) x2)⟩
theorem em_callK {nk : Nat} {ks : List Str} {g : List Val → List Val → List Val} (C : CalleeK X.prog X.w X.K X.mg X.base x k np ks g n F) (hr : Room k X.A) (ha : PA X (e :: es) (tA X.K ma)) (hkw : PK X kws (tA X.K mb))
    (hall : (backToKw pos (keywordEach kws X.env)).all (·.1.isSome) = true := by rfl) (hks : (backToKw pos (keywordEach kws X.env)).filterMap (·.1) = ks := by rfl)
    (hg : Gl X x := by rfl) (hdb : (x == ("__debug__" : Str)) = false := by decide) (he : starEach (e :: es) X.env = (false, eval e X.env) :: starEach es X.env := by rfl)
    (hpl : ((backTo pos (starEach (e :: es) X.env)).any (·.1) || (backToKw pos (keywordEach kws X.env)).any (·.1.isNone)) = false := by rfl) (hx : X.xe = fun _ _ => False := by rfl) (hnk : ks.length = nk := by rfl) :
    PE X (.Call (.Name x p) (e :: es) kws pos) (tM X.K (mCallK n np nk F g ma mb)) := by
  subst hnk
  obtain ⟨f, fd, ps, gu, gV, h1, h2, h3, h4, h5⟩ := C
  refine PE.imp (pe_callN h3 hr hg h1 h2 h4 pass0 ha hkw hall hks hdb he hpl) fun σ H Q hh => ?_
  obtain ⟨st, ρ, v, S', rfl, hr, he, hm, k⟩ := hh
  simp only [mCallK, Option.bind_eq_some_iff, Prod.exists] at hm
  obtain ⟨va, S1, g1, vb, S2, g2, g3⟩ := hm
  split at g3
  · rename_i hl
    refine ⟨st, ρ, va, S1, rfl, hr, he, g1, fun xs st1 e1 l1 r1 x1 => ?_⟩
    subst e1
    refine ⟨st1, ρ, vb, S2, rfl, r1, he.le l1.toLv, g2, fun ys st2 e2 l2 r2 x2 => ?_⟩
    subst e2
    refine ⟨by rw [x1.length]; exact hl.1, by rw [x2.length]; exact hl.2.1, st2, g va vb, v, S', rfl, r2, h5 st2 _ _ _ _ (x1.le l2.toLv) x2, hl.2.2, g3, fun y st3 e3 l3 r3 x3 => k y st3 e3 (l1.trans (l2.trans l3)) r3 x3⟩
  · cases g3
end
end Cw
end
section
/-! CwM8: the rules by short names. -/
namespace Cw
open PySem PySem.Spec PyProof.Rows L2
def yes2 : Int → Int → Bool := fun _ _ => true
def mulOk (i j : Int) : Bool := decide ((-(2 ^ 64) < i ∧ i < 2 ^ 64) ∨ (-(2 ^ 64) < j ∧ j < 2 ^ 64))
def divOk (_ j : Int) : Bool := decide (0 < j ∧ j < 1073741824)
def modOk (_ j : Int) : Bool := decide (0 < j)
def powOk (i j : Int) : Bool := decide (0 ≤ j ∧ j ≤ 1000000 ∧ i.natAbs < 2 ^ 64)
def fAddI : F2 := fI yes2 fun i j => .int (i + j)
def fSubI : F2 := fI yes2 fun i j => .int (i - j)
def fMulI : F2 := fI mulOk fun i j => .int (i * j)
def fDivI : F2 := fI divOk fun i j => .int (i / j)
def fModI : F2 := fI modOk fun i j => .int (i % j)
def fPowI : F2 := fI powOk fun i j => .int (i ^ j.toNat)
def fLt : F2 := fI yes2 fun i j => .bl (decide (i < j))
def fLe : F2 := fI yes2 fun i j => .bl (decide (i ≤ j))
def fGt : F2 := fI yes2 fun i j => .bl (decide (j < i))
def fGe : F2 := fI yes2 fun i j => .bl (decide (j ≤ i))
def fNeg : F1 := fun S a => match a with
  | .int i => some (.int (-i), S)
  | _ => none
section
variable {K : PySem.W.Frag}
theorem fLt_M : OpM K (rI0 fun i j => .bl (decide (i < j))) fLt := fI_M fun _ _ _ => .bl _
theorem fLe_M : OpM K (rI0 fun i j => .bl (decide (i ≤ j))) fLe := fI_M fun _ _ _ => .bl _
theorem fGt_M : OpM K (rI0 fun i j => .bl (decide (j < i))) fGt := fI_M fun _ _ _ => .bl _
theorem fGe_M : OpM K (rI0 fun i j => .bl (decide (j ≤ i))) fGe := fI_M fun _ _ _ => .bl _
theorem fNeg_M : UnM K (rU fun i => .int (-i)) fNeg := by
  intro st x a v S' Q hr hx hf k
  cases hx <;> first | (cases hf; done) | skip
  rename_i i
  obtain ⟨rfl, rfl⟩ : .int (-i) = v ∧ st.S = S' := by simpa [fNeg] using hf
  exact ⟨i, rfl, k _ st rfl (Le.refl st) hr (.int _)⟩
theorem hu_room {k : Nat} {A : Around} (hr : Room k A) : A.units + 65 < cLine := by
  have := hr.un
  omega
end
section
variable {X : Cx} {a b c : Expr} {ma mb mc : M} {pos : Pos}

theorem em_addI (ha : PE X a (tM X.K ma)) (hb : PE X b (tM X.K mb)) : PE X (.BinOp a .Add b pos) (tM X.K (mBin fAddI ma mb)) := em_op op_add (fI_M fun _ _ _ => .int _) ha hb
theorem em_subI (ha : PE X a (tM X.K ma)) (hb : PE X b (tM X.K mb)) : PE X (.BinOp a .Sub b pos) (tM X.K (mBin fSubI ma mb)) := em_op op_sub (fI_M fun _ _ _ => .int _) ha hb
theorem em_mulI (ha : PE X a (tM X.K ma)) (hb : PE X b (tM X.K mb)) : PE X (.BinOp a .Mult b pos) (tM X.K (mBin fMulI ma mb)) := em_op op_mul (fIC_M (fun i j h => of_decide_eq_true (p := (-(2 ^ 64) < i ∧ i < 2 ^ 64) ∨ (-(2 ^ 64) < j ∧ j < 2 ^ 64)) h) fun _ _ _ => .int _) ha hb
theorem em_divI (ha : PE X a (tM X.K ma)) (hb : PE X b (tM X.K mb)) : PE X (.BinOp a .FloorDiv b pos) (tM X.K (mBin fDivI ma mb)) := em_op op_fdiv (fIC_M (fun i j h => of_decide_eq_true (p := 0 < j ∧ j < 1073741824) h) fun _ _ _ => .int _) ha hb
theorem em_modI (ha : PE X a (tM X.K ma)) (hb : PE X b (tM X.K mb)) : PE X (.BinOp a .Mod b pos) (tM X.K (mBin fModI ma mb)) := em_op op_mod (fIC_M (fun i j h => of_decide_eq_true h) fun _ _ _ => .int _) ha hb
theorem em_powI (ha : PE X a (tM X.K ma)) (hb : PE X b (tM X.K mb)) : PE X (.BinOp a .Pow b pos) (tM X.K (mBin fPowI ma mb)) := em_op op_pow (fIC_M (fun i j h => of_decide_eq_true (p := 0 ≤ j ∧ j ≤ 1000000 ∧ i.natAbs < 2 ^ 64) h) fun _ _ _ => .int _) ha hb
theorem em_catT (ha : PE X a (tM X.K ma)) (hb : PE X b (tM X.K mb)) : PE X (.BinOp a .Add b pos) (tM X.K (mBin fCatT ma mb)) := em_op op_catS fCatT_M ha hb
theorem em_catL (ha : PE X a (tM X.K ma)) (hb : PE X b (tM X.K mb)) : PE X (.BinOp a .Add b pos) (tM X.K (mBin fCatL ma mb)) := em_op op_cat fCatL_M ha hb
theorem em_catN (ha : PE X a (tM X.K ma)) (hb : PE X b (tM X.K mb)) : PE X (.BinOp a .Add b pos) (tM X.K (mBin fCatN ma mb)) := em_op op_cat fCatN_M ha hb
theorem em_neg (ha : PE X a (tM X.K ma)) : PE X (.UnaryOp .USub a pos) (tM X.K (mUn fNeg ma)) := em_un un_neg fNeg_M ha
theorem cm_eq (hu : X.A.units + 65 < cLine) (ha : PE X a (tM X.K ma)) (hb : PE X b (tM X.K mb)) : PC X .Eq a b (tM X.K (mBin fEq ma mb)) := cm_op (op_eqD (by omega)) fEq_M ha hb
theorem cm_ne (hu : X.A.units + 65 < cLine) (ha : PE X a (tM X.K ma)) (hb : PE X b (tM X.K mb)) : PC X .NotEq a b (tM X.K (mBin fNe ma mb)) := cm_op (op_neD (by omega)) fNe_M ha hb
theorem cm_in (hu : X.A.units + 65 < cLine) (ha : PE X a (tM X.K ma)) (hb : PE X b (tM X.K mb)) : PC X .In a b (tM X.K (mBin fIn ma mb)) := cm_op (op_inA hu) fIn_M ha hb
theorem cm_notIn (hu : X.A.units + 65 < cLine) (ha : PE X a (tM X.K ma)) (hb : PE X b (tM X.K mb)) : PC X .NotIn a b (tM X.K (mBin fNotIn ma mb)) := cm_op (op_notInA hu) fNotIn_M ha hb
theorem cm_is (ha : PE X a (tM X.K ma)) (hb : PE X b (tM X.K mb)) : PC X .Is a b (tM X.K (mBin fIs ma mb)) := cm_op op_isN1 fIs_M ha hb
theorem cm_isNot (ha : PE X a (tM X.K ma)) (hb : PE X b (tM X.K mb)) : PC X .IsNot a b (tM X.K (mBin fIsNot ma mb)) := cm_op op_notN1 fIsNot_M ha hb
theorem cm_lt (ha : PE X a (tM X.K ma)) (hb : PE X b (tM X.K mb)) : PC X .Lt a b (tM X.K (mBin fLt ma mb)) := cm_op op_lt fLt_M ha hb
theorem cm_le (ha : PE X a (tM X.K ma)) (hb : PE X b (tM X.K mb)) : PC X .LtE a b (tM X.K (mBin fLe ma mb)) := cm_op op_le fLe_M ha hb
theorem cm_gt (ha : PE X a (tM X.K ma)) (hb : PE X b (tM X.K mb)) : PC X .Gt a b (tM X.K (mBin fGt ma mb)) := cm_op op_gt fGt_M ha hb
theorem cm_ge (ha : PE X a (tM X.K ma)) (hb : PE X b (tM X.K mb)) : PC X .GtE a b (tM X.K (mBin fGe ma mb)) := cm_op op_ge fGe_M ha hb
theorem em_chLe (ha : PE X a (tM X.K ma)) (hb : PE X b (tM X.K mb)) (hc : PE X c (tM X.K mc)) (hm : lastMarks [.LtE, .LtE] [b, c] = false := by with_unfolding_all rfl) : PE X (.Compare a [.LtE, .LtE] [b, c] pos) (tM X.K (mChain fLe fLe ma mb mc)) := em_chain op_le op_le fLe_M fLe_M ha hb hc hm
end
theorem bt_len : bootBuiltins "len" = some (.builtin "len") := by kernel_rfl
theorem bt_all : bootBuiltins "all" = some (.builtin "all") := by kernel_rfl
theorem bt_any : bootBuiltins "any" = some (.builtin "any") := by kernel_rfl
theorem bt_sum : bootBuiltins "sum" = some (.builtin "sum") := by kernel_rfl
theorem bt_max : bootBuiltins "max" = some (.builtin "max") := by kernel_rfl
theorem bt_min : bootBuiltins "min" = some (.builtin "min") := by kernel_rfl
theorem bt_abs : bootBuiltins "abs" = some (.builtin "abs") := by kernel_rfl
theorem bt_isinstance : bootBuiltins "isinstance" = some (.builtin "isinstance") := by kernel_rfl
theorem bt_sorted : bootBuiltins "sorted" = some (.builtin "sorted") := by kernel_rfl
theorem bt_int : bootBuiltins "int" = some (.type "int") := by kernel_rfl
theorem bt_tuple : bootBuiltins "tuple" = some (.type "tuple") := by kernel_rfl
theorem bt_list : bootBuiltins "list" = some (.type "list") := by kernel_rfl
theorem bt_dict : bootBuiltins "dict" = some (.type "dict") := by kernel_rfl
theorem bt_set : bootBuiltins "set" = some (.type "set") := by kernel_rfl
theorem bt_str : bootBuiltins "str" = some (.type "str") := by kernel_rfl
theorem bt_bool : bootBuiltins "bool" = some (.type "bool") := by kernel_rfl
theorem mtM_R {X : Cx} {id : String} {r : V → List V → Hp → VK → Prop} (h : MtM X id r) : MtR X id r := h
section
variable {X : Cx} {a b o e : Expr} {es : List Expr} {ma mb mo : M} {mr : MG (List Val)} {pos p apos cpos : Pos}
theorem em_len (hm : X.mg "len" = none) (ha : PA X [a] (tA X.K mr)) (hg : Gl X "len" := by rfl) (he : starEach [a] X.env = (false, eval a X.env) :: starEach [] X.env := by rfl) (hpl : (backTo pos (starEach [] X.env)).any (·.1) = false := by rfl) : PE X (.Call (.Name "len" p) [a] [] pos) (tM X.K (mCall fLen mr)) := em_callB call_len fLen_M hg hm bt_len ha (by decide) (by decide) he hpl
theorem em_lenD (hm : X.mg "len" = none) (ha : PA X [a] (tA X.K mr)) (hg : Gl X "len" := by rfl) (he : starEach [a] X.env = (false, eval a X.env) :: starEach [] X.env := by rfl) (hpl : (backTo pos (starEach [] X.env)).any (·.1) = false := by rfl) : PE X (.Call (.Name "len" p) [a] [] pos) (tM X.K (mCall fLenD mr)) := em_callB cr_lenD fLenD_M hg hm bt_len ha (by decide) (by decide) he hpl
theorem em_all (hc : X.calm = true) (hm : X.mg "all" = none) (ha : PA X [a] (tA X.K mr)) (hg : Gl X "all" := by rfl) (he : starEach [a] X.env = (false, eval a X.env) :: starEach [] X.env := by rfl) (hpl : (backTo pos (starEach [] X.env)).any (·.1) = false := by rfl) : PE X (.Call (.Name "all" p) [a] [] pos) (tM X.K (mCall fAll mr)) := em_callB (cr_all hc) fAll_M hg hm bt_all ha (by decide) (by decide) he hpl
theorem em_any (hc : X.calm = true) (hm : X.mg "any" = none) (ha : PA X [a] (tA X.K mr)) (hg : Gl X "any" := by rfl) (he : starEach [a] X.env = (false, eval a X.env) :: starEach [] X.env := by rfl) (hpl : (backTo pos (starEach [] X.env)).any (·.1) = false := by rfl) : PE X (.Call (.Name "any" p) [a] [] pos) (tM X.K (mCall fAny mr)) := em_callB (cr_any hc) fAny_M hg hm bt_any ha (by decide) (by decide) he hpl
theorem em_sum (hc : X.calm = true) (hm : X.mg "sum" = none) (ha : PA X [a] (tA X.K mr)) (hg : Gl X "sum" := by rfl) (he : starEach [a] X.env = (false, eval a X.env) :: starEach [] X.env := by rfl) (hpl : (backTo pos (starEach [] X.env)).any (·.1) = false := by rfl) : PE X (.Call (.Name "sum" p) [a] [] pos) (tM X.K (mCall fSum mr)) := em_callB (cr_sum hc) fSum_M hg hm bt_sum ha (by decide) (by decide) he hpl
theorem em_maxL (hc : X.calm = true) (hm : X.mg "max" = none) (ha : PA X [a] (tA X.K mr)) (hg : Gl X "max" := by rfl) (he : starEach [a] X.env = (false, eval a X.env) :: starEach [] X.env := by rfl) (hpl : (backTo pos (starEach [] X.env)).any (·.1) = false := by rfl) : PE X (.Call (.Name "max" p) [a] [] pos) (tM X.K (mCall fMaxL mr)) := em_callB (cr_max hc) fMaxL_M hg hm bt_max ha (by decide) (by decide) he hpl
theorem em_abs (hm : X.mg "abs" = none) (ha : PA X [a] (tA X.K mr)) (hg : Gl X "abs" := by rfl) (he : starEach [a] X.env = (false, eval a X.env) :: starEach [] X.env := by rfl) (hpl : (backTo pos (starEach [] X.env)).any (·.1) = false := by rfl) : PE X (.Call (.Name "abs" p) [a] [] pos) (tM X.K (mCall fAbs mr)) := em_callB call_abs fAbs_M hg hm bt_abs ha (by decide) (by decide) he hpl
theorem em_max2 (hc : X.calm = true) (hm : X.mg "max" = none) (ha : PA X [a, b] (tA X.K mr)) (hg : Gl X "max" := by rfl) (he : starEach [a, b] X.env = (false, eval a X.env) :: starEach [b] X.env := by rfl) (hpl : (backTo pos (starEach [b] X.env)).any (·.1) = false := by rfl) : PE X (.Call (.Name "max" p) [a, b] [] pos) (tM X.K (mCall fMax2 mr)) := em_callB (call_max2 hc) fMax2_M hg hm bt_max ha (by decide) (by decide) he hpl
theorem em_min2 (hc : X.calm = true) (hm : X.mg "min" = none) (ha : PA X [a, b] (tA X.K mr)) (hg : Gl X "min" := by rfl) (he : starEach [a, b] X.env = (false, eval a X.env) :: starEach [b] X.env := by rfl) (hpl : (backTo pos (starEach [b] X.env)).any (·.1) = false := by rfl) : PE X (.Call (.Name "min" p) [a, b] [] pos) (tM X.K (mCall fMin2 mr)) := em_callB (call_min2 hc) fMin2_M hg hm bt_min ha (by decide) (by decide) he hpl
theorem em_int1 (hm : X.mg "int" = none) (ha : PA X [a] (tA X.K mr)) (hg : Gl X "int" := by rfl) (he : starEach [a] X.env = (false, eval a X.env) :: starEach [] X.env := by rfl) (hpl : (backTo pos (starEach [] X.env)).any (·.1) = false := by rfl) : PE X (.Call (.Name "int" p) [a] [] pos) (tM X.K (mCall fInt mr)) := em_callTy call_int1 fInt_M hg hm bt_int ha (by decide) (by decide) he hpl
theorem em_tuple (hm : X.mg "tuple" = none) (ha : PA X [a] (tA X.K mr)) (hg : Gl X "tuple" := by rfl) (he : starEach [a] X.env = (false, eval a X.env) :: starEach [] X.env := by rfl) (hpl : (backTo pos (starEach [] X.env)).any (·.1) = false := by rfl) : PE X (.Call (.Name "tuple" p) [a] [] pos) (tM X.K (mCall fTuple mr)) := em_callTy cr_tupleS fTuple_M hg hm bt_tuple ha (by decide) (by decide) he hpl
theorem em_list (hm : X.mg "list" = none) (ha : PA X [a] (tA X.K mr)) (hg : Gl X "list" := by rfl) (he : starEach [a] X.env = (false, eval a X.env) :: starEach [] X.env := by rfl) (hpl : (backTo pos (starEach [] X.env)).any (·.1) = false := by rfl) : PE X (.Call (.Name "list" p) [a] [] pos) (tM X.K (mCall fList mr)) := em_callTy call_list_of fList_M hg hm bt_list ha (by decide) (by decide) he hpl
theorem em_listN (hm : X.mg "list" = none) (ha : PA X [a] (tA X.K mr)) (hg : Gl X "list" := by rfl) (he : starEach [a] X.env = (false, eval a X.env) :: starEach [] X.env := by rfl) (hpl : (backTo pos (starEach [] X.env)).any (·.1) = false := by rfl) : PE X (.Call (.Name "list" p) [a] [] pos) (tM X.K (mCall fListN mr)) := em_callTy call_list_of fListN_M hg hm bt_list ha (by decide) (by decide) he hpl
theorem em_keys (hc : X.calm = true) (hm : X.mg "list" = none) (ha : PA X [a] (tA X.K mr)) (hg : Gl X "list" := by rfl) (he : starEach [a] X.env = (false, eval a X.env) :: starEach [] X.env := by rfl) (hpl : (backTo pos (starEach [] X.env)).any (·.1) = false := by rfl) : PE X (.Call (.Name "list" p) [a] [] pos) (tM X.K (mCall fKeys mr)) := em_callTy (call_list_dK hc) fKeys_M hg hm bt_list ha (by decide) (by decide) he hpl
theorem em_dict (hc : X.calm = true) (hm : X.mg "dict" = none) (ha : PA X [a] (tA X.K mr)) (hg : Gl X "dict" := by rfl) (he : starEach [a] X.env = (false, eval a X.env) :: starEach [] X.env := by rfl) (hpl : (backTo pos (starEach [] X.env)).any (·.1) = false := by rfl) : PE X (.Call (.Name "dict" p) [a] [] pos) (tM X.K (mCall fDict mr)) := em_callTy (cr_dictA hc) fDict_M hg hm bt_dict ha (by decide) (by decide) he hpl
theorem em_append (ho : PE X o (tM X.K mo)) (ha : PA X [e] (tA X.K mr)) (hbase : attributeBase o "append" X.env (eval o X.env) = eval o X.env := by rfl) (hfew : ((backTo cpos (starEach [e] X.env)).all (fun x => !x.1) && (backToKw cpos (keywordEach [] X.env)).all (fun x => x.1.isSome) && decide (([e] : List Expr).length + ([] : List Keyword).length + (if ([] : List Keyword).isEmpty then 0 else 1) < 30)) = true := by rfl) (hline : (apos.endLine == cpos.line) = true := by rfl) (hs : starEach [e] X.env = (false, eval e X.env) :: starEach [] X.env := by rfl) (hplain : (backTo cpos (starEach [] X.env)).any (·.1) = false := by rfl) : PE X (.Call (.Attribute o "append" apos) [e] [] cpos) (tM X.K (mMeth fAppend mo mr)) := em_meth PySem.F.slot_list_append PySem.F.type_list_append (mtM_R mt_append) fAppend_M ho ha hbase hfew hline hs hplain
theorem em_extend (ho : PE X o (tM X.K mo)) (ha : PA X [e] (tA X.K mr)) (hbase : attributeBase o "extend" X.env (eval o X.env) = eval o X.env := by rfl) (hfew : ((backTo cpos (starEach [e] X.env)).all (fun x => !x.1) && (backToKw cpos (keywordEach [] X.env)).all (fun x => x.1.isSome) && decide (([e] : List Expr).length + ([] : List Keyword).length + (if ([] : List Keyword).isEmpty then 0 else 1) < 30)) = true := by rfl) (hline : (apos.endLine == cpos.line) = true := by rfl) (hs : starEach [e] X.env = (false, eval e X.env) :: starEach [] X.env := by rfl) (hplain : (backTo cpos (starEach [] X.env)).any (·.1) = false := by rfl) : PE X (.Call (.Attribute o "extend" apos) [e] [] cpos) (tM X.K (mMeth fExtend mo mr)) := em_meth PySem.F.slot_list_extend PySem.F.type_list_extend (mtM_R mt_extend) fExtend_M ho ha hbase hfew hline hs hplain
theorem em_popAt (ho : PE X o (tM X.K mo)) (ha : PA X [e] (tA X.K mr)) (hbase : attributeBase o "pop" X.env (eval o X.env) = eval o X.env := by rfl) (hfew : ((backTo cpos (starEach [e] X.env)).all (fun x => !x.1) && (backToKw cpos (keywordEach [] X.env)).all (fun x => x.1.isSome) && decide (([e] : List Expr).length + ([] : List Keyword).length + (if ([] : List Keyword).isEmpty then 0 else 1) < 30)) = true := by rfl) (hline : (apos.endLine == cpos.line) = true := by rfl) (hs : starEach [e] X.env = (false, eval e X.env) :: starEach [] X.env := by rfl) (hplain : (backTo cpos (starEach [] X.env)).any (·.1) = false := by rfl) : PE X (.Call (.Attribute o "pop" apos) [e] [] cpos) (tM X.K (mMeth fPopAt mo mr)) := em_meth PySem.F.slot_list_pop PySem.F.type_list_pop (mtM_R mt_popAt) fPopAt_M ho ha hbase hfew hline hs hplain
theorem em_index (hu : X.A.units + 65 < cLine) (ho : PE X o (tM X.K mo)) (ha : PA X [e] (tA X.K mr)) (hbase : attributeBase o "index" X.env (eval o X.env) = eval o X.env := by rfl) (hfew : ((backTo cpos (starEach [e] X.env)).all (fun x => !x.1) && (backToKw cpos (keywordEach [] X.env)).all (fun x => x.1.isSome) && decide (([e] : List Expr).length + ([] : List Keyword).length + (if ([] : List Keyword).isEmpty then 0 else 1) < 30)) = true := by rfl) (hline : (apos.endLine == cpos.line) = true := by rfl) (hs : starEach [e] X.env = (false, eval e X.env) :: starEach [] X.env := by rfl) (hplain : (backTo cpos (starEach [] X.env)).any (·.1) = false := by rfl) : PE X (.Call (.Attribute o "index" apos) [e] [] cpos) (tM X.K (mMeth fIndex mo mr)) := em_meth PySem.F.slot_list_index PySem.F.type_list_index (mt_indexD hu) fIndex_M ho ha hbase hfew hline hs hplain
end
end Cw
end
section
/-! CwM9: sorted(l), sorted(set(t)) of (text, int) pairs: the programs. -/
namespace Cw
open PySem PySem.Spec PyProof.Rows L2
abbrev Pr := Str × Int
def prV (p : Pr) : Val := .tup [.str p.1, .int p.2]
def prOf : Val → Option Pr
  | .tup [.str k, .int i] => some (k, i)
  | _ => none
def prsOf : List Val → Option (List Pr)
  | [] => some []
  | v :: r => (prOf v).bind fun p => (prsOf r).map fun q => p :: q
def ltP (a b : Pr) : Bool := if a.1 = b.1 then decide (a.2 < b.2) else decide (a.1.cps.toList < b.1.cps.toList)
def sortP (l : List Pr) : List Pr := l.mergeSort fun a b => !ltP b a
def fSortL : FL := fun S vs => match vs with
  | [v] => (lstOf S v).bind fun xs => (prsOf xs).bind fun ps => if ps.length < 64 then some (.lst ((sortP ps).map prV), S) else none
  | _ => none
def fSortSet : F1 := fun S v => match v with
  | .tup xs => (prsOf xs).bind fun ps => if ps.length < 64 then some (.lst ((sortP ps.eraseDups).map prV), S) else none
  | _ => none
end Cw
end
section
/-! CwO: the order of pairs. -/
namespace Cw
open PySem PySem.Spec PyProof.Rows L2
theorem sortP_perm (l : List Pr) : (sortP l).Perm l := List.mergeSort_perm l _
theorem lt_irr (a : List Nat) : ¬ a < a := List.lt_irrefl a
theorem le_total' (a b : Pr) : (!ltP b a || !ltP a b) = true := by
  unfold ltP
  by_cases h : a.1 = b.1
  · rw [if_pos h, if_pos h.symm]
    simp
    omega
  · rw [if_neg h, if_neg (fun z => h z.symm)]
    simp only [Bool.or_eq_true, Bool.not_eq_true', decide_eq_false_iff_not]
    rcases Classical.em (b.1.cps.toList < a.1.cps.toList) with h1 | h1
    · exact .inr fun h2 => List.lt_asymm h1 h2
    · exact .inl h1
def txt (p : Pr) : List Nat := p.1.cps.toList
theorem txt_inj {a b : Pr} (h : txt a = txt b) : a.1 = b.1 := by
  obtain ⟨⟨⟨x⟩⟩, i⟩ := a
  obtain ⟨⟨⟨y⟩⟩, j⟩ := b
  simp only [txt] at h
  simp [h]
theorem le_iff (a b : Pr) : (!ltP b a) = true ↔ txt a < txt b ∨ (a.1 = b.1 ∧ a.2 ≤ b.2) := by
  unfold ltP
  by_cases h : b.1 = a.1
  · rw [if_pos h]
    have : ¬ txt a < txt b := by
      unfold txt
      rw [h]
      exact List.lt_irrefl _
    simp [this, h]
  · rw [if_neg h]
    have h' : ¬ a.1 = b.1 := fun z => h z.symm
    simp only [Bool.not_eq_true', decide_eq_false_iff_not, h', false_and, or_false]
    refine ⟨fun h1 => ?_, fun h1 h2 => List.lt_asymm h1 h2⟩
    rcases Classical.em (txt a < txt b) with h2 | h2
    · exact h2
    · exact absurd (txt_inj (List.le_antisymm h1 h2)).symm h
theorem le_trans' (a b c : Pr) (h1 : (!ltP b a) = true) (h2 : (!ltP c b) = true) : (!ltP c a) = true := by
  rw [le_iff] at h1 h2 ⊢
  rcases h1 with h1 | ⟨h1, g1⟩ <;> rcases h2 with h2 | ⟨h2, g2⟩
  · exact .inl (List.lt_trans h1 h2)
  · exact .inl (by unfold txt at h1 ⊢; rw [← h2]; exact h1)
  · exact .inl (by unfold txt at h2 ⊢; rw [h1]; exact h2)
  · exact .inr ⟨h1.trans h2, Int.le_trans g1 g2⟩
theorem sortP_again (l : List Pr) : sortP (sortP l) = sortP l := List.mergeSort_of_pairwise (List.pairwise_mergeSort le_trans' le_total' l)
theorem nodup_dups : ∀ (n : Nat) (l : List Pr), l.length ≤ n → l.eraseDups.Nodup
  | _, [], _ => by simp
  | 0, a :: l, h => by simp at h
  | n + 1, a :: l, h => by
    rw [List.eraseDups_cons, List.nodup_cons]
    refine ⟨fun h2 => ?_, nodup_dups n _ (Nat.le_trans (List.length_filter_le _ _) (by simpa using h))⟩
    rw [List.mem_eraseDups] at h2
    simp at h2
theorem dups_nodup : ∀ (l : List Pr), l.Nodup → l.eraseDups = l
  | [], _ => by simp
  | a :: l, h => by
    rw [List.nodup_cons] at h
    have e : l.filter (fun b => !b == a) = l := List.filter_eq_self.mpr fun b hb => by
      simp
      exact fun z => h.1 (z ▸ hb)
    rw [List.eraseDups_cons, e, dups_nodup l h.2]
end Cw
end
section
/-! CwK1: a set's table asked for pairs of a text and an int. -/
namespace Cw
open PySem PySem.Spec PyProof.Rows L2
abbrev pk (p : Pr) : List Key := [.inr p.1, .inl p.2]
theorem pk_inj {p q : Pr} : pk p = pk q ↔ p = q := by
  obtain ⟨a, b⟩ := p
  obtain ⟨c, d⟩ := q
  simp [pk]
@[irreducible] def hsP (P : Program) (w : World) (p : Pr) : Int := tupleKeyHash (mixKind P w) (pk p)
theorem hsP_eq (P : Program) (w : World) (p : Pr) : tupleKeyHash (mixKind P w) (pk p) = hsP P w p := by unfold hsP; rfl
abbrev IsP (P : Program) (w : World) (h : Heap) (p : Pr) (a : Addr) : Prop := IsTupleKey (mixKind P w) h (pk p) a
section
variable {P : Program} {w : World} {A : Around} {E : Value → Shared → Prop} {s : Shared}
theorem mix_str {x : Str} {v : Value} (h : (mixKind P w).is (.inr x) v = true) : ∃ t, v = .str x t := by
  rcases keyIs_shape (show keyIs (.inr x) v = true from h) with ⟨i, t, e, _⟩ | ⟨y, t, e, e2⟩
  · cases e
  · injection e with e
    exact ⟨t, by rw [e2, e]⟩
theorem mix_int {i : Int} {v : Value} (h : (mixKind P w).is (.inl i) v = true) : ∃ t, v = .int i t := by
  rcases keyIs_shape (show keyIs (.inl i) v = true from h) with ⟨j, t, e, e2⟩ | ⟨y, t, e, _⟩
  · injection e with e
    exact ⟨t, by rw [e2, e]⟩
  · cases e
theorem isp_items {h : Heap} {p : Pr} {b : Addr} (x : IsP P w h p b) : ∃ o n t u, h.get? b = some o ∧ o.cls = .type "tuple" ∧ o.data = .seq #[.str p.1 t, .int p.2 u] n := by
  obtain ⟨o, items, n, ho, hc, hd, hi⟩ := x
  cases hq : items.toList with
  | nil => rw [hq] at hi; cases hi
  | cons v r =>
    rw [hq] at hi
    cases hi with
    | cons h1 hr =>
      cases hr with
      | cons h2 h3 =>
        cases h3
        obtain ⟨t, rfl⟩ := mix_str h1
        obtain ⟨u, rfl⟩ := mix_int h2
        exact ⟨o, n, t, u, ho, hc, by rw [hd]; congr 1; exact Array.toList_inj.mp hq⟩
theorem cls_items {x : Str} {i : Int} {t u : Tok} : ∀ v, v ∈ [Value.str x t, .int i u] → ∀ n, ofAClassStatement n v = pure false := fun v hv n => by
  rcases List.mem_cons.mp hv with rfl | hv
  · cases n <;> rfl
  · rw [List.mem_singleton.mp hv]
    cases n <;> rfl
theorem cls_pair {p : Pr} {b : Addr} {Q : Bool → Shared → Prop} (x : IsP P w s.heap p b) (q : Q false s) : wpAny (model P w) A (ofAClassStatement 8 (.ref b)) Q E s := by
  have ty := IsTupleKey.typeIs x
  obtain ⟨o, n, t, u, ho, -, hd⟩ := isp_items x
  unfold ofAClassStatement
  refine wpAny_bind (wpAny_typeOf ty ?_)
  dsimp only
  have tt : (("tuple" : String) == "tuple") = true := by decide
  simp only [tt, if_true, Bool.not_true, Bool.false_eq_true, if_false]
  try refine wpAny_bind (wpAny_pure ?_)
  try simp only [Bool.not_true, Bool.false_eq_true, if_false]
  show wpAny _ _ (seqItems? (.ref b) >>= _) _ _ s
  refine wpAny_bind (wpAny_seqItems ho hd ?_)
  dsimp only
  refine wpAny_bind ?_
  show wpAny _ _ (forIn (#[Value.str p.1 t, .int p.2 u]) _ _) _ _ s
  rw [← Array.forIn_toList]
  refine wpAny_forIn_list _ (fun rest acc s1 => acc.1 = none ∧ s1 = s ∧ ∀ v, v ∈ rest → ∀ n, ofAClassStatement n v = pure false) _ ?_ ?_ _ _ ⟨rfl, rfl, cls_items⟩
  · rintro v rest acc s1 ⟨h1, rfl, h2⟩
    rw [h2 v List.mem_cons_self _]
    refine wpAny_bind (wpAny_pure ?_)
    simp only [Bool.false_eq_true, if_false]
    exact wpAny_pure ⟨rfl, rfl, fun z hz => h2 z (List.mem_cons_of_mem _ hz)⟩
  · rintro ⟨a1, a2⟩ s1 ⟨h1, rfl, -⟩
    simp only at h1
    subst h1
    exact wpAny_pure q
theorem byv_pair {p : Pr} {b : Addr} {Q : Bool → Shared → Prop} (x : IsP P w s.heap p b) (q : Q false s) : wpAny (model P w) A (hashByValue 8 (.ref b)) Q E s := by
  have ty := IsTupleKey.typeIs x
  obtain ⟨o, n, t, u, ho, -, hd⟩ := isp_items x
  unfold hashByValue
  refine wpAny_bind (wpAny_specialOf ty F.slot_tuple_hash.lookup ?_)
  show wpAny _ _ (seqItems? (.ref b) >>= _) _ _ s
  refine wpAny_bind (wpAny_seqItems ho hd ?_)
  refine wpAny_bind ?_
  show wpAny _ _ (forIn (#[Value.str p.1 t, .int p.2 u]) _ _) _ _ s
  rw [← Array.forIn_toList]
  show wpAny _ _ (forIn [Value.str p.1 t, .int p.2 u] _ _) _ _ s
  rw [List.forIn_cons]
  have hf : hashByValue 7 (.str p.1 t) = pure false := rfl
  rw [hf]
  refine wpAny_bind (wpAny_bind (wpAny_pure ?_))
  simp only [Bool.not_false, if_true]
  exact wpAny_pure (wpAny_pure (wpAny_pure q))
/-- a search among pairs is quiet -/
theorem hush {p : Pr} {b : Addr} {Q : Bool → Shared → Prop} (x : IsP P w s.heap p b) {ys : List Value} (hy : ∀ y, y ∈ ys → ∃ r c, y = .ref c ∧ IsP P w s.heap r c) (q : Q false s) : wpAny (model P w) A (searchCouldBeSeen (.ref b) ys) Q E s := by
  unfold searchCouldBeSeen
  refine wpAny_bind (wpAny_forIn_list _ (fun rest acc s1 => acc.1 = none ∧ s1 = s ∧ ∀ y, y ∈ rest → ∃ r c, y = Value.ref c ∧ IsP P w s.heap r c) _ ?_ ?_ _ _ ⟨rfl, rfl, hy⟩)
  · rintro v rest acc s1 ⟨h1, rfl, h2⟩
    obtain ⟨r, c, rfl, hc⟩ := h2 v List.mem_cons_self
    have h3 : ∀ y, y ∈ rest → ∃ r c, y = Value.ref c ∧ IsP P w s1.heap r c := fun z hz => h2 z (List.mem_cons_of_mem _ hz)
    dsimp only
    by_cases same : (b == c || (carriedByValue (.ref b) && carriedByValue (.ref c))) = true
    · exact wp_if_pos same (wpAny_pure ⟨rfl, rfl, h3⟩)
    · refine wp_if_neg same (wpAny_bind (wpAny_eqIsQuiet_tuple x ?_))
      simp only [Bool.not_true, Bool.false_eq_true, if_false]
      refine wpAny_bind (wpAny_eqIsQuiet_tuple hc ?_)
      simp only [Bool.not_true, Bool.false_eq_true, if_false]
      refine wpAny_bind (cls_pair x ?_)
      simp only [Bool.false_eq_true, if_false]
      refine wpAny_bind (cls_pair hc ?_)
      simp only [Bool.false_eq_true, if_false]
      exact wpAny_pure ⟨rfl, rfl, h3⟩
  · rintro ⟨a1, a2⟩ s1 ⟨h1, rfl, -⟩
    simp only at h1
    subst h1
    exact wpAny_pure q
theorem eq_pair {p r : Pr} {b c : Addr} {Q : Bool → Shared → Prop} (hu : A.units < cLine) (x : IsP P w s.heap p b) (y : IsP P w s.heap r c) (q : Q (decide (p = r)) s) : wpAny (model P w) A (eqBool (.ref b) (.ref c)) Q E s := by
  refine wpAny_eqBool_tuple hu x y ?_
  rw [show decide (pk p = pk r) = decide (p = r) from decide_eq_decide.mpr pk_inj]
  exact q
end
/-! ### the way of a hash through a table -/
abbrev startP (t : SetTable) (h : Int) : SetTable.Probe := runAt t.mask (SetTable.bits h % (t.mask + 1)) (SetTable.bits h)
theorem no_dummy (m : Nat) : ∀ (n : Nat) (p : SetTable.Probe), p.dummy = none → (nth m p n).dummy = none
  | 0, p, h => h
  | n + 1, p, h => no_dummy m n (adv m p) (by unfold adv; split <;> exact h)
theorem probe_spec {t : SetTable} {hs : List Int} (T : TabOk t hs) (at' : Nat → Int) (h : Int) {K : Nat} (k0 : K < 10 * SetTable.turns t.mask) (k1 : way t.mask h K ∉ t.place.toList) (k2 : ∀ d, d < K → way t.mask h d ∈ t.place.toList) {c : Nat} (hc : c ≤ K) :
    (∃ d i, c ≤ d ∧ d < K ∧ t.place.toList[i]? = some (way t.mask h d) ∧ t.probe at' h (nth t.mask (startP t h) c) = some (.candidate (way t.mask h d) i (nth t.mask (startP t h) (d + 1))) ∧
      ∀ d' i', c ≤ d' → d' < d → t.place.toList[i']? = some (way t.mask h d') → at' i' ≠ h) ∨
    (t.probe at' h (nth t.mask (startP t h) c) = some (.empty (way t.mask h K) none) ∧ ∀ d' i', c ≤ d' → d' < K → t.place.toList[i']? = some (way t.mask h d') → at' i' ≠ h) := by
  have shift : ∀ q, nth t.mask (nth t.mask (startP t h) c) q = nth t.mask (startP t h) (c + q) := fun q => (nth_add t.mask c _ q).symm
  have slotAt : ∀ q, (nth t.mask (nth t.mask (startP t h) c) q).j = way t.mask h (c + q) := fun q => congrArg (·.j) (shift q)
  have back : ∀ d, c ≤ d → way t.mask h d = (nth t.mask (nth t.mask (startP t h) c) (d - c)).j := fun d hd => by rw [slotAt, Nat.add_sub_cancel' hd]
  rcases go_spec t T.ris T.dm at' h (10 * SetTable.turns t.mask) (K - c) _ (no_dummy t.mask c (startP t h) rfl) (by omega) (fun q hq => by rw [slotAt]; exact k2 _ (by omega)) (by rw [← back K hc]; exact k1) with ⟨q, i, q1, q2, -, q4, q5⟩ | ⟨q4, q5⟩
  · refine .inl ⟨c + q, i, by omega, by omega, by rw [← slotAt]; exact q2, ?_, fun d' i' z1 z2 z3 => q4 (d' - c) i' (by omega) (by rw [← back d' z1]; exact z3)⟩
    rw [← slotAt, show c + q + 1 = c + (q + 1) by omega, ← shift]
    exact q5
  · refine .inr ⟨?_, fun d' i' z1 z2 z3 => q4 (d' - c) i' (by omega) (by rw [← back d' z1]; exact z3)⟩
    rw [back K hc]
    exact q5
/-! ### the set at a holds the pairs L -/
def rowP (P : Program) (w : World) (x : Addr × Pr) : Int × Value := (hsP P w x.2, .ref x.1)
theorem rowP_1 (P : Program) (w : World) (x : Addr × Pr) : (rowP P w x).1 = hsP P w x.2 := by unfold rowP; dsimp only
theorem rowP_2 (P : Program) (w : World) (x : Addr × Pr) : (rowP P w x).2 = .ref x.1 := by unfold rowP; dsimp only
theorem rowP_eq (P : Program) (w : World) (x : Addr × Pr) : rowP P w x = (hsP P w x.2, .ref x.1) := by unfold rowP; rfl
structure PSet (P : Program) (w : World) (h : Heap) (a : Addr) (L : List (Addr × Pr)) (es : Array (Int × Value)) (ep : Nat) (t : SetTable) : Prop where
  obj : ∃ o, h.get? a = some o ∧ o.ExactSet ∧ o.data = .set es ep t
  rows : es.toList = L.map (rowP P w)
  tab : TabOk t (L.map fun x => hsP P w x.2)
  nd : (L.map (·.2)).Nodup
  isp : ∀ x, x ∈ L → IsP P w h x.2 x.1
  led : w.params.followText "set-order" = true ∨ t.led = true
  room : L.length * 5 < t.mask * 3
  few : L.length < 64
section
variable {P : Program} {w : World} {A : Around} {E : Value → Shared → Prop} {s : Shared} {a : Addr} {L : List (Addr × Pr)} {es : Array (Int × Value)} {ep : Nat} {t : SetTable}
theorem rows_size (h : es.toList = L.map (rowP P w)) : es.size = L.length := by
  have := congrArg List.length h
  simpa using this
theorem rows_at (h : es.toList = L.map (rowP P w)) {i : Nat} {x : Addr × Pr} (hx : L[i]? = some x) : es[i]? = some (rowP P w x) := by
  rw [← Array.getElem?_toList, h, List.getElem?_map, hx]
  rfl
theorem PSet.len (R : PSet P w s.heap a L es ep t) : t.place.size = L.length := by
  have := R.tab.sz
  simpa using this
theorem PSet.fits (R : PSet P w s.heap a L es ep t) : t.fits es.size = true := by
  have h1 := R.len
  have h2 := rows_size R.rows
  have h3 := R.room
  simp only [SetTable.fits, SetTable.fill, R.tab.dm, Bool.and_eq_true, beq_iff_eq, decide_eq_true_eq]
  exact ⟨by omega, by show t.place.size + 0 ≤ t.mask; omega⟩
theorem PSet.stays (R : PSet P w s.heap a L es ep t) : ¬ t.gaveWay = true := by
  simp only [SetTable.gaveWay, mask_odd R.tab.mok]
  decide
theorem seek (R : PSet P w s.heap a L es ep t) {x : Addr} {k : Pr} (hx : IsP P w s.heap k x) (hu : A.units < cLine) {K : Nat} (k0 : K < 10 * SetTable.turns t.mask) (k1 : way t.mask (hsP P w k) K ∉ t.place.toList) (k2 : ∀ d, d < K → way t.mask (hsP P w k) d ∈ t.place.toList)
    {Q : SetFound → Shared → Prop} (yes : k ∈ L.map (·.2) → Q (.there none) s) (no : k ∉ L.map (·.2) → Q (.free (way t.mask (hsP P w k) K) false) s) :
    ∀ (f c : Nat) (st : Option SetTable.Probe), st.getD (t.probeStart (hsP P w k)) = nth t.mask (startP t (hsP P w k)) c → c ≤ K → K - c < f →
      (∀ (d i : Nat) (z : Addr × Pr), d < c → L[i]? = some z → t.place.toList[i]? = some (way t.mask (hsP P w k) d) → z.2 ≠ k) → wpAny (model P w) A (setSearchFrom a (.ref x) (hsP P w k) true f st) Q E s := by
  intro f
  induction f with
  | zero => exact fun _ _ _ _ hf _ => absurd hf (Nat.not_lt_zero _)
  | succ f again =>
    intro c st hst hc hf past
    obtain ⟨o, ho, -, hd⟩ := R.obj
    have ats : ∀ {i : Nat} {z : Addr × Pr}, L[i]? = some z → (es[i]?.map (·.1)).getD 0 = hsP P w z.2 := fun {i z} hz => by
      have e1 := rows_at R.rows hz
      have e2 : es[i]?.map (·.1) = some (hsP P w z.2) := by rw [e1, Option.map_some, rowP_1]
      rw [e2, Option.getD_some]
    rw [setSearchFrom_succ]
    refine wpAny_bind (wpAny_setState_of ho hd R.fits ?_)
    dsimp only
    refine wp_if_neg R.stays ?_
    try refine wpAny_bind (wpAny_pure ?_)
    rw [hst]
    rcases probe_spec R.tab (fun i => (es[i]?.map (·.1)).getD 0) (hsP P w k) k0 k1 k2 hc with ⟨d, i, d1, d2, d3, d4, d5⟩ | ⟨d4, d5⟩
    · rw [d4]
      dsimp only
      have il : i < L.length := by
        have := (List.getElem?_eq_some_iff.mp d3).1
        rw [Array.length_toList, R.len] at this
        exact this
      obtain ⟨z, hz⟩ : ∃ z, L[i]? = some z := ⟨_, List.getElem?_eq_getElem il⟩
      have hzm : z ∈ L := List.mem_of_getElem? hz
      have tail : wpAny (model P w) A (searchRest a (.ref x) (hsP P w k) true f es t (way t.mask (hsP P w k) d) i (nth t.mask (startP t (hsP P w k)) (d + 1))) Q E s := by
        unfold searchRest
        rw [rows_at R.rows hz, rowP_eq]
        dsimp only
        refine wpAny_bind (wpAny_holding (eq_pair hu (R.isp z hzm) hx (wpAny_bind ?_)))
        refine wpAny_setState_of ho hd R.fits ?_
        dsimp only
        by_cases e : z.2 = k
        · exact wp_if_pos (by simp [e]) (wpAny_pure (yes (List.mem_map.mpr ⟨z, hzm, e⟩)))
        · refine wp_if_neg (by simp [e]) ?_
          try refine wpAny_bind (wpAny_pure ?_)
          rw [sameMem]
          dsimp only
          have live : t.slot (way t.mask (hsP P w k) d) = .live i := slot_live R.tab.ris d3
          simp only [if_true, live, rows_at R.rows hz, rowP_eq]
          refine wpAny_bind (wpAny_isSame_ref_self (wpAny_bind (wpAny_pure ?_)))
          simp only [if_true]
          refine wp_if_neg (by simp [e]) (again (d + 1) _ rfl (by omega) (by omega) fun d' i' z' y1 y2 y3 y4 => ?_)
          rcases Nat.lt_or_ge d' c with g | g
          · exact past d' i' z' g y2 y3 y4
          · rcases Nat.lt_or_ge d' d with g2 | g2
            · exact d5 d' i' g g2 y3 ((ats y2).trans (by rw [y4]))
            · have ed : d' = d := by omega
              subst ed
              have l2 := slot_live R.tab.ris y3
              rw [live] at l2
              injection l2 with l2
              subst l2
              rw [hz] at y2
              exact e ((congrArg (·.2) (Option.some.inj y2)).trans y4)
      cases hl : t.led with
      | true =>
        refine wp_if_neg (by simp) ?_
        try refine wpAny_bind (wpAny_pure ?_)
        exact tail
      | false =>
        refine wp_if_pos (by simp) (wpAny_bind (hush hx (fun y hy => ?_) (wp_if_neg (by decide) ?_)))
        · obtain ⟨u, hu1, rfl⟩ := List.mem_map.mp hy
          have hu2 : u ∈ es.toList := by
            have : u ∈ es ∧ u.1 = hsP P w k := by simpa using hu1
            simpa using this.1
          rw [R.rows] at hu2
          obtain ⟨y, hy1, rfl⟩ := List.mem_map.mp hu2
          exact ⟨y.2, y.1, rowP_2 P w y, R.isp y hy1⟩
        · try refine wpAny_bind (wpAny_pure ?_)
          exact tail
    · rw [d4]
      dsimp only
      refine wpAny_pure (no fun hm => ?_)
      obtain ⟨z, hzm, hzk⟩ := List.mem_map.mp hm
      obtain ⟨i, il, ei⟩ := List.getElem_of_mem hzm
      have hz : L[i]? = some z := by rw [List.getElem?_eq_getElem il, ei]
      have ip : i < t.place.toList.length := by rw [Array.length_toList, R.len]; exact il
      have hj := List.getElem?_eq_getElem ip
      obtain ⟨d, g1, g2⟩ := R.tab.before k1 (h := hsP P w k) (i := i) (by rw [List.getElem?_map, hz, ← hzk]; rfl) hj
      rw [← g2] at hj
      rcases Nat.lt_or_ge d c with g | g
      · exact past d i z g hz hj hzk
      · exact d5 d i g g1 hj ((ats hz).trans (by rw [hzk]))
theorem seek_all (R : PSet P w s.heap a L es ep t) {x : Addr} {k : Pr} (hx : IsP P w s.heap k x) (hu : A.units < cLine) {Q : SetFound → Shared → Prop} (yes : k ∈ L.map (·.2) → Q (.there none) s)
    (no : ∀ K, k ∉ L.map (·.2) → way t.mask (hsP P w k) K ∉ t.place.toList → (∀ d, d < K → way t.mask (hsP P w k) d ∈ t.place.toList) → Q (.free (way t.mask (hsP P w k) K) false) s) : wpAny (model P w) A (setSearch a (.ref x) (hsP P w k) true) Q E s := by
  have hr := R.room
  obtain ⟨K, k0, k1, k2⟩ := R.tab.first (by rw [List.length_map]; omega) (hsP P w k)
  have big : K < 100000 := by
    have : 10 * SetTable.turns t.mask ≤ 1420 := by
      simp only [SetTable.turns]
      rcases R.tab.mok with e | e | e <;> omega
    omega
  unfold setSearch
  exact seek R hx hu k0 k1 k2 yes (fun n => no K n k1 k2) 100000 0 none rfl (Nat.zero_le _) (by omega) fun d i z h => absurd h (Nat.not_lt_zero _)
end
end Cw
end
section
/-! CwK2: a pair added to a set. -/
namespace Cw
open PySem PySem.Spec PyProof.Rows L2
theorem fm_congr {α β : Type} {f g : α → Option β} : ∀ {l : List α}, (∀ x, x ∈ l → f x = g x) → l.filterMap f = l.filterMap g
  | [], _ => rfl
  | x :: l, h => by rw [List.filterMap_cons, List.filterMap_cons, h x List.mem_cons_self, fm_congr fun y hy => h y (List.mem_cons_of_mem _ hy)]
theorem range_get {α : Type} : ∀ (L : List α) (n : Nat), (List.range' n L.length).filterMap (fun i => L[i - n]?) = L
  | [], _ => rfl
  | x :: L, n => by
    rw [List.length_cons, List.range'_succ, List.filterMap_cons]
    simp only [Nat.sub_self, List.getElem?_cons_zero]
    refine congrArg (x :: ·) ((fm_congr fun i hi => ?_).trans (range_get L (n + 1)))
    have h1 := (List.mem_range'_1.mp hi).1
    rw [show i - n = (i - (n + 1)) + 1 by omega, List.getElem?_cons_succ]
section
variable {P : Program} {w : World} {A : Around} {E : Value → Shared → Prop} {s : Shared} {a : Addr} {L : List (Addr × Pr)} {es : Array (Int × Value)} {ep : Nat} {t : SetTable}
theorem rows_get (h : es.toList = L.map (rowP P w)) (i : Nat) : es[i]? = L[i]?.map (rowP P w) := by rw [← Array.getElem?_toList, h, List.getElem?_map]
/-- rows in another order -/
theorem reorder (h : es.toList = L.map (rowP P w)) {order : Array Nat} (hp : order.toList.Perm (List.range L.length)) :
    ∃ L2 : List (Addr × Pr), (order.filterMap (es[·]?)).toList = L2.map (rowP P w) ∧ L2.Perm L ∧ (L2.map fun x => hsP P w x.2) = order.toList.map fun i => (es.map (·.1)).getD i 0 := by
  refine ⟨order.toList.filterMap (L[·]?), ?_, ?_, ?_⟩
  · rw [Array.toList_filterMap, List.map_filterMap]
    exact fm_congr fun i _ => rows_get h i
  · have := range_get L 0
    rw [← List.range_eq_range'] at this
    have h2 := hp.filterMap (L[·]?)
    rw [show (List.range L.length).filterMap (L[·]?) = L from this] at h2
    exact h2
  · rw [List.map_filterMap, ← List.filterMap_eq_map']
    refine fm_congr fun i hi => ?_
    have il : i < L.length := List.mem_range.mp (hp.mem_iff.mp hi)
    have e1 : L[i]? = some L[i] := List.getElem?_eq_getElem il
    have e2 : (es.map (·.1))[i]? = some (hsP P w (L[i]).2) := by rw [Array.getElem?_map, rows_get h i, e1, Option.map_some, Option.map_some, rowP_1]
    rw [e1, Option.map_some, Array.getD_eq_getD_getElem?, e2, Option.getD_some]
theorem isp_but {h h' : Heap} {p : Pr} {b : Addr} {o : Obj} (x : IsP P w h p b) (ho : h.get? a = some o) (hd : o.data = .set es ep t) (k : Heap.SameBut a h h') : IsP P w h' p b := by
  obtain ⟨u, items, n, hu, r⟩ := x
  refine ⟨u, items, n, (k.2 b fun e => ?_).trans hu, r⟩
  rw [e, ho] at hu
  have e2 := Option.some.inj hu
  rw [← e2, hd] at r
  exact nomatch r.2.1
theorem isp_keep {h h' : Heap} {p : Pr} {b : Addr} (x : IsP P w h p b) (k : ∀ c o, h.get? c = some o → h'.get? c = some o) : IsP P w h' p b := by
  obtain ⟨u, items, n, hu, r⟩ := x
  exact ⟨u, items, n, k _ _ hu, r⟩
theorem tab_plain {hs : List Int} (T : TabOk t hs) (b : Bool) : TabOk { t with plain := b } hs := ⟨T.ris, T.dm, T.sz, T.mok, T.bd, T.reach⟩
/-- the rows laid anew in a larger table -/
theorem widen {o : Obj} (ho : s.heap.get? a = some o) (hx : o.ExactSet) (hd : o.data = .set es ep t) (rows : es.toList = L.map (rowP P w)) (T : TabOk t (L.map fun x => hsP P w x.2)) (nd : (L.map (·.2)).Nodup) (isp : ∀ x, x ∈ L → IsP P w s.heap x.2 x.1)
    (led : w.params.followText "set-order" = true ∨ t.led = true) (few : L.length < 64) (fill : L.length ≤ t.mask) {want M : Nat} (m1 : SetTable.sizeAbove want - 1 = M) (m2 : MaskOk M) (m3 : SetTable.sizeAbove want ≤ 128) (m4 : L.length * 5 < M * 3) {Q : Unit → Shared → Prop}
    (q : ∀ h' L' es' ep' t', Heap.SameBut a s.heap h' → PSet P w h' a L' es' ep' t' → L'.Perm L → Q () { s with heap := h' }) : wpAny (model P w) A (setRelay a want) Q E s := by
  have n1 := rows_size rows
  have n2 : t.place.size = L.length := by simpa using T.sz
  have fits : t.fits es.size = true := by
    simp only [SetTable.fits, SetTable.fill, T.dm, Bool.and_eq_true, beq_iff_eq, decide_eq_true_eq]
    exact ⟨by omega, by show t.place.size + 0 ≤ t.mask; omega⟩
  obtain ⟨t', order, e, op, T', tm, tl, -, -⟩ := relaid_ok t (hs := es.map (·.1)) (wanted := want) m1 m2 (by rw [Array.size_map, n1]; omega)
  rw [Array.size_map, n1] at op
  obtain ⟨L2, r1, r2, r3⟩ := reorder rows op
  rw [← r3] at T'
  have n3 : (order.filterMap (es[·]?)).size = es.size := by rw [rows_size r1, r2.length_eq, n1]
  rw [setRelay_eq]
  refine wpAny_bind (wpAny_setState_of ho hd fits ?_)
  dsimp only
  refine wp_if_neg (by rw [sizeLine_eq]; omega) ?_
  try refine wpAny_bind (wpAny_pure ?_)
  rw [e]
  dsimp only
  refine wpAny_bind (wp_if_neg (by rw [n3]; simp) ?_)
  try refine wpAny_bind (wpAny_pure ?_)
  refine wpAny_pure ?_
  dsimp only
  refine wpAny_storeSet_of ho hd ?_ (by rw [n3, n1, sizeLine_eq]; omega)
  have sb : Heap.SameBut a s.heap (s.heap.update a (Obj.putSet (order.filterMap (es[·]?)) t')) := Heap.SameBut.update ..
  exact q _ L2 (order.filterMap (es[·]?)) (ep + 1) t' sb ⟨⟨_, store_at ho hd, ⟨hx.1, hx.2.1, hx.2.2⟩, rfl⟩, r1, T', (r2.map (·.2)).nodup_iff.mpr nd, fun x hxm => isp_but (isp x (r2.mem_iff.mp hxm)) ho hd sb, by rw [tl]; exact led, by rw [r2.length_eq, tm]; exact m4, by rw [r2.length_eq]; exact few⟩ r2
theorem insert_rows (h : es.toList = L.map (rowP P w)) (p : Nat) (x : Addr) (k : Pr) : (SetTable.insertAt es p (hsP P w k, Value.ref x)).toList = (L.take p ++ (x, k) :: L.drop p).map (rowP P w) := by
  rw [SetTable.toList_insertAt, h, List.map_append, List.map_cons, List.map_take, List.map_drop, rowP_eq]
theorem add_pair (R : PSet P w s.heap a L es ep t) {x : Addr} {k : Pr} (hx : IsP P w s.heap k x) (hu : A.units < cLine) (hf : L.length + 1 < 64) {Q : Bool → Shared → Prop}
    (q : ∀ b h' L' es' ep' t', Heap.SameBut a s.heap h' → PSet P w h' a L' es' ep' t' → ((k ∈ L.map (·.2) ∧ L' = L) ∨ (k ∉ L.map (·.2) ∧ L'.Perm ((x, k) :: L))) → Q b { s with heap := h' }) : wpAny (model P w) A (setAddHashed a (.ref x) (hsP P w k)) Q E s := by
  obtain ⟨o, ho, hex, hd⟩ := R.obj
  have n1 := rows_size R.rows
  have room := R.room
  unfold setAddHashed
  refine wpAny_holding ?_
  rw [show (100000 : Nat) = 99999 + 1 from rfl, setAddHashedIn_succ]
  refine wpAny_bind (wpAny_setState_of ho hd R.fits ?_)
  dsimp only
  refine wp_if_neg (by simp [byScan, Value.scannable]) ?_
  try refine wpAny_bind (wpAny_pure ?_)
  refine wpAny_bind (seek_all R hx hu (fun hm => ?_) fun K hm k1 k2 => ?_)
  · exact wpAny_pure (q false s.heap L es ep t (Heap.SameBut.refl a s.heap) R (.inl ⟨hm, rfl⟩))
  dsimp only
  refine wpAny_bind (wpAny_setState_of ho hd R.fits ?_)
  dsimp only
  obtain ⟨p1, p2, p3, p4, p5, -, -, -, p9⟩ := R.tab.put k1 k2
  generalize t.put (way t.mask (hsP P w k) K) = pt at p1 p3 p4 p5 p9 ⊢
  obtain ⟨t1, pl⟩ := pt
  dsimp only at p1 p3 p4 p5 p9 ⊢
  subst p1
  have ins := insert_rows R.rows (SetTable.below t.place (way t.mask (hsP P w k) K)) x k
  generalize SetTable.below t.place (way t.mask (hsP P w k) K) = pl at p2 p3 ins ⊢
  have pm : (L.take pl ++ (x, k) :: L.drop pl).Perm ((x, k) :: L) := put_perm L pl (x, k)
  have T1 : TabOk t1 ((L.take pl ++ (x, k) :: L.drop pl).map fun x => hsP P w x.2) := by
    rw [List.map_append, List.map_cons, List.map_take, List.map_drop]
    exact p3
  have n2 := rows_size ins
  rw [pm.length_eq, List.length_cons] at n2
  have nd1 : ((L.take pl ++ (x, k) :: L.drop pl).map (·.2)).Nodup := (pm.map (·.2)).nodup_iff.mpr (List.nodup_cons.mpr ⟨hm, R.nd⟩)
  generalize SetTable.insertAt es pl (hsP P w k, Value.ref x) = es1 at ins n2 ⊢
  generalize L.take pl ++ (x, k) :: L.drop pl = L1 at pm T1 nd1 ins
  have n3 : L1.length = L.length + 1 := pm.length_eq
  have fin : ∀ b : Bool, wpAny (model P w) A (do
      storeSet a es1 (if b then t1 else { t1 with plain := false })
      if !false && (if b then t1 else { t1 with plain := false }).tooFull then setRelay a (SetTable.grown (es.size + 1))
      return true) Q E s := fun b => by
    have hb : TabOk (if b then t1 else { t1 with plain := false }) (L1.map fun x => hsP P w x.2) ∧ (if b then t1 else { t1 with plain := false }).mask = t.mask ∧ (if b then t1 else { t1 with plain := false }).led = t.led ∧ (if b then t1 else { t1 with plain := false }).fill = L.length + 1 := by
      have p9' : t1.fill = L.length + 1 := by rw [p9, List.length_map]
      cases b
      · exact ⟨tab_plain T1 false, p4, p5, p9'⟩
      · exact ⟨T1, p4, p5, p9'⟩
    generalize (if b then t1 else { t1 with plain := false }) = t2 at hb ⊢
    obtain ⟨T2, tm, tl, tf⟩ := hb
    refine wpAny_bind (wpAny_storeSet_of ho hd ?_ (by rw [n2, sizeLine_eq]; omega))
    have sb : Heap.SameBut a s.heap (s.heap.update a (Obj.putSet es1 t2)) := Heap.SameBut.update ..
    have ho1 := store_at (es' := es1) (t' := t2) ho hd
    generalize s.heap.update a (Obj.putSet es1 t2) = h1 at sb ho1 ⊢
    have isp1 : ∀ y, y ∈ L1 → IsP P w h1 y.2 y.1 := fun y hy => by
      rcases List.mem_cons.mp (pm.mem_iff.mp hy) with e | hy
      · rw [e]; exact isp_but hx ho hd sb
      · exact isp_but (R.isp y hy) ho hd sb
    have led1 : w.params.followText "set-order" = true ∨ t2.led = true := by rw [tl]; exact R.led
    by_cases full : t2.tooFull = true
    · have f1 : (L.length + 1) * 5 ≥ t2.mask * 3 := by
        have := full
        simp only [SetTable.tooFull, decide_eq_true_eq, tf] at this
        exact this
      have two : (t.mask = 7 ∧ L.length = 4) ∨ (t.mask = 31 ∧ L.length = 18) := by
        rcases R.tab.mok with e | e | e
        · exact .inl ⟨e, by omega⟩
        · exact .inr ⟨e, by omega⟩
        · omega
      first
        | (refine wpAny_bind ?_; refine wp_if_pos (by simp [full]) ?_)
        | (refine wp_if_pos (by simp [full]) ?_; refine wpAny_bind ?_)
      rw [n1]
      have go : ∀ M, SetTable.sizeAbove (SetTable.grown (L.length + 1)) - 1 = M → MaskOk M → SetTable.sizeAbove (SetTable.grown (L.length + 1)) ≤ 128 → (L.length + 1) * 5 < M * 3 →
          wpAny (model P w) A (setRelay a (SetTable.grown (L.length + 1))) (fun _ s' => wpAny (model P w) A (pure true) Q E s') E { s with heap := h1 } := fun M g1 g2 g3 g4 => by
        refine widen (s := { s with heap := h1 }) ho1 ⟨hex.1, hex.2.1, hex.2.2⟩ rfl ins T2 nd1 isp1 led1 (by omega) (by rw [n3, tm]; rcases two with ⟨e, e2⟩ | ⟨e, e2⟩ <;> omega) g1 g2 g3 (by rw [n3]; exact g4) fun h2 L2 es2 ep2 t3 sb2 R2 pm2 => ?_
        exact wpAny_pure (q true h2 L2 es2 ep2 t3 (sb.trans sb2) R2 (.inr ⟨hm, pm2.trans pm⟩))
      rcases two with ⟨-, e2⟩ | ⟨-, e2⟩
      · exact go 31 (by rw [e2, size_20]) (.inr (.inl rfl)) (by rw [e2, size_20]; decide) (by omega)
      · exact go 127 (by rw [e2, size_76]) (.inr (.inr rfl)) (by rw [e2, size_76]; decide) (by omega)
    · first
        | refine wp_if_neg (by simp [full]) ?_
        | (refine wpAny_bind ?_; refine wp_if_neg (by simp [full]) ?_; refine wpAny_pure ?_)
      refine wpAny_pure (q true h1 L1 es1 (ep + 1) t2 sb ⟨⟨_, ho1, ⟨hex.1, hex.2.1, hex.2.2⟩, rfl⟩, ins, T2, nd1, isp1, led1, ?_, by omega⟩ (.inr ⟨hm, pm⟩))
      have := full
      simp only [SetTable.tooFull, decide_eq_true_eq, tf] at this
      omega
  by_cases tp : t1.plain = true
  · first
      | (refine wpAny_bind ?_; refine wp_if_pos tp ?_; refine byv_pair hx ?_)
      | refine wp_if_pos tp (wpAny_bind (byv_pair hx ?_))
    exact fin false
  · first
      | (refine wpAny_bind ?_; refine wp_if_neg tp ?_; refine wpAny_pure ?_)
      | refine wp_if_neg tp (wpAny_bind (wpAny_pure ?_))
    exact fin true
end
end Cw
end
section
/-! CwK3: set(t) of a tuple of pairs. -/
namespace Cw
open PySem PySem.Spec PyProof.Rows L2
/-- L stands for the first i of ks -/
structure Has (ks : List (Addr × Pr)) (i : Nat) (L : List (Addr × Pr)) : Prop where
  sub : ∀ x, x ∈ L → x ∈ ks.take i
  all : ∀ x, x ∈ ks.take i → x.2 ∈ L.map (·.2)
  len : L.length ≤ i
theorem Has.next {ks L L' : List (Addr × Pr)} {i : Nat} {x : Addr × Pr} (g : Has ks i L) (h : ks[i]? = some x) (c : (x.2 ∈ L.map (·.2) ∧ L' = L) ∨ (x.2 ∉ L.map (·.2) ∧ L'.Perm ((x.1, x.2) :: L))) : Has ks (i + 1) L' := by
  have e : ks.take (i + 1) = ks.take i ++ [x] := take_next h
  rcases c with ⟨hm, rfl⟩ | ⟨-, pm⟩
  · refine ⟨fun y hy => ?_, fun y hy => ?_, Nat.le_succ_of_le g.len⟩
    · rw [e]; exact List.mem_append_left _ (g.sub y hy)
    · rw [e] at hy
      rcases List.mem_append.mp hy with z | z
      · exact g.all y z
      · rw [List.mem_singleton.mp z]; exact hm
  · have l1 := g.len
    refine ⟨fun y hy => ?_, fun y hy => ?_, by rw [pm.length_eq]; simpa using l1⟩
    · rw [e]
      rcases List.mem_cons.mp (pm.mem_iff.mp hy) with z | z
      · rw [z]; exact List.mem_append_right _ List.mem_cons_self
      · exact List.mem_append_left _ (g.sub y z)
    · have pm2 := pm.map (·.2)
      refine pm2.mem_iff.mpr ?_
      rw [e] at hy
      rcases List.mem_append.mp hy with z | z
      · exact List.mem_cons_of_mem _ (g.all y z)
      · rw [List.mem_singleton.mp z]; exact List.mem_cons_self
section
variable {P : Program} {w : World} {A : Around} {E : Value → Shared → Prop} {s : Shared}
theorem PSet.keep {h h' : Heap} {a : Addr} {L : List (Addr × Pr)} {es : Array (Int × Value)} {ep : Nat} {t : SetTable} (R : PSet P w h a L es ep t) (k : ∀ o, h.get? a = some o → h'.get? a = some o) (i : ∀ x, x ∈ L → IsP P w h' x.2 x.1) : PSet P w h' a L es ep t := by
  obtain ⟨o, ho, r⟩ := R.obj
  exact ⟨⟨o, k o ho, r⟩, R.rows, R.tab, R.nd, i, R.led, R.room, R.few⟩
abbrev freshSet (w : World) : Obj := { cls := .type "set", dict := none, data := .set #[] 0 (.fresh 0 0 (!w.params.followText "set-order")) }
theorem pset_new {h : Heap} {a : Addr} (ho : h.get? a = some (freshSet w)) : PSet P w h a [] #[] 0 (.fresh 0 0 (!w.params.followText "set-order")) := by
  refine ⟨⟨_, ho, ⟨rfl, rfl, rfl⟩, rfl⟩, rfl, ⟨List.Pairwise.nil, rfl, rfl, .inl rfl, fun x hx => (by cases hx), fun i h j hi => (by simp at hi)⟩, List.nodup_nil, fun x hx => (by cases hx), ?_, by show 0 * 5 < 7 * 3; omega, by show 0 < 64; omega⟩
  show w.params.followText "set-order" = true ∨ (!w.params.followText "set-order") = true
  cases w.params.followText "set-order"
  · exact .inr rfl
  · exact .inl rfl
theorem fill_set {I S : Addr} {fp wr : List Addr} {G : Array GenState → Array GenState → Prop} {n : Nat} {Pv : Nat → Value → Prop} {St : Nat → Shared → Prop} {R : Result → Shared → Prop} {ks : List (Addr × Pr)} {h0 : Heap} (W : WalksS P w A.in1 I fp wr G n Pv St) (sf : S ∉ fp) (en : n = ks.length) (few : ks.length < 64)
    (val : ∀ i v, Pv i v → ∃ x, ks[i]? = some x ∧ v = .ref x.1) (isp : ∀ x, x ∈ ks → IsP P w h0 x.2 x.1) (s0 : h0.get? S = none) (w0 : ∀ b, b ∈ wr → h0.get? b = none) (hu : A.in1.units < cLine) :
    ∀ (r i : Nat) (s : Shared), i + r = n → St i s → (∀ b o, h0.get? b = some o → s.heap.get? b = some o) → (∃ L es ep t, PSet P w s.heap S L es ep t ∧ Has ks i L) →
      (∀ s' L es ep t, Moved (S :: wr) G s s' → PSet P w s'.heap S L es ep t → Has ks n L → (∀ b o, h0.get? b = some o → s'.heap.get? b = some o) → R (.ok (.ret .none)) s') → codeAny (model P w) A (.builtin "set.update.loop" ⟨[.ref S, .ref I], []⟩) R s := by
  have up : ∀ b, b ∈ wr → b ∈ S :: wr := fun b hb => List.mem_cons_of_mem _ hb
  have kept : ∀ {s1 s2 : Shared}, Moved wr G s1 s2 → (∀ b o, h0.get? b = some o → s1.heap.get? b = some o) → ∀ b o, h0.get? b = some o → s2.heap.get? b = some o := fun m k b o e =>
    m.heap b o (fun hb => by rw [w0 b hb] at e; cases e) (k b o e)
  have moved : ∀ {s1 s2 : Shared} {i : Nat} {L : List (Addr × Pr)} {es : Array (Int × Value)} {ep : Nat} {t : SetTable}, Moved wr G s1 s2 → (∀ b o, h0.get? b = some o → s2.heap.get? b = some o) → PSet P w s1.heap S L es ep t → Has ks i L → PSet P w s2.heap S L es ep t := fun m k p g =>
    p.keep (fun o e => m.heap S o (fun hb => sf (W.sub _ hb)) e) fun x hx => isp_keep (isp x (List.mem_of_mem_take (g.sub x hx))) k
  intro r
  induction r with
  | zero =>
    intro i s hi hst hk ⟨L, es, ep, t, hS, g⟩ fin
    have ei : i = n := hi
    subst ei
    refine codeAny_builtin F.entry_set_update_loop ?_
    rw [Around.under_plainId F.plain_set_update_loop _]
    show wpAny _ A.in1 (pyNext (.ref I) >>= _) _ _ s
    refine wpAny_bind (W.done s _ _ hst fun s' m => ?_)
    have k' := kept m hk
    show wpAny _ A.in1 (ret Value.none) _ _ s'
    exact wpAny_pure (fin s' L es ep t (m.mono up) (moved m k' hS g) g k')
  | succ r again =>
    intro i s hi hst hk ⟨L, es, ep, t, hS, g⟩ fin
    have il : i < n := by omega
    refine codeAny_builtin F.entry_set_update_loop ?_
    rw [Around.under_plainId F.plain_set_update_loop _]
    show wpAny _ A.in1 (pyNext (.ref I) >>= _) _ _ s
    refine wpAny_bind (W.item i s _ _ il hst fun v s' hv hst' m => ?_)
    obtain ⟨x, hx, rfl⟩ := val i v hv
    have k' := kept m hk
    have hS' := moved m k' hS g
    have ix : IsP P w s'.heap x.2 x.1 := isp_keep (isp x (List.mem_of_getElem? hx)) k'
    show wpAny _ A.in1 (holding [Value.ref x.1] (setAdd S (.ref x.1)) >>= _) _ _ s'
    refine wpAny_bind (wpAny_holding ?_)
    unfold setAdd
    refine wpAny_holding (wpAny_bind (wpAny_pyHash_tuple hu ix ?_))
    rw [hsP_eq]
    refine add_pair (s := { s' with toks := s'.toks + ((pk x.2).length + 1) }) hS' ix hu (by have := g.len; omega) fun b h' L' es' ep' t' sb hS2 c => ?_
    have k2 : ∀ b o, h0.get? b = some o → h'.get? b = some o := fun b o e => (sb.2 b fun z => by rw [z, s0] at e; cases e).trans (k' b o e)
    refine wpAny_pure ⟨plainId_quiet F.plain_set_update_loop _, again (i + 1) _ (by omega) (W.frame _ s' _ _ hst' (Nat.le_add_right _ _) fun b hb o e => ?_) k2 ⟨L', es', ep', t', hS2, g.next hx c⟩ fun s2 L2 es2 ep2 t2 m2 p2 g2 k3 => ?_⟩
    · rw [sb.2 b fun z : b = S => sf (z ▸ hb)]
      exact e
    · refine fin s2 L2 es2 ep2 t2 (Moved.trans W.gtrans ((m.mono up).then_heap (Nat.le_add_right _ _) fun b o hb e => ?_) m2) p2 g2 k3
      rw [sb.2 b fun z : b = S => hb (by rw [z]; exact List.mem_cons_self)]
      exact e
theorem call_set_pairs {l : Addr} {items : Array Value} {ks : List (Addr × Pr)} {Q : Value → Shared → Prop} (hh : A.handled = none) (hl : s.heap.IsTuple l items) (it : items.toList = ks.map fun x => Value.ref x.1) (isp : ∀ x, x ∈ ks → IsP P w s.heap x.2 x.1) (few : ks.length < 64) (hu : A.units + 3 < cLine)
    (q : ∀ (h' : Heap) (tk : Nat) L es ep t, PSet P w h' s.heap.objs.size L es ep t → Has ks ks.length L → (∀ b o, s.heap.get? b = some o → h'.get? b = some o) → Q (.ref s.heap.objs.size) { s with heap := h', toks := tk }) : wpAny (model P w) A (call (.type "set") [.ref l]) Q E s := by
  have sz : items.size = ks.length := by simpa using congrArg List.length it
  obtain ⟨c, tl, hmro⟩ := F.called_set.mro
  have hmade := F.called_set.made
  have hsub := F.called_set.sub
  refine wpAny_call (codeAny_of_tree ?_)
  show wpAny _ _ (callAny (.type "set") _) _ _ _
  refine wpAny_pure ⟨Code.quiet_builtin _ (by decide +kernel), codeAny_builtin F.entry_type_call ?_⟩
  rw [Around.under_plain (weight_type_call_type "set" [.ref l] []) rfl]
  have c1 := F.called_set.notType
  have c2 := F.called_set.canCreate
  have c3 := F.typeCall_set_1 (.ref l)
  repeat (any_goals (first | assumption | wp_step))
  refine codeAny_mono (code_set_led1 (.ref l) (E := E) (Q₁ := fun obj s1 => obj = .ref s.heap.objs.size ∧ s1 = { s with heap := s.heap.push (freshSet w) }) ⟨rfl, rfl⟩) fun r s1 hr => ?_
  cases r with
  | error e => exact hr
  | ok fl =>
    cases fl with
    | ret obj =>
      obtain ⟨rfl, rfl⟩ := hr
      have gS : (s.heap.push (freshSet w)).get? s.heap.objs.size = some (freshSet w) := Heap.get?_push_size _ rfl
      have tS : Shared.TypeIs { s with heap := s.heap.push (freshSet w) } (.ref s.heap.objs.size) "set" := ⟨_, gS, rfl⟩
      have li := F.called_set.init.lookup
      have bi := F.called_set.init.bind (.ref s.heap.objs.size)
      repeat (any_goals (first | assumption | wp_step))
      refine codeAny_mono (codeAny_call_builtin (R := wants (fun r s2 => r = .none ∧ ∃ h' tk L es ep t, s2 = { s with heap := h', toks := tk } ∧ PSet P w h' s.heap.objs.size L es ep t ∧ Has ks ks.length L ∧ ∀ b o, s.heap.get? b = some o → h'.get? b = some o) E) F.called_set.init.plain F.entry_set_init (check_set_init_1 tS ?_)) fun r2 s2 hr2 => ?_
      · obtain ⟨ol, hol, hcl, nl, hdl⟩ := hl
        obtain ⟨ocls, odict, odata, oslots⟩ := ol
        simp only at hcl hdl
        subst hcl; subst hdl
        have hol' : (s.heap.push (freshSet w)).get? l = some { cls := .type "tuple", dict := odict, data := .seq items nl, slots := oslots } := Heap.get?_push_of_some _ hol
        have n1 := F.sub_tuple_set
        have n2 := F.sub_tuple_frozenset
        have n3 : (Value.type "tuple" == Value.type "dict") = false := by decide
        have hl1 : (s.heap.push (freshSet w)).IsTuple l items := ⟨_, hol', rfl, nl, rfl⟩
        unfold Builtin.«set.__init__» noKeywords Builtin.Frozenset.updateFrom
        generalize hPI : pyIter = PI
        wp_walk
        subst hPI
        refine wpAny_pyIter_tuple hl1 (wpAny_bind (wpAny_runValue ?_))
        have lS : l < s.heap.objs.size := Heap.lt_size hol
        have hh3 : A.in1.in1.in1.handled = none := by simp [hh]
        have z1 : (s.heap.push (freshSet w)).objs.size = s.heap.objs.size + 1 := Heap.size_push ..
        have neI : l ≠ (s.heap.push (freshSet w)).objs.size := by rw [z1]; exact Nat.ne_of_lt (Nat.lt_succ_of_lt lS)
        have sf : s.heap.objs.size ∉ [(s.heap.push (freshSet w)).objs.size, l] := by
          rw [z1]
          simp only [List.mem_cons, List.not_mem_nil, or_false, not_or]
          exact ⟨Nat.ne_of_lt (Nat.lt_succ_self _), Nat.ne_of_gt lS⟩
        have val : ∀ (i : Nat) (v : Value), items[i]? = some v → ∃ x, ks[i]? = some x ∧ v = .ref x.1 := fun i v hv => by
          rw [← Array.getElem?_toList, it, List.getElem?_map] at hv
          obtain ⟨x, e1, e2⟩ := Option.map_eq_some_iff.mp hv
          exact ⟨x, e1, e2.symm⟩
        have gone : ∀ b, s.heap.objs.size ≤ b → s.heap.get? b = none := fun b hb => by
          cases g : s.heap.get? b with
          | none => rfl
          | some o => exact absurd (Heap.lt_size g) (Nat.not_lt.mpr hb)
        refine fill_set (h0 := s.heap) ((Walks.tuple hh3 _ l neI items).toS) sf sz few val isp (gone _ (Nat.le_refl _)) (fun b hb => gone b (by rw [List.mem_singleton.mp hb, z1]; omega)) hu items.size 0 _ (Nat.zero_add _)
          ⟨⟨_, Heap.get?_push_size _ rfl, rfl, rfl⟩, hl1.push _⟩ (fun b o e => Heap.get?_push_of_some _ (Heap.get?_push_of_some _ e)) ⟨[], #[], 0, _, pset_new (Heap.get?_push_of_some _ gS), ⟨fun x hx => (by cases hx), fun x hx => (by simp at hx), Nat.le_refl _⟩⟩ ?_
        intro s3 L es ep t m p g k
        obtain ⟨h', g2, d', tk', os'⟩ := s3
        have e1 : g2 = s.gens := m.gens
        have e2 : d' = s.drawn := m.drawn
        have e3 : os' = s.os := m.os
        subst e1; subst e2; subst e3
        show wpAny _ _ _ _ _ _
        refine wpAny_pure ?_
        show wpAny _ _ (ret Value.none) _ _ _
        rw [sz] at g
        exact wpAny_pure ⟨rfl, h', tk', L, es, ep, t, rfl, p, g, k⟩
      · cases r2 with
        | error e => exact hr2
        | ok fl2 =>
          cases fl2 with
          | ret r =>
            obtain ⟨rfl, h', tk, L, es, ep, t, rfl, p, g, k⟩ := hr2
            repeat (any_goals (first | assumption | wp_step))
            exact q _ _ _ _ _ _ p g k
          | _ => exact hr2.elim
    | _ => exact hr.elim
end
end Cw
end
section
/-! CwK4: sorted of pairs. -/
namespace Cw
open PySem PySem.Spec PyProof.Rows L2
open PySem.W (EachIs AllAlike Sortable dataLe dataLt alike)
def encP (p : Pr) : PyData := .tuple [.str p.1, .int p.2]
theorem lt_enc (a b : Pr) : dataLt (encP a) (encP b) = ltP a b := by
  unfold encP ltP
  rw [PySem.W.dataLt_pair (by simp [alike]) (by simp [alike]), PySem.W.dataLt_int, PySem.W.dataLt_str]
  simp only [PyData.eqv, beq_iff_eq]
  by_cases h : a.1 = b.1
  · rw [if_pos h, if_pos h]
    by_cases h2 : a.2 = b.2
    · simp [h2]
    · rw [if_neg h2]
  · rw [if_neg h, if_neg h]
theorem le_enc : dataLe false encP = fun a b => !ltP b a := by
  rw [PySem.W.dataLe_eq]
  funext a b
  simp [lt_enc]
theorem sort_enc (l : List Pr) : l.mergeSort (dataLe false encP) = sortP l := by rw [le_enc]; rfl
theorem all_enc (l : List Pr) : AllAlike (l.map encP) := AllAlike.of fun b b' => by simp [encP, alike, PySem.W.alikeAll]
theorem sbl_enc (l : List Pr) : Sortable (l.map encP) := Sortable.tuples fun b => ⟨_, _, rfl⟩
theorem dep_enc (p : Pr) : (encP p).depth ≤ 1 := by simp [encP, PyData.depth, PyData.depthAll]
theorem sort_same {l m : List Pr} (h : l.Perm m) : sortP l = sortP m := by
  refine List.Perm.eq_of_pairwise (le := fun a b => (!ltP b a) = true) (fun a b _ _ h1 h2 => ?_) (List.pairwise_mergeSort le_trans' le_total' l) (List.pairwise_mergeSort le_trans' le_total' m) (((sortP_perm l).trans h).trans (sortP_perm m).symm)
  rcases (le_iff a b).mp h1 with x | ⟨x1, x2⟩ <;> rcases (le_iff b a).mp h2 with y | ⟨y1, y2⟩
  · exact absurd (List.lt_trans x y) (lt_irr _)
  · exact absurd (show txt a < txt a by have e : txt b = txt a := by unfold txt; rw [y1]
                                        rw [e] at x; exact x) (lt_irr _)
  · exact absurd (show txt b < txt b by have e : txt a = txt b := by unfold txt; rw [x1]
                                        rw [e] at y; exact y) (lt_irr _)
  · exact Prod.ext x1 (by omega)
section
variable {P : Program} {w : World} {A : Around} {E : Value → Shared → Prop} {s : Shared}
theorem isp_reads {h : Heap} {p : Pr} {b : Addr} (x : IsP P w h p b) : ∃ as, Reads h (.ref b) (encP p) as := by
  obtain ⟨o, n, t, u, ho, hc, hd⟩ := isp_items x
  exact ⟨_, .tuple ho hc hd (.cons (.str _ _) (.cons (.int _ _) .nil))⟩
theorem each_imp {α β : Type} {R S : α → β → Prop} (h : ∀ a b, R a b → S a b) : ∀ {l : List α} {m : List β}, EachIs R l m → EachIs S l m
  | _, _, .nil => .nil
  | _, _, .cons a b => .cons (h _ _ a) (each_imp h b)
theorem each_rows {L : List (Addr × Pr)} : ∀ M : List (Addr × Pr), (∀ x, x ∈ M → x ∈ L) → EachIs (fun v b => ∃ x, x ∈ L ∧ v = Value.ref x.1 ∧ x.2 = b) (M.map fun x => Value.ref x.1) (M.map (·.2))
  | [], _ => .nil
  | x :: M, h => .cons ⟨x, h x List.mem_cons_self, rfl, rfl⟩ (each_rows M fun y hy => h y (List.mem_cons_of_mem _ hy))
theorem perm_back {α β : Type} {f : α → β} {vs ws : List β} (h : vs.Perm ws) : ∀ {L : List α}, ws = L.map f → ∃ M : List α, M.Perm L ∧ vs = M.map f := by
  induction h with
  | nil => intro L e; exact ⟨[], by cases L with
    | nil => exact List.Perm.refl _
    | cons x L => simp at e, rfl⟩
  | cons v _ ih =>
    intro L e
    cases L with
    | nil => simp at e
    | cons x L =>
      simp only [List.map_cons, List.cons.injEq] at e
      obtain ⟨M, m1, m2⟩ := ih e.2
      exact ⟨x :: M, List.Perm.cons x m1, by rw [List.map_cons, e.1, m2]⟩
  | swap u v l =>
    intro L e
    match L, e with
    | x :: y :: L, e =>
      simp only [List.map_cons, List.cons.injEq] at e
      exact ⟨y :: x :: L, List.Perm.swap x y L, by rw [List.map_cons, List.map_cons, e.1, e.2.1, e.2.2]⟩
  | trans _ _ ih1 ih2 =>
    intro L e
    obtain ⟨M, m1, m2⟩ := ih2 e
    obtain ⟨N, n1, n2⟩ := ih1 m2
    exact ⟨N, n1.trans m1, n2⟩
theorem sorted_set_pairs {a : Addr} {L : List (Addr × Pr)} {es : Array (Int × Value)} {ep : Nat} {t : SetTable} {Q : Value → Shared → Prop} (R : PSet P w s.heap a L es ep t) (hh : A.handled = none) (hu : A.units + 10 < cLine)
    (q : ∀ s' p (out : List Value) (c : Nat), (∀ b o, s.heap.get? b = some o → s'.heap.get? b = some o) → s'.gens = s.gens → s'.os = s.os → s.heap.objs.size ≤ p → s'.heap.get? p = some (seqObj "list" out.toArray c) → out.length < 64 →
      EachIs (fun v b => ∃ x, x ∈ L ∧ v = Value.ref x.1 ∧ x.2 = b) out (sortP (L.map (·.2))) → Q (.ref p) s') : wpAny (model P w) A (call (.builtin "sorted") [.ref a]) Q E s := by
  obtain ⟨o, ho, hex, hd⟩ := R.obj
  have n1 := rows_size R.rows
  have few := R.few
  refine Calls.call_function_entry kind_sorted plain_sorted entry_sorted (args_sorted1 _) ?_
  unfold Builtin.«sorted»
  refine wpAny_bind (m := checkCount "sorted" 1 1 _) (wpAny_pure ?_)
  refine wpAny_bind (collect_set (A := A.in1) hh ⟨o, ho, hex.1, hd⟩ R.fits (by unfold scanBound; omega) R.tab.ris R.led fun s1 vs k1 sz g1 o1 pm => ?_)
  have hes : es.toList.map (·.2) = L.map fun x => Value.ref x.1 := by
    rw [R.rows, List.map_map]
    exact List.map_congr_left fun x _ => rowP_2 P w x
  obtain ⟨M, m1, rfl⟩ := perm_back pm hes
  have ml : M.length = L.length := m1.length_eq
  refine wpAny_bind (wpAny_newList ?_ (by rw [List.length_map, sizeLine_eq]; omega))
  have gL : (s1.heap.push (seqObj "list" (M.map fun x => Value.ref x.1).toArray 0)).get? s1.heap.objs.size = some (seqObj "list" (M.map fun x => Value.ref x.1).toArray 0) := Heap.get?_push_size _ rfl
  have ip : ∀ x, x ∈ L → IsP P w (s1.heap.push (seqObj "list" (M.map fun x => Value.ref x.1).toArray 0)) x.2 x.1 := fun x hx => isp_keep (R.isp x hx) fun b u e => Heap.get?_push_of_some _ (k1 b u e)
  have ea := each_rows (L := L) M fun x hx => m1.mem_iff.mp hx
  have er : EachIs (fun v b => ∃ as, Reads (s1.heap.push (seqObj "list" (M.map fun x => Value.ref x.1).toArray 0)) v (encP b) as ∧ s1.heap.objs.size ∉ as) (M.map fun x => Value.ref x.1) (M.map (·.2)) := by
    refine each_imp (fun v b hv => ?_) ea
    obtain ⟨x, hx, rfl, rfl⟩ := hv
    obtain ⟨o2, n2, t2, u2, ho2, hc2, hd2⟩ := isp_items (ip x hx)
    exact ⟨_, .tuple ho2 hc2 hd2 (.cons (.str _ _) (.cons (.int _ _) .nil)), by simp⟩
  have hu' : ∀ b, b ∈ M.map (·.2) → A.in1.units + 1 + (encP b).depth < cLine := fun b _ => by
    have := dep_enc b
    have e : A.in1.units ≤ A.units + 3 := by simp only [Around.in1] <;> omega
    omega
  refine wpAny_bind (wpAny_holding (PySem.W.list_sort_data (s := { s1 with heap := s1.heap.push (seqObj "list" (M.map fun x => Value.ref x.1).toArray 0) }) (enc := encP) gL ea er (all_enc _) (sbl_enc _) (by rw [List.length_map, sizeLine_eq]; omega) hu' fun out ol oe => ?_))
  obtain ⟨c, hc⟩ := sortedHeap_at (vs := M.map fun x => Value.ref x.1) (out := out.toArray) gL
  rw [sort_enc, sort_same (m1.map (·.2))] at oe
  refine wpAny_pure ⟨_, rfl, q _ s1.heap.objs.size out c (fun b u e => ?_) g1 o1 sz hc (by rw [ol, List.length_map]; omega) oe⟩
  have e2 := k1 b u e
  have lt := Heap.lt_size e2
  show (sortedHeap (s1.heap.push (seqObj "list" (M.map fun x => Value.ref x.1).toArray 0)) s1.heap.objs.size (M.map fun x => Value.ref x.1) out.toArray).get? b = some u
  rw [sortedHeap_old (Nat.ne_of_lt lt) (by rw [size_push']; exact Nat.lt_succ_of_lt lt)]
  exact Heap.get?_push_of_some _ e2
end
end Cw
end
section
/-! CwS: sorted(list of pairs), sorted(set(tuple of pairs)), over the store. -/
namespace Cw
open PySem PySem.Spec PyProof.Rows L2
open PySem.W (EachIs)
/-- the pair p, a tuple -/
def TupP (K : PySem.W.Frag) (H : Hp) (x : V) (p : Pr) : Prop := ∃ t, x = .ref t ∧ TupS K H t [.str p.1, .int p.2]
section
variable {X : Cx} {pins : List (Addr × Obj)} {σ : L2.St} {H : Hp} {s : Shared}
theorem tupP_is (I : Inv X pins σ H s) {b : Addr} {p : Pr} (h : TupS X.K H b [.str p.1, .int p.2]) : IsP X.prog X.w s.heap p b := by
  obtain ⟨its, r, ⟨o, ho, hc, n, hd⟩, -⟩ := I.tuple h.sq
  cases r with
  | cons r1 r2 =>
    cases r2 with
    | cons r3 r4 =>
      cases r4
      obtain ⟨t, rfl⟩ := r1
      obtain ⟨u, rfl⟩ := r3
      exact ⟨o, _, n, ho, hc, hd, .cons (show keyIs (.inr p.1) (.str p.1 t) = true by simp [keyIs, Value.isStrOf, Value.isInt]) (.cons (show keyIs (.inl p.2) (.int p.2 u) = true by simp [keyIs, Value.isStrOf, Value.isInt]) .nil)⟩
theorem vals_each {K : PySem.W.Frag} {H : Hp} : ∀ {xs : List V} {us : List Value} {bs : List Pr}, Vals xs us → EachIs (TupP K H) xs bs → EachIs (fun v b => ∃ t, v = Value.ref t ∧ TupS K H t [.str b.1, .int b.2]) us bs
  | _, _, _, .nil, .nil => .nil
  | _, _, _, .cons r rs, .cons ⟨t, e, h⟩ es => by
    subst e
    exact .cons ⟨t, r, h⟩ (vals_each rs es)
theorem each_vals {K : PySem.W.Frag} {H : Hp} : ∀ {us : List Value} {bs : List Pr}, EachIs (fun v b => ∃ t, v = Value.ref t ∧ TupS K H t [.str b.1, .int b.2]) us bs → ∃ ys, Vals ys us ∧ EachIs (TupP K H) ys bs
  | _, _, .nil => ⟨[], .nil, .nil⟩
  | _, _, .cons ⟨t, e, h⟩ es => by
    obtain ⟨ys, y1, y2⟩ := each_vals es
    subst e
    exact ⟨.ref t :: ys, .cons rfl y1, .cons ⟨t, rfl, h⟩ y2⟩
theorem each_len {α β : Type} {R : α → β → Prop} : ∀ {l : List α} {m : List β}, EachIs R l m → l.length = m.length
  | _, _, .nil => rfl
  | _, _, .cons _ t => by simp [each_len t]
/-- sorted(xs), xs a list of pairs -/
def rSortP (K : PySem.W.Frag) : List V → Hp → VK → Prop := fun vs H Q => ∃ (a : Addr) (xs : List V) (bs : List Pr), vs = [V.ref a] ∧ SqL K H a xs ∧ EachIs (TupP K H) xs bs ∧ bs.length < 64 ∧ ∀ ys p, EachIs (TupP K H) ys (sortP bs) → H p = none → Q (.ref p) (upd H p (.lst ys))
theorem cr_sortP (hu : X.A.units + 65 < cLine) : CallR X (.builtin "sorted") (rSortP X.K) := by
  intro pins s σ H vs us Q I r h
  obtain ⟨a, xs, bs, rfl, hs, he, hf, q⟩ := h
  obtain ⟨its, rv, hl, hz⟩ := I.list hs
  rw [Vals.ref1 r]
  have e1 := vals_each rv he
  have hu' : ∀ b, b ∈ bs → X.A.units + 2 + (encP b).depth < cLine := fun b _ => by
    have := dep_enc b
    omega
  refine PySem.W.sorted_data (enc := encP) hl.isList e1 (each_imp (fun v b hv => ?_) e1) (all_enc _) (sbl_enc _) (by rw [sizeLine_eq]; omega) hu' fun out ol oe => ?_
  · obtain ⟨t, rfl, ht⟩ := hv
    exact isp_reads (tupP_is I ht)
  · obtain ⟨ep, he'⟩ := PyProof.Rows.sortedAll_at s.heap its out.toArray
    rw [sort_enc] at oe
    obtain ⟨ys, y1, y2⟩ := each_vals oe
    have yl : ys.length ≤ sizeLine := by
      rw [each_len y2, (sortP_perm bs).length_eq, sizeLine_eq]
      omega
    exact ⟨.ref _, upd H (s.heap.objs.size + 1) (.lst ys), I.laid (t' := s.toks) (fun _ _ => PyProof.Rows.sortedAll_old) (Nat.le_succ _) ⟨yl, out, ep, y1, he'⟩, rfl, q ys _ y2 (I.hok.fresh (Nat.le_succ _))⟩
/-! ### a set -/
def PSet0 (P : Program) (w : World) (h : Heap) (a : Addr) (L : List (Addr × Pr)) : Prop := ∃ (es : Array (Int × Value)) (ep : Nat) (t : SetTable), (∃ o, h.get? a = some o ∧ o.ExactSet ∧ o.data = .set es ep t) ∧ es.toList = L.map (rowP P w) ∧ TabOk t (L.map fun x => hsP P w x.2) ∧
  (L.map (·.2)).Nodup ∧ (w.params.followText "set-order" = true ∨ t.led = true) ∧ L.length * 5 < t.mask * 3 ∧ L.length < 64
def SetO (P : Program) (w : World) (a : Addr) (L : List (Addr × Pr)) : HO := .ext fun h => PSet0 P w h a L
theorem setO_ok {P : Program} {w : World} {H : Hp} {h : Heap} {a : Addr} {L : List (Addr × Pr)} (R : PSet0 P w h a L) : ObjOk P w H h a (SetO P w a L) := by
  have ⟨es, ep, t, ⟨o, ho, r⟩, q⟩ := R
  refine ⟨R, ⟨o, ho⟩, fun h1 h2 z k => ?_⟩
  have ⟨es', ep', t', ⟨o', ho', r'⟩, q'⟩ := (show PSet0 P w h1 a L from z)
  exact ⟨es', ep', t', ⟨o', k o' ho', r'⟩, q'⟩
def rSetP (K : PySem.W.Frag) (P : Program) (w : World) : List V → Hp → VK → Prop := fun xs H Q => ∃ (l : Addr) (ks : List (Addr × Pr)), xs = [V.ref l] ∧ SqT K H l (ks.map fun x => V.ref x.1) ∧ (∀ x, x ∈ ks → TupS K H x.1 [.str x.2.1, .int x.2.2]) ∧ ks.length < 64 ∧
  ∀ a L, H a = none → (∀ x, x ∈ L → x ∈ ks) → (∀ x, x ∈ ks → x.2 ∈ L.map (·.2)) → (L.map (·.2)).Nodup → Q (.ref a) (upd H a (SetO P w a L))
theorem refs_val : ∀ {ks : List (Addr × Pr)} {us : List Value}, Vals (ks.map fun x => V.ref x.1) us → us = ks.map fun x => Value.ref x.1
  | [], _, .nil => rfl
  | x :: ks, _, .cons r t => by
    cases r
    rw [refs_val t]
    rfl
theorem cr_setP (hc : X.calm = true) (hu : X.A.units + 65 < cLine) : CallR X (.type "set") (rSetP X.K X.prog X.w) := by
  intro pins s σ H xs us Q I r h
  obtain ⟨l, ks, rfl, hl, hk, hf, q⟩ := h
  rw [Vals.ref1 r]
  obtain ⟨its, rv, ⟨o, ho, hcl, n, hd⟩, hz⟩ := I.tuple hl
  have hn : H s.heap.objs.size = none := I.hok.fresh (Nat.le_refl _)
  refine call_set_pairs (P := X.prog) (w := X.w) (ks := ks) (items := its.toArray) (I.ok.hd hc) ⟨o, ho, hcl, n, hd⟩ (by simpa using refs_val rv) (fun x hx => tupP_is I (hk x hx)) hf (by omega) fun h' tk L es ep t R g k => ?_
  refine ⟨.ref s.heap.objs.size, upd H s.heap.objs.size (SetO X.prog X.w s.heap.objs.size L), I.laid (t' := tk) k (Nat.le_refl _) (setO_ok ⟨es, ep, t, R.obj, R.rows, R.tab, R.nd, R.led, R.room, R.few⟩), rfl, q _ L hn (fun x hx => List.mem_of_mem_take (g.sub x hx)) (fun x hx => g.all x (by rw [List.take_length]; exact hx)) R.nd⟩
def rSortedP (K : PySem.W.Frag) (P : Program) (w : World) : List V → Hp → VK → Prop := fun vs H Q => ∃ (a : Addr) (L : List (Addr × Pr)), vs = [V.ref a] ∧ H a = some (SetO P w a L) ∧ (∀ x, x ∈ L → TupS K H x.1 [.str x.2.1, .int x.2.2]) ∧
  ∀ ys p, EachIs (TupP K H) ys (sortP (L.map (·.2))) → H p = none → Q (.ref p) (upd H p (.lst ys))
theorem cr_sortedP (hc : X.calm = true) (hu : X.A.units + 65 < cLine) : CallR X (.builtin "sorted") (rSortedP X.K X.prog X.w) := by
  intro pins s σ H vs us Q I r h
  obtain ⟨a, L, rfl, ha, hk, q⟩ := h
  obtain ⟨es, ep, t, h1, h2, h3, h4, h5, h6, h7⟩ : PSet0 X.prog X.w s.heap a L := (I.hok a _ ha).1
  have R : PSet X.prog X.w s.heap a L es ep t := ⟨h1, h2, h3, h4, fun x hx => tupP_is I (hk x hx), h5, h6, h7⟩
  rw [Vals.ref1 r]
  refine sorted_set_pairs R (I.ok.hd hc) (by omega) fun s' p out c k g o hp hg ol oe => ?_
  have oe2 : EachIs (fun v b => ∃ t, v = Value.ref t ∧ TupS X.K H t [.str b.1, .int b.2]) out (sortP (L.map (·.2))) := each_imp (fun v b hv => by
    obtain ⟨x, hx, rfl, rfl⟩ := hv
    exact ⟨x.1, rfl, hk x hx⟩) oe
  obtain ⟨ys, y1, y2⟩ := each_vals oe2
  have yl : ys.length ≤ sizeLine := by
    rw [each_len y2, ← each_len oe2, sizeLine_eq]
    omega
  have hn : H p = none := I.hok.fresh hp
  have J : Inv X pins σ (upd H p (.lst ys)) { s with heap := s'.heap, gens := s'.gens, drawn := s'.drawn, toks := s'.toks } :=
    I.call (ch := []) (Un.laid k hp hn) (I.hok.laid k hp ⟨yl, out, c, y1, hg⟩) (by rw [g]; exact I.bare) (fun _ z => nomatch z)
  have e : s' = { s with heap := s'.heap, gens := s'.gens, drawn := s'.drawn, toks := s'.toks } := by
    cases s'
    cases s
    cases o
    rfl
  rw [e]
  exact ⟨.ref p, _, J, rfl, q ys p y2 hn⟩
end
/-! ### over the store -/
section
variable {K : PySem.W.Frag} {st : Ste}
theorem tupP_of {x : V} {v : Val} {p : Pr} (r : RepV K st x v) (h : prOf v = some p) : TupP K st.H x p := by
  unfold prOf at h
  split at h
  · rename_i k i
    have e : (k, i) = p := Option.some.inj h
    subst e
    cases r with
    | tup ht rs =>
      cases rs with
      | cons a1 rs2 =>
        cases rs2 with
        | cons a2 rs3 =>
          cases rs3
          cases a1
          cases a2
          exact ⟨_, rfl, ht⟩
  · cases h
theorem tupsP_of : ∀ {xs : List V} {vs : List Val} {ps : List Pr}, RepVs K st xs vs → prsOf vs = some ps → EachIs (TupP K st.H) xs ps
  | _, _, _, .nil, h => by
    have e : [] = _ := Option.some.inj h
    subst e
    exact .nil
  | _, _, _, .cons r rs, h => by
    simp only [prsOf, Option.bind_eq_some_iff, Option.map_eq_some_iff] at h
    obtain ⟨p, h1, q, h2, rfl⟩ := h
    exact .cons (tupP_of r h1) (tupsP_of rs h2)
theorem rep_tupP {x : V} {p : Pr} (h : TupP K st.H x p) : RepV K st x (prV p) := by
  obtain ⟨t, rfl, ht⟩ := h
  exact .tup ht (.cons (.str _) (.cons (.int _) .nil))
theorem rep_tupsP : ∀ {xs : List V} {ps : List Pr}, EachIs (TupP K st.H) xs ps → RepVs K st xs (ps.map prV)
  | _, _, .nil => .nil
  | _, _, .cons h t => .cons (rep_tupP h) (rep_tupsP t)
theorem refs_of : ∀ {xs : List V} {ps : List Pr}, EachIs (TupP K st.H) xs ps → ∃ ks : List (Addr × Pr), xs = ks.map (fun x => V.ref x.1) ∧ ks.map (·.2) = ps ∧ ∀ x, x ∈ ks → TupS K st.H x.1 [.str x.2.1, .int x.2.2]
  | _, _, .nil => ⟨[], rfl, rfl, fun x hx => by cases hx⟩
  | _, _, .cons (b := p) ⟨t, e, h⟩ es => by
    obtain ⟨ks, k1, k2, k3⟩ := refs_of es
    refine ⟨(t, p) :: ks, by rw [e, k1]; rfl, by rw [← k2]; rfl, fun x hx => ?_⟩
    rcases List.mem_cons.mp hx with z | z
    · rw [z]; exact h
    · exact k3 x z
theorem fSortL_M : CallM K (rSortP K) fSortL := by
  intro st xs vs v S' Q hr hx hf k
  unfold fSortL at hf
  split at hf
  · simp only [Option.bind_eq_some_iff] at hf
    obtain ⟨ws, e1, ps, e2, e3⟩ := hf
    split at e3
    · rename_i hl
      obtain ⟨rfl, rfl⟩ : .lst ((sortP ps).map prV) = v ∧ st.S = S' := by simpa using e3
      obtain ⟨x, rfl, h1⟩ := one_at hx
      obtain ⟨p, ys, rfl, hs, rv⟩ := lst_at hr h1 e1
      exact ⟨p, ys, ps, rfl, .inl (.inl hs), tupsP_of rv e2, hl, fun zs q ez hq => k _ ⟨st.μ, upd st.H q (.lst zs), st.S, st.F⟩ rfl (lay hr hq).1 (lay hr hq).2 (lay_lst hr hq (rep_tupsP ez))⟩
    · cases e3
  · cases hf
end
section
variable {X : Cx} {a : Expr} {ma : M} {mr : MG (List Val)} {pos p p2 pos2 : Pos}
theorem em_sortL (hu : X.A.units + 65 < cLine) (hm : X.mg "sorted" = none) (ha : PA X [a] (tA X.K mr)) (hg : Gl X "sorted" := by rfl) (he : starEach [a] X.env = (false, eval a X.env) :: starEach [] X.env := by rfl) (hpl : (backTo pos (starEach [] X.env)).any (·.1) = false := by rfl) : PE X (.Call (.Name "sorted" p) [a] [] pos) (tM X.K (mCall fSortL mr)) :=
  em_callB (cr_sortP hu) fSortL_M hg hm bt_sorted ha (by decide) (by decide) he hpl
theorem em_sortSet (hc : X.calm = true) (hu : X.A.units + 65 < cLine) (hm : X.mg "sorted" = none) (hm2 : X.mg "set" = none) (ha : PE X a (tM X.K ma)) (hg : Gl X "sorted" := by rfl) (hg2 : Gl X "set" := by rfl)
    (he : starEach [.Call (.Name "set" p2) [a] [] pos2] X.env = (false, eval (.Call (.Name "set" p2) [a] [] pos2) X.env) :: starEach [] X.env := by rfl) (he2 : starEach [a] X.env = (false, eval a X.env) :: starEach [] X.env := by rfl) (hpl : (backTo pos (starEach [] X.env)).any (·.1) = false := by rfl) :
    PE X (.Call (.Name "sorted" p) [.Call (.Name "set" p2) [a] [] pos2] [] pos) (tM X.K (mUn fSortSet ma)) := by
  refine PE.imp (pe_callB (cr_sortedP hc hu) hg hm bt_sorted (pa_cons (pe_callTy (cr_setP hc hu) hg2 hm2 bt_set (pa_cons ha pa_nil he2) (by decide) (by decide) he2 rfl) pa_nil he) (by decide) (by decide) he hpl) fun σ H Q h => ?_
  obtain ⟨st, ρ, v, S', rfl, hr, hρ, hmm, k⟩ := h
  simp only [mUn, Option.bind_eq_some_iff, Prod.exists] at hmm
  obtain ⟨va, S1, h1, h2⟩ := hmm
  refine ⟨st, ρ, va, S1, rfl, hr, hρ, h1, fun x st1 e1 l1 r1 x1 => ?_⟩
  subst e1
  unfold fSortSet at h2
  split at h2
  · rename_i xs
    simp only [Option.bind_eq_some_iff] at h2
    obtain ⟨ps, e2, e3⟩ := h2
    split at e3
    · rename_i hl
      obtain ⟨rfl, rfl⟩ : .lst ((sortP ps.eraseDups).map prV) = v ∧ st1.S = S' := by simpa using e3
      cases x1 with
      | @tup l ys _ ht rs =>
        obtain ⟨ks, k1, k2, k3⟩ := refs_of (tupsP_of rs e2)
        subst k1
        refine ⟨l, ks, rfl, ht.sq, k3, by rw [← k2, List.length_map] at hl; exact hl, fun b L hb s1 s2 nd => ?_⟩
        have la := lay (u := SetO X.prog X.w b L) r1 hb
        refine ⟨b, L, rfl, upd_same, fun z hz => la.1.tup _ _ (k3 z (s1 z hz)), fun zs q ez hq => ?_⟩
        have same : sortP (L.map (·.2)) = sortP ps.eraseDups := by
          refine sort_same ((List.perm_ext_iff_of_nodup nd (nodup_dups _ _ (Nat.le_refl _))).mpr fun y => ?_)
          rw [List.mem_eraseDups, ← k2]
          refine ⟨fun hy => ?_, fun hy => ?_⟩
          · obtain ⟨z, hz, rfl⟩ := List.mem_map.mp hy
            exact List.mem_map.mpr ⟨z, s1 z hz, rfl⟩
          · obtain ⟨z, hz, rfl⟩ := List.mem_map.mp hy
            exact s2 z hz
        rw [same] at ez
        have lb := lay (u := .lst zs) la.2 hq
        exact k _ ⟨st1.μ, upd (upd st1.H b (SetO X.prog X.w b L)) q (.lst zs), st1.S, st1.F⟩ rfl ((l1.trans la.1).trans lb.1) lb.2 (lay_lst la.2 hq (rep_tupsP ez))
    · cases e3
  · cases h2
end
end Cw
end
section
/-! CwN: the mirrors of the defs (printed by gen.py). -/
namespace Cw
open PySem PySem.Spec PyProof.Rows L2
def partsV : List Val := [.str "name", .str "wishes", .str "stand", .str "turn", .str "yours", .str "number", .str "plan", .str "refused", .str "given", .str "heard", .str "took", .str "last", .str "tries", .str "echoes", .str "why"]
def restK : List (Key × Val) := [(.inr "stand", .str "closed"), (.inr "number", .int 0), (.inr "plan", .tup []), (.inr "refused", .tup []), (.inr "given", .non), (.inr "heard", .int 0), (.inr "took", .non), (.inr "last", .non), (.inr "tries", .int 0)]
def s_law_pen : MS :=
  mRet (mDisp [(.inr "cells", mCall fList (mCons (mUn (fSlice none (some 63)) (mVar 0)) (mNil))), (.inr "at", mC (.int 0)), (.inr "left", mC (.int 0))])
def m_law_pen : FV := mBody 1 s_law_pen
def s_law_draw : MS :=
  mThen (mIfS (mT (mBin fGt (mBin fSub (mVar 0) (mC (.str "left"))) (mC (.int 0)))) (mThen (mAsg (mBin fModI (mBin fSub (mVar 0) (mC (.str "left"))) (mVar 1)) (mName 2))
  (mThen (mPut (mVar 0) (mC (.str "left")) (mBin fDivI (mBin fSub (mVar 0) (mC (.str "left"))) (mVar 1)))
  (mRet (mVar 2)))) (mNext))
  (mThen (mAsg (mBin fSub (mVar 0) (mC (.str "at"))) (mName 3))
  (mThen (mPut (mVar 0) (mC (.str "at")) (mBin fAddI (mVar 3) (mC (.int 1))))
  (mThen (mAsg (mBin fAddI (mBin fMulI (mC (.int 1951)) (mVar 3)) (mC (.int 701))) (mName 4))
  (mThen (mIfS (mT (mBin fNe (mBin fSub (mVar 0) (mC (.str "cells"))) (mLst (mNil)))) (mAsg (mBin fSub (mBin fSub (mVar 0) (mC (.str "cells"))) (mBin fModI (mVar 3) (mCall fLen (mCons (mBin fSub (mVar 0) (mC (.str "cells"))) (mNil))))) (mName 4)) (mNext))
  (mThen (mIfS (mAndT (mT (mBin fLt (mVar 3) (mCall fLen (mCons (mBin fSub (mVar 0) (mC (.str "cells"))) (mNil))))) (mT (mBin fGe (mCall fAbs (mCons (mVar 4) (mNil))) (mBin fPowI (mC (.int 10)) (mC (.int 18)))))) (mThen (mAsg (mBin fAddI (mBin fMulI (mC (.int 2)) (mCall fAbs (mCons (mVar 4) (mNil)))) (mCall fInt (mCons (mBin fLt (mVar 4) (mC (.int 0))) (mNil)))) (mName 5))
  (mThen (mPut (mVar 0) (mC (.str "left")) (mBin fDivI (mVar 5) (mVar 1)))
  (mRet (mBin fModI (mVar 5) (mVar 1))))) (mNext))
  (mThen (mAsg (mBin fModI (mBin fPowI (mBin fAddI (mBin fAddI (mBin fModI (mVar 4) (mC (.int 2147483563))) (mBin fMulI (mC (.int 70997)) (mVar 3))) (mC (.int 79))) (mC (.int 5))) (mC (.int 2147483647))) (mName 6))
  (mThen (mAsg (mBin fModI (mBin fPowI (mBin fAddI (mBin fMulI (mVar 6) (mBin fAddI (mVar 3) (mC (.int 65539)))) (mBin fMulI (mBin fMulI (mC (.int 85009)) (mVar 3)) (mVar 3))) (mC (.int 3))) (mC (.int 2147483399))) (mName 7))
  (mRet (mBin fModI (mBin fDivI (mVar 7) (mC (.int 32))) (mVar 1))))))))))
def m_law_draw : FV := mBody 8 s_law_draw
def s_law_kinds : MS :=
  mThen (mAsg (mLstN (mCons (mC (.str "a")) (mCons (mC (.str "aa")) (mCons (mC (.str "b")) (mCons (mC (.str "ba")) (mCons (mC (.str "c")) (mCons (mC (.str "k")) (mCons (mC (.str "l")) (mCons (mC (.str "o")) (mCons (mC (.str "zz")) (mCons (mC (.str "zzzzzzzz")) (mCons (mC (.str "m")) (mCons (mC (.str "ma")) (mNil)))))))))))))) (mName 2))
  (mRet (mLc (mRange (mCons (mVar 1) (mNil))) (mName 3) (mYes) (mMeth fPopAt (mVar 2) (mCons (mCallF 2 m_law_draw [] (mCons (mVar 0) (mCons (mCall fLen (mCons (mVar 2) (mNil))) (mNil)))) (mNil))) [3]))
def m_law_kinds : FV := mBody 4 s_law_kinds
def s_law_worths : MS :=
  mThen (mAsg (mLstN (mCons (mC (.int 0)) (mCons (mC (.int 1)) (mCons (mC (.int 2)) (mCons (mC (.int 3)) (mCons (mC (.int 7)) (mCons (mC (.int 10)) (mCons (mC (.int 9999)) (mCons (mC (.int 5000)) (mNil)))))))))) (mName 2))
  (mThen (mAsg (mLstN (mNil)) (mName 3))
  (mThen (mFor (mRange (mCons (mBin fAddI (mC (.int 1)) (mCallF 2 m_law_draw [] (mCons (mVar 0) (mCons (mVar 1) (mNil))))) (mNil))) (mName 4) (mDrop (mMeth fAppend (mVar 3) (mCons (mMeth fPopAt (mVar 2) (mCons (mCallF 2 m_law_draw [] (mCons (mVar 0) (mCons (mBin fSub (mLst (mCons (mCall fLen (mCons (mVar 2) (mNil))) (mCons (mCall fMin2 (mCons (mC (.int 4)) (mCons (mCall fLen (mCons (mVar 2) (mNil))) (mNil)))) (mNil)))) (mCallF 2 m_law_draw [] (mCons (mVar 0) (mCons (mC (.int 2)) (mNil))))) (mNil)))) (mNil))) (mNil)))))
  (mRet (mCall fTuple (mCons (mVar 3) (mNil))))))
def m_law_worths : FV := mBody 5 s_law_worths
def s_law_wishes : MS :=
  mThen (mAsg (mCall fListN (mCons (mVar 1) (mNil))) (mName 3))
  (mThen (mAsg (mLstN (mNil)) (mName 4))
  (mThen (mWhile 1000 (mT (mBin fNe (mVar 3) (mLst (mNil)))) (mThen (mAsg (mMeth fPopAt (mVar 3) (mCons (mCallF 2 m_law_draw [] (mCons (mVar 0) (mCons (mCall fLen (mCons (mVar 3) (mNil))) (mNil)))) (mNil))) (mName 5))
  (mThen (mAsg (mC .non) (mName 6))
  (mThen (mIfS (mAndT (mT (mBin fNe (mVar 4) (mLst (mNil)))) (mT (mBin fEq (mCallF 2 m_law_draw [] (mCons (mVar 0) (mCons (mC (.int 3)) (mNil)))) (mC (.int 0))))) (mThen (mAsg (mBin fSub (mVar 4) (mCallF 2 m_law_draw [] (mCons (mVar 0) (mCons (mCall fLen (mCons (mVar 4) (mNil))) (mNil))))) (mName 7))
  (mAsg (mTup (mCons (mBin fSub (mVar 7) (mC (.int 0))) (mCons (mBin fSub (mBin fCatT (mBin fSub (mVar 7) (mC (.int 1))) (mTup (mCons (mC (.int 4)) (mNil)))) (mCallF 2 m_law_draw [] (mCons (mVar 0) (mCons (mBin fAddI (mCall fLen (mCons (mBin fSub (mVar 7) (mC (.int 1))) (mNil))) (mC (.int 1))) (mNil))))) (mNil)))) (mName 6))) (mNext))
  (mDrop (mMeth fAppend (mVar 4) (mCons (mTup (mCons (mVar 5) (mCons (mCallF 2 m_law_worths [] (mCons (mVar 0) (mCons (mVar 2) (mNil)))) (mCons (mBin fEq (mCallF 2 m_law_draw [] (mCons (mVar 0) (mCons (mC (.int 3)) (mNil)))) (mC (.int 0))) (mCons (mVar 6) (mNil)))))) (mNil))))))))
  (mRet (mCall fTuple (mCons (mVar 4) (mNil))))))
def m_law_wishes : FV := mBody 8 s_law_wishes
def s_law_bounds : MS :=
  mThen (mAsg (mLstN (mNil)) (mName 3))
  (mThen (mFor (mSeq (mVar 1)) (mName 4) (mIfS (mT (mBin fGt (mCallF 2 m_law_draw [] (mCons (mVar 0) (mCons (mC (.int 5)) (mNil)))) (mC (.int 0)))) (mDrop (mMeth fAppend (mVar 3) (mCons (mTup (mCons (mVar 4) (mCons (mCallF 2 m_law_worths [] (mCons (mVar 0) (mCons (mVar 2) (mNil)))) (mNil)))) (mNil)))) (mNext)))
  (mThen (mIfS (mT (mBin fEq (mCallF 2 m_law_draw [] (mCons (mVar 0) (mCons (mC (.int 4)) (mNil)))) (mC (.int 0)))) (mDrop (mMeth fAppend (mVar 3) (mCons (mTup (mCons (mC (.str "qq")) (mCons (mTup (mCons (mC (.int 1)) (mNil))) (mNil)))) (mNil)))) (mNext))
  (mRet (mCall fTuple (mCons (mVar 3) (mNil))))))
def m_law_bounds : FV := mBody 5 s_law_bounds
def s_law_books : MS :=
  mThen (mAsg (mCallF 2 m_law_kinds [] (mCons (mVar 0) (mCons (mCallF 2 m_law_draw [] (mCons (mVar 0) (mCons (mBin fAddI (mVar 1) (mC (.int 1))) (mNil)))) (mNil)))) (mName 3))
  (mThen (mAsg (mCallF 2 m_law_kinds [] (mCons (mVar 0) (mCons (mCallF 2 m_law_draw [] (mCons (mVar 0) (mCons (mBin fAddI (mVar 1) (mC (.int 1))) (mNil)))) (mNil)))) (mName 4))
  (mThen (mAsg (mTup (mCons (mCallF 3 m_law_wishes [] (mCons (mVar 0) (mCons (mVar 3) (mCons (mVar 2) (mNil))))) (mCons (mCallF 3 m_law_bounds [] (mCons (mVar 0) (mCons (mVar 4) (mCons (mVar 2) (mNil))))) (mNil)))) (mName 5))
  (mRet (mTup (mCons (mVar 5) (mCons (mTup (mCons (mCallF 3 m_law_wishes [] (mCons (mVar 0) (mCons (mVar 4) (mCons (mVar 2) (mNil))))) (mCons (mCallF 3 m_law_bounds [] (mCons (mVar 0) (mCons (mVar 3) (mCons (mVar 2) (mNil))))) (mNil)))) (mNil)))))))
def m_law_books : FV := mBody 6 s_law_books
def s_as_end : MS :=
  mThen (mAsg (mIf (mAndT (mT (mBin fIsNot (mBin fSub (mVar 0) (mC (.str "given"))) (mC .non))) (mT (mBin fIsNot (mBin fSub (mVar 0) (mC (.str "took"))) (mC .non)))) (mC (.str "open")) (mC (.str "asking"))) (mName 1))
  (mThen (mAsg (mIf (mT (mBin fEq (mBin fSub (mVar 0) (mC (.str "stand"))) (mC (.str "closed")))) (mBin fSub (mVar 0) (mC (.str "stand"))) (mVar 1)) (mName 2))
  (mRet (mCall fTuple (mCons (mLc (mSeq (mC (.tup partsV))) (mName 3) (mYes) (mIf (mT (mBin fEq (mVar 3) (mC (.str "stand")))) (mVar 2) (mBin fSub (mVar 0) (mVar 3))) [3]) (mNil)))))
def m_as_end : FV := mBody 4 s_as_end
def s_new_end : MS :=
  mThen (mAsg (mDictC restK) (mName 2))
  (mThen (mDrop (mUpd (mVar 2) (mDisp [(.inr "name", mVar 0), (.inr "wishes", mVar 1), (.inr "turn", mC (.int 0)), (.inr "yours", mC (.int 0)), (.inr "echoes", mC (.int 0)), (.inr "why", mC (.str "new"))])))
  (mRet (mCallF 1 m_as_end [] (mCons (mVar 2) (mNil)))))
def m_new_end : FV := mBody 3 s_new_end
def s_law_two : MS :=
  mThen (mAsg (mCallF 2 m_law_kinds [] (mCons (mVar 0) (mCons (mC (.int 2)) (mNil)))) (mName 1))
  (mThen (mAsg (mCallF 3 m_law_books [] (mCons (mVar 0) (mCons (mBin fSub (mLst (mCons (mC (.int 1)) (mCons (mC (.int 2)) (mCons (mC (.int 3)) (mCons (mC (.int 3)) (mNil)))))) (mCallF 2 m_law_draw [] (mCons (mVar 0) (mCons (mC (.int 4)) (mNil))))) (mCons (mBin fSub (mLst (mCons (mC (.int 2)) (mCons (mC (.int 3)) (mCons (mC (.int 4)) (mNil))))) (mCallF 2 m_law_draw [] (mCons (mVar 0) (mCons (mC (.int 3)) (mNil))))) (mNil))))) (mName 2))
  (mThen (mAsg (mBin fAddI (mC (.int 2)) (mBin fSub (mLst (mCons (mC (.int 0)) (mCons (mC (.int 1)) (mCons (mC (.int 1)) (mCons (mC (.int 7)) (mNil)))))) (mCallF 2 m_law_draw [] (mCons (mVar 0) (mCons (mC (.int 4)) (mNil)))))) (mName 3))
  (mThen (mAsg (mDisp [(.inr "names", mVar 1), (.inr "air", mLstN (mNil)), (.inr "fresh", mLst (mNil)), (.inr "altered", mLst (mNil)), (.inr "books", mVar 2)]) (mName 4))
  (mThen (mPut (mVar 4) (mC (.str "many")) (mVar 3))
  (mThen (mFor (mZip false false true (mCons (mVar 1) (mCons (mVar 2) (mNil)))) (mTTup 2 (mTCons (mName 5) (mTCons (mName 6) (mTNil)))) (mPut (mVar 4) (mVar 5) (mCallF 2 m_new_end [] (mCons (mVar 5) (mCons (mBin fSub (mVar 6) (mC (.int 0))) (mNil))))))
  (mRet (mVar 4)))))))
def m_law_two : FV := mBody 7 s_law_two
def s_law_done : MS :=
  mThen (mAsg (mBin fSub (mBin fSub (mVar 0) (mC (.str "names"))) (mVar 1)) (mName 3))
  (mThen (mPut (mVar 0) (mVar 3) (mBin fSub (mVar 2) (mC (.int 0))))
  (mThen (mPut (mVar 0) (mC (.str "air")) (mBin fCatN (mBin fSub (mVar 0) (mC (.str "air"))) (mLc (mSeq (mBin fSub (mVar 2) (mC (.int 1)))) (mName 4) (mYes) (mTup (mCons (mBin fSubI (mC (.int 1)) (mVar 1)) (mCons (mVar 4) (mNil)))) [4])))
  (mPut (mVar 0) (mC (.str "fresh")) (mBin fCatL (mBin fSub (mVar 0) (mC (.str "fresh"))) (mBin fSub (mVar 2) (mC (.int 1)))))))
def m_law_done : FV := mBody 5 s_law_done
def s_known_of : MS :=
  mRet (mCall fDictZip (mCons (mC (.tup partsV)) (mCons (mVar 0) (mNil))))
def m_known_of : FV := mBody 1 s_known_of
def s_written : MS :=
  mRet (mTup (mCons (mBin fSub (mVar 0) (mC (.str "name"))) (mCons (mVar 1) (mCons (mBin fSub (mVar 0) (mC (.str "turn"))) (mCons (mBin fSub (mVar 0) (mC (.str "yours"))) (mCons (mVar 2) (mCons (mVar 3) (mNil))))))))
def m_written : FV := mBody 4 s_written
def s_ask_of : MS :=
  mThen (mAsg (mLstN (mNil)) (mName 2))
  (mThen (mFor (mZip false true true (mCons (mVar 0) (mCons (mVar 1) (mNil)))) (mTTup 2 (mTCons (mTTup 4 (mTCons (mName 3) (mTCons (mName 4) (mTCons (mName 5) (mTCons (mName 6) (mTNil)))))) (mTCons (mTTup 2 (mTCons (mName 7) (mTCons (mName 8) (mTNil)))) (mTNil)))) (mIfS (mAndT (mT (mBin fNe (mVar 8) (mTup (mNil)))) (mOrT (mT (mBin fIs (mVar 6) (mC .non))) (mT (mBin fIn (mVar 6) (mVar 2))))) (mDrop (mMeth fAppend (mVar 2) (mCons (mTup (mCons (mVar 3) (mCons (mBin fSub (mVar 8) (mC (.int 0))) (mNil)))) (mNil)))) (mNext)))
  (mRet (mCall fTuple (mCons (mVar 2) (mNil)))))
def m_ask_of : FV := mBody 9 s_ask_of
def s_ask_written : MS :=
  mRet (mCallK 4 2 2 m_written (fun as bs => as ++ bs) (mCons (mVar 0) (mCons (mC (.str "ask")) (mNil))) (mCons (mBin fSub (mVar 0) (mC (.str "number"))) (mCons (mCallF 2 m_ask_of [] (mCons (mBin fSub (mVar 0) (mC (.str "wishes"))) (mCons (mBin fSub (mVar 0) (mC (.str "plan"))) (mNil)))) (mNil))))
def m_ask_written : FV := mBody 1 s_ask_written
def s_left_of : MS :=
  mThen (mIfS (mT (mBin fIn (mTup (mCons (mVar 0) (mCons (mC (.int (-1))) (mNil)))) (mVar 2))) (mRet (mTup (mNil))) (mNext))
  (mRet (mCall fTuple (mCons (mLc (mSeq (mVar 1)) (mName 3) (mT (mBin fNotIn (mTup (mCons (mVar 0) (mCons (mVar 3) (mNil)))) (mVar 2))) (mVar 3) [3]) (mNil))))
def m_left_of : FV := mBody 4 s_left_of
def s_plan_of : MS :=
  mRet (mCall fTuple (mCons (mLc (mSeq (mVar 0)) (mTTup 4 (mTCons (mName 2) (mTCons (mName 3) (mTCons (mName 4) (mTCons (mName 5) (mTNil)))))) (mYes) (mTup (mCons (mVar 2) (mCons (mCallF 3 m_left_of [] (mCons (mVar 2) (mCons (mVar 3) (mCons (mVar 1) (mNil))))) (mNil)))) [2, 3, 4, 5]) (mNil)))
def m_plan_of : FV := mBody 6 s_plan_of
def s_begin : MS :=
  mThen (mDrop (mUpd (mVar 0) (mDictC restK)))
  (mThen (mDrop (mUpd (mVar 0) (mDisp [(.inr "stand", mC (.str "asking")), (.inr "number", mC (.int 1)), (.inr "plan", mCallF 2 m_plan_of [.tup []] (mCons (mBin fSub (mVar 0) (mC (.str "wishes"))) (mNil))), (.inr "tries", mVar 1), (.inr "why", mC (.str ""))])))
  (mRet (mLstN (mCons (mCallF 1 m_ask_written [] (mCons (mVar 0) (mNil))) (mNil)))))
def m_begin : FV := mBody 2 s_begin
def s_opened : MS :=
  mThen (mAsg (mCallF 1 m_known_of [] (mCons (mVar 0) (mNil))) (mName 2))
  (mThen (mIfS (mT (mBin fNe (mBin fSub (mVar 2) (mC (.str "stand"))) (mC (.str "closed")))) (mNever) (mNext))
  (mThen (mDrop (mUpd (mVar 2) (mDisp [(.inr "turn", mBin fAddI (mBin fSub (mVar 2) (mC (.str "turn"))) (mC (.int 1))), (.inr "echoes", mC (.int 0))])))
  (mThen (mAsg (mCallF 2 m_begin [] (mCons (mVar 2) (mCons (mVar 1) (mNil)))) (mName 3))
  (mRet (mTup (mCons (mCallF 1 m_as_end [] (mCons (mVar 2) (mNil))) (mCons (mFree (mVar 3)) (mNil))))))))
def m_opened : FV := mBody 4 s_opened
def s_shut : MS :=
  mThen (mAsg (mIf (mT (mVar 2)) (mLst (mCons (mCallF 4 m_written [.int 0, .tup []] (mCons (mVar 0) (mCons (mC (.str "bye")) (mNil)))) (mNil))) (mLst (mNil))) (mName 3))
  (mThen (mDrop (mUpd (mVar 0) (mDictC restK)))
  (mThen (mPut (mVar 0) (mC (.str "why")) (mVar 1))
  (mRet (mVar 3))))
def m_shut : FV := mBody 4 s_shut
def s_closing : MS :=
  mThen (mAsg (mCallF 1 m_known_of [] (mCons (mVar 0) (mNil))) (mName 1))
  (mThen (mIfS (mT (mBin fEq (mBin fSub (mVar 1) (mC (.str "stand"))) (mC (.str "closed")))) (mNever) (mNext))
  (mThen (mAsg (mCallF 3 m_shut [.bl true] (mCons (mVar 1) (mCons (mC (.str "closed")) (mNil)))) (mName 2))
  (mRet (mTup (mCons (mCallF 1 m_as_end [] (mCons (mVar 1) (mNil))) (mCons (mVar 2) (mNil)))))))
def m_closing : FV := mBody 3 s_closing
def s_has_failed : MS :=
  mRet (mCall fAny (mCons (mLc (mZip true true true (mCons (mVar 0) (mCons (mVar 1) (mNil)))) (mTTup 2 (mTCons (mTTup 4 (mTCons (mName 2) (mTCons (mName 3) (mTCons (mName 4) (mTCons (mName 5) (mTNil)))))) (mTCons (mTTup 2 (mTCons (mName 6) (mTCons (mName 7) (mTNil)))) (mTNil)))) (mYes) (mAndV (mVar 4) (mBin fEq (mVar 7) (mTup (mNil)))) [2, 3, 4, 5, 6, 7]) (mNil)))
def m_has_failed : FV := mBody 8 s_has_failed
def s_wished : MS :=
  mThen (mAsg (mCallF 1 m_known_of [] (mCons (mVar 0) (mNil))) (mName 3))
  (mThen (mPut (mVar 3) (mC (.str "wishes")) (mVar 1))
  (mThen (mIfS (mT (mBin fEq (mBin fSub (mVar 3) (mC (.str "stand"))) (mC (.str "closed")))) (mRet (mTup (mCons (mCallF 1 m_as_end [] (mCons (mVar 3) (mNil))) (mCons (mLst (mNil)) (mNil))))) (mNext))
  (mThen (mPut (mVar 3) (mC (.str "plan")) (mCallK 2 1 1 m_plan_of (fun as bs => as ++ bs) (mCons (mVar 1) (mNil)) (mCons (mBin fSub (mVar 3) (mC (.str "refused"))) (mNil))))
  (mThen (mIfS (mT (mCallF 2 m_has_failed [] (mCons (mVar 1) (mCons (mBin fSub (mVar 3) (mC (.str "plan"))) (mNil))))) (mThen (mAsg (mCallF 3 m_shut [.bl true] (mCons (mVar 3) (mCons (mC (.str "failed")) (mNil)))) (mName 4))
  (mRet (mTup (mCons (mCallF 1 m_as_end [] (mCons (mVar 3) (mNil))) (mCons (mVar 4) (mNil)))))) (mNext))
  (mThen (mDrop (mUpd (mVar 3) (mDisp [(.inr "number", mBin fAddI (mBin fSub (mVar 3) (mC (.str "number"))) (mC (.int 1))), (.inr "given", mC .non), (.inr "tries", mVar 2)])))
  (mRet (mTup (mCons (mCallF 1 m_as_end [] (mCons (mVar 3) (mNil))) (mCons (mLst (mCons (mCallF 1 m_ask_written [] (mCons (mVar 3) (mNil))) (mNil))) (mNil))))))))))
def m_wished : FV := mBody 5 s_wished
def s_ticked : MS :=
  mThen (mAsg (mCallF 1 m_known_of [] (mCons (mVar 0) (mNil))) (mName 1))
  (mThen (mIfS (mT (mBin fEq (mBin fSub (mVar 1) (mC (.str "stand"))) (mC (.str "closed")))) (mRet (mTup (mCons (mVar 0) (mCons (mLst (mNil)) (mNil))))) (mNext))
  (mThen (mIfS (mT (mBin fEq (mBin fSub (mVar 1) (mC (.str "tries"))) (mC (.int 0)))) (mThen (mAsg (mCallF 3 m_shut [.bl true] (mCons (mVar 1) (mCons (mC (.str "tries")) (mNil)))) (mName 2))
  (mRet (mTup (mCons (mCallF 1 m_as_end [] (mCons (mVar 1) (mNil))) (mCons (mVar 2) (mNil)))))) (mNext))
  (mThen (mAugD (· - ·) (mVar 1) (mC (.str "tries")) (mC (.int 1)))
  (mRet (mTup (mCons (mCallF 1 m_as_end [] (mCons (mVar 1) (mNil))) (mCons (mLst (mCons (mIf (mT (mBin fIs (mBin fSub (mVar 1) (mC (.str "given"))) (mC .non))) (mCallF 1 m_ask_written [] (mCons (mVar 1) (mNil))) (mCallF 4 m_written [.int 0, .tup []] (mCons (mVar 1) (mCons (mC (.str "here")) (mNil))))) (mNil))) (mNil))))))))
def m_ticked : FV := mBody 3 s_ticked
def s_law_of_itself : MS :=
  mThen (mAsg (mBin fSub (mVar 1) (mBin fSub (mBin fSub (mVar 1) (mC (.str "names"))) (mVar 2))) (mName 4))
  (mIfS (mT (mBin fEq (mBin fSub (mVar 4) (mC (.int 2))) (mC (.str "closed")))) (mDrop (mCallF 3 m_law_done [] (mCons (mVar 1) (mCons (mVar 2) (mCons (mCallK 2 1 1 m_opened (fun as bs => as ++ bs) (mCons (mVar 4) (mNil)) (mCons (mBin fSub (mVar 1) (mC (.str "many"))) (mNil))) (mNil)))))) (mIfS (mT (mBin fEq (mVar 3) (mC (.int 0)))) (mDrop (mCallF 3 m_law_done [] (mCons (mVar 1) (mCons (mVar 2) (mCons (mCallF 1 m_closing [] (mCons (mVar 4) (mNil))) (mNil)))))) (mIfS (mT (mBin fEq (mVar 3) (mC (.int 1)))) (mThen (mAsg (mCallF 3 m_law_wishes [] (mCons (mVar 0) (mCons (mLc (mSeq (mBin fSub (mVar 4) (mC (.int 1)))) (mName 6) (mT (mBin fGt (mCallF 2 m_law_draw [] (mCons (mVar 0) (mCons (mC (.int 4)) (mNil)))) (mC (.int 0)))) (mBin fSub (mVar 6) (mC (.int 0))) [6]) (mCons (mC (.int 3)) (mNil))))) (mName 5))
  (mThen (mPut (mVar 1) (mC (.str "altered")) (mBin fCatL (mBin fSub (mVar 1) (mC (.str "altered"))) (mLst (mCons (mBin fSub (mVar 4) (mC (.int 0))) (mNil)))))
  (mDrop (mCallF 3 m_law_done [] (mCons (mVar 1) (mCons (mVar 2) (mCons (mCallK 3 2 1 m_wished (fun as bs => as ++ bs) (mCons (mVar 4) (mCons (mVar 5) (mNil))) (mCons (mBin fSub (mVar 1) (mC (.str "many"))) (mNil))) (mNil)))))))) (mDrop (mCallF 3 m_law_done [] (mCons (mVar 1) (mCons (mVar 2) (mCons (mCallF 1 m_ticked [] (mCons (mVar 4) (mNil))) (mNil)))))))))
def m_law_of_itself : FV := mBody 7 s_law_of_itself
def s_heard_echo : MS :=
  mThen (mIfS (mT (mBin fNe (mBin fSub (mVar 0) (mC (.str "stand"))) (mC (.str "closed")))) (mThen (mAugD (· + ·) (mVar 0) (mC (.str "echoes")) (mC (.int 1)))
  (mIfS (mT (mBin fEq (mBin fSub (mVar 0) (mC (.str "echoes"))) (mC (.int 3)))) (mRet (mCallK 3 2 1 m_shut (fun as bs => as ++ bs) (mCons (mVar 0) (mCons (mC (.str "echo")) (mNil))) (mCons (mC (.bl false)) (mNil)))) (mNext))) (mNext))
  (mRet (mLst (mNil)))
def m_heard_echo : FV := mBody 1 s_heard_echo
def s_letter_back : MS :=
  mThen (mAsg (mVar 0) (mTTup 6 (mTCons (mName 2) (mTCons (mName 3) (mTCons (mName 4) (mTCons (mName 5) (mTCons (mName 6) (mTCons (mName 7) (mTNil)))))))))
  (mRet (mTup (mCons (mVar 1) (mCons (mC (.str "bye")) (mCons (mVar 5) (mCons (mVar 4) (mCons (mC (.int 0)) (mCons (mTup (mNil)) (mNil)))))))))
def m_letter_back : FV := mBody 8 s_letter_back
def s_heard_closed : MS :=
  mThen (mAsg (mVar 1) (mTStar 5 4 (mTCons (mName 2) (mTCons (mName 3) (mTCons (mName 4) (mTCons (mName 5) (mTCons (mName 6) (mTNil))))))))
  (mThen (mIfS (mOrT (mT (mBin fEq (mVar 5) (mC (.int 0)))) (mOrT (mT (mBin fNe (mVar 5) (mBin fSub (mVar 0) (mC (.str "turn"))))) (mT (mBin fEq (mVar 3) (mC (.str "bye")))))) (mRet (mLst (mNil))) (mNext))
  (mRet (mLst (mCons (mCallF 2 m_letter_back [] (mCons (mVar 1) (mCons (mBin fSub (mVar 0) (mC (.str "name"))) (mNil)))) (mNil)))))
def m_heard_closed : FV := mBody 7 s_heard_closed
def s_is_tuple : MS :=
  mRet (mAndV (mUn (fIsi "tuple") (mVar 0)) (mChain fLe fLe (mVar 1) (mCall fLen (mCons (mVar 0) (mNil))) (mVar 2)))
def m_is_tuple : FV := mBody 3 s_is_tuple
def s_is_name : MS :=
  mRet (mAndV (mUn (fIsi "str") (mVar 0)) (mAndV (mChain fLe fLe (mC (.int 1)) (mCall fLen (mCons (mVar 0) (mNil))) (mC (.int 8))) (mCall fAll (mCons (mLc (mSigns (mVar 0)) (mName 1) (mYes) (mBin fIn (mVar 1) (mC (.str "abcdefghijklmnopqrstuvwxyz"))) [1]) (mNil)))))
def m_is_name : FV := mBody 2 s_is_name
def s_is_worth : MS :=
  mRet (mAndV (mUn (fIsi "int") (mVar 0)) (mAndV (mNotV (mUn (fIsi "bool") (mVar 0))) (mChain fLe fLe (mC (.int 0)) (mVar 0) (mC (.int 9999)))))
def m_is_worth : FV := mBody 1 s_is_worth
def s_is_pair : MS :=
  mRet (mAndV (mCallF 3 m_is_tuple [] (mCons (mVar 0) (mCons (mC (.int 2)) (mCons (mC (.int 2)) (mNil))))) (mAndV (mCallF 1 m_is_name [] (mCons (mBin fSub (mVar 0) (mC (.int 0))) (mNil))) (mCallF 1 m_is_worth [] (mCons (mBin fSub (mVar 0) (mC (.int 1))) (mNil)))))
def m_is_pair : FV := mBody 1 s_is_pair
def s_are_pairs : MS :=
  mRet (mAndV (mUn (fIsi "tuple") (mVar 0)) (mCall fAll (mCons (mLc (mSeq (mVar 0)) (mName 1) (mYes) (mCallF 1 m_is_pair [] (mCons (mVar 1) (mNil))) [1]) (mNil))))
def m_are_pairs : FV := mBody 2 s_are_pairs
def s_is_said : MS :=
  mRet (mAndV (mCallF 3 m_is_tuple [] (mCons (mVar 0) (mCons (mC (.int 2)) (mCons (mC (.int 2)) (mNil))))) (mAndV (mUn (fIsi "str") (mBin fSub (mVar 0) (mC (.int 0)))) (mCallF 1 m_are_pairs [] (mCons (mBin fSub (mVar 0) (mC (.int 1))) (mNil)))))
def m_is_said : FV := mBody 1 s_is_said
def s_kinds_in : MS :=
  mRet (mLc (mSeq (mVar 0)) (mTTup 2 (mTCons (mName 1) (mTCons (mName 2) (mTNil)))) (mYes) (mVar 1) [1, 2])
def m_kinds_in : FV := mBody 3 s_kinds_in
def s_are_refusals : MS :=
  mThen (mAsg (mCallF 1 m_kinds_in [] (mCons (mVar 2) (mNil))) (mName 3))
  (mThen (mIfS (mOrT (mT (mBin fEq (mVar 1) (mTup (mNil)))) (mNotT (mT (mCall fAll (mCons (mLc (mSeq (mCallF 1 m_kinds_in [] (mCons (mVar 1) (mNil)))) (mName 5) (mYes) (mBin fIn (mVar 5) (mVar 3)) [5]) (mNil)))))) (mRet (mC (.bl false))) (mNext))
  (mThen (mAsg (mLc (mSeq (mCallF 1 m_kinds_in [] (mCons (mVar 1) (mNil)))) (mName 5) (mYes) (mMeth fIndex (mVar 3) (mCons (mVar 5) (mNil))) [5]) (mName 4))
  (mThen (mIfS (mNotT (mT (mCall fAll (mCons (mLc (mZip false false false (mCons (mVar 4) (mCons (mUn (fSlice (some 1) none) (mVar 4)) (mNil)))) (mTTup 2 (mTCons (mName 7) (mTCons (mName 8) (mTNil)))) (mYes) (mBin fLt (mVar 7) (mVar 8)) [7, 8]) (mNil))))) (mRet (mC (.bl false))) (mNext))
  (mRet (mCall fAll (mCons (mLc (mSeq (mVar 1)) (mName 6) (mYes) (mBin fEq (mBin fIn (mVar 6) (mVar 2)) (mBin fEq (mVar 0) (mC (.str "no")))) [6]) (mNil)))))))
def m_are_refusals : FV := mBody 9 s_are_refusals
def s_left_behind : MS :=
  mThen (mIfS (mT (mBin fEq (mVar 0) (mC (.str "no")))) (mRet (mTup (mNil))) (mNext))
  (mThen (mAsg (mUn (fSlice (some 1) none) (mVar 2)) (mName 3))
  (mThen (mIfS (mT (mBin fNotIn (mVar 1) (mVar 3))) (mRet (mVar 3)) (mNext))
  (mRet (mBin fCatT (mTup (mCons (mVar 1) (mNil))) (mCall fTuple (mCons (mLc (mSeq (mVar 3)) (mName 4) (mT (mBin fNe (mVar 4) (mVar 1))) (mVar 4) [4]) (mNil)))))))
def m_left_behind : FV := mBody 5 s_left_behind
def s_behind : MS :=
  mThen (mIfS (mNotT (mT (mCallF 1 m_is_said [] (mCons (mVar 2) (mNil))))) (mRet (mC .non)) (mNext))
  (mThen (mAsg (mVar 2) (mTTup 2 (mTCons (mName 3) (mTCons (mName 4) (mTNil)))))
  (mThen (mAsg (mCallF 2 m_ask_of [] (mCons (mVar 0) (mCons (mVar 1) (mNil)))) (mName 5))
  (mThen (mIfS (mT (mBin fEq (mVar 3) (mC (.str "yes")))) (mRet (mIf (mT (mBin fEq (mVar 4) (mVar 5))) (mTup (mCons (mC (.str "agreed")) (mCons (mVar 5) (mNil)))) (mC .non))) (mNext))
  (mThen (mIfS (mOrT (mT (mBin fNotIn (mVar 3) (mTup (mCons (mC (.str "no")) (mCons (mC (.str "rather")) (mNil)))))) (mNotT (mT (mCallF 3 m_are_refusals [] (mCons (mVar 3) (mCons (mVar 4) (mCons (mVar 5) (mNil)))))))) (mRet (mC .non)) (mNext))
  (mThen (mAsg (mCall fDict (mCons (mVar 1) (mNil))) (mName 6))
  (mThen (mDrop (mUpd (mVar 6) (mDc (mSeq (mVar 4)) (mTTup 2 (mTCons (mName 10) (mTCons (mName 14) (mTNil)))) (mYes) (mVar 10) (mCallF 3 m_left_behind [] (mCons (mVar 3) (mCons (mVar 14) (mCons (mBin fSub (mVar 6) (mVar 10)) (mNil))))) [10, 14])))
  (mThen (mAsg (mLc (mSeq (mVar 0)) (mTTup 4 (mTCons (mName 10) (mTCons (mName 11) (mTCons (mName 12) (mTCons (mName 13) (mTNil)))))) (mAndT (mT (mVar 12)) (mT (mBin fEq (mBin fSub (mVar 6) (mVar 10)) (mTup (mNil))))) (mVar 10) [10, 11, 12, 13]) (mName 7))
  (mThen (mIfS (mT (mBin fNe (mVar 7) (mLst (mNil)))) (mRet (mTup (mCons (mC (.str "failed")) (mCons (mBin fSub (mVar 7) (mC (.int 0))) (mNil))))) (mNext))
  (mThen (mAsg (mCall fDict (mCons (mVar 5) (mNil))) (mName 8))
  (mThen (mAsg (mCall fSortL (mCons (mLc (mSeq (mVar 4)) (mTTup 2 (mTCons (mName 10) (mTCons (mName 14) (mTNil)))) (mYes) (mTup (mCons (mVar 10) (mCons (mIf (mT (mBin fEq (mVar 3) (mC (.str "no")))) (mC (.int (-1))) (mBin fSub (mVar 8) (mVar 10))) (mNil)))) [10, 14]) (mNil))) (mName 9))
  (mRet (mTup (mCons (mC (.str "plan")) (mCons (mCall fTuple (mCons (mLc (mSeq (mVar 1)) (mTTup 2 (mTCons (mName 10) (mTCons (mName 15) (mTNil)))) (mYes) (mTup (mCons (mVar 10) (mCons (mBin fSub (mVar 6) (mVar 10)) (mNil)))) [10, 15]) (mNil))) (mCons (mCall fTuple (mCons (mVar 9) (mNil))) (mNil))))))))))))))))
def m_behind : FV := mBody 16 s_behind
def s_heard_answer : MS :=
  mThen (mAsg (mVar 1) (mTTup 6 (mTCons (mName 3) (mTCons (mName 4) (mTCons (mName 5) (mTCons (mName 6) (mTCons (mName 7) (mTCons (mName 8) (mTNil)))))))))
  (mThen (mIfS (mOrT (mT (mBin fNe (mVar 7) (mBin fSub (mVar 0) (mC (.str "number"))))) (mT (mBin fIsNot (mBin fSub (mVar 0) (mC (.str "given"))) (mC .non)))) (mRet (mLst (mNil))) (mNext))
  (mThen (mAsg (mCallF 3 m_behind [] (mCons (mBin fSub (mVar 0) (mC (.str "wishes"))) (mCons (mBin fSub (mVar 0) (mC (.str "plan"))) (mCons (mTup (mCons (mVar 4) (mCons (mVar 8) (mNil)))) (mNil))))) (mName 9))
  (mThen (mIfS (mT (mBin fIs (mVar 9) (mC .non))) (mRet (mLst (mNil))) (mNext))
  (mThen (mAsg (mVar 9) (mTStar 2 1 (mTCons (mName 10) (mTCons (mName 11) (mTNil)))))
  (mThen (mIfS (mT (mBin fEq (mVar 10) (mC (.str "failed")))) (mRet (mCallF 3 m_shut [.bl true] (mCons (mVar 0) (mCons (mC (.str "failed")) (mNil))))) (mNext))
  (mThen (mPut (mVar 0) (mC (.str "tries")) (mVar 2))
  (mThen (mIfS (mT (mBin fEq (mVar 10) (mC (.str "agreed")))) (mThen (mPut (mVar 0) (mC (.str "given")) (mBin fSub (mVar 11) (mC (.int 0))))
  (mRet (mLst (mNil)))) (mNext))
  (mThen (mAsg (mVar 11) (mTLst 2 (mTCons (mName 12) (mTCons (mName 13) (mTNil)))))
  (mThen (mDrop (mUpd (mVar 0) (mDisp [(.inr "plan", mVar 12), (.inr "refused", mCall fTuple (mCons (mUn fSortSet (mBin fCatT (mBin fSub (mVar 0) (mC (.str "refused"))) (mVar 13))) (mNil)))])))
  (mThen (mAugD (· + ·) (mVar 0) (mC (.str "number")) (mC (.int 1)))
  (mRet (mLst (mCons (mCallF 1 m_ask_written [] (mCons (mVar 0) (mNil))) (mNil))))))))))))))
def m_heard_answer : FV := mBody 14 s_heard_answer
def s_answer : MS :=
  mThen (mAsg (mCall fDict (mCons (mVar 0) (mNil))) (mName 2))
  (mThen (mAsg (mCall fTuple (mCons (mLc (mSeq (mVar 1)) (mName 5) (mT (mBin fNotIn (mBin fSub (mVar 5) (mC (.int 0))) (mVar 2))) (mVar 5) [5]) (mNil))) (mName 3))
  (mThen (mIfS (mT (mBin fNe (mVar 3) (mTup (mNil)))) (mRet (mTup (mCons (mC (.str "no")) (mCons (mVar 3) (mNil))))) (mNext))
  (mThen (mAsg (mCall fTuple (mCons (mLc (mSeq (mVar 1)) (mTTup 2 (mTCons (mName 6) (mTCons (mName 7) (mTNil)))) (mT (mBin fNotIn (mVar 7) (mBin fSub (mVar 2) (mVar 6)))) (mTup (mCons (mVar 6) (mCons (mBin fSub (mBin fSub (mVar 2) (mVar 6)) (mC (.int 0))) (mNil)))) [6, 7]) (mNil))) (mName 4))
  (mRet (mIf (mT (mBin fNe (mVar 4) (mTup (mNil)))) (mTup (mCons (mC (.str "rather")) (mCons (mVar 4) (mNil)))) (mTup (mCons (mC (.str "yes")) (mCons (mVar 1) (mNil)))))))))
def m_answer : FV := mBody 8 s_answer
def s_heard_ask : MS :=
  mThen (mAsg (mVar 1) (mTStar 3 0 (mTCons (mName 3) (mTCons (mName 4) (mTCons (mName 5) (mTNil))))))
  (mThen (mIfS (mT (mBin fLt (mVar 4) (mBin fSub (mVar 0) (mC (.str "heard"))))) (mRet (mLst (mNil))) (mNext))
  (mThen (mIfS (mT (mBin fGt (mVar 4) (mBin fSub (mVar 0) (mC (.str "heard"))))) (mThen (mAsg (mCallF 2 m_answer [] (mCons (mVar 2) (mCons (mVar 5) (mNil)))) (mTTup 2 (mTCons (mName 6) (mTCons (mName 7) (mTNil)))))
  (mThen (mDrop (mUpd (mVar 0) (mDisp [(.inr "heard", mVar 4), (.inr "took", mIf (mT (mBin fEq (mVar 6) (mC (.str "yes")))) (mVar 5) (mC .non))])))
  (mPut (mVar 0) (mC (.str "last")) (mCallK 4 2 2 m_written (fun as bs => as ++ bs) (mCons (mVar 0) (mCons (mVar 6) (mNil))) (mCons (mVar 4) (mCons (mVar 7) (mNil))))))) (mNext))
  (mRet (mLst (mCons (mBin fSub (mVar 0) (mC (.str "last"))) (mNil))))))
def m_heard_ask : FV := mBody 8 s_heard_ask
def s_heard_word : MS :=
  mThen (mAsg (mBin fSub (mVar 1) (mC (.int 1))) (mName 4))
  (mThen (mIfS (mT (mBin fEq (mVar 4) (mC (.str "ask")))) (mRet (mCallF 3 m_heard_ask [] (mCons (mVar 0) (mCons (mVar 1) (mCons (mVar 2) (mNil)))))) (mNext))
  (mThen (mIfS (mT (mBin fEq (mVar 4) (mC (.str "bye")))) (mRet (mCallK 3 2 1 m_shut (fun as bs => as ++ bs) (mCons (mVar 0) (mCons (mC (.str "bye")) (mNil))) (mCons (mC (.bl false)) (mNil)))) (mNext))
  (mThen (mIfS (mT (mBin fEq (mVar 4) (mC (.str "here")))) (mRet (mLst (mCons (mCallF 4 m_written [.int 0, .tup []] (mCons (mVar 0) (mCons (mC (.str "there")) (mNil)))) (mNil)))) (mNext))
  (mThen (mIfS (mT (mBin fEq (mVar 4) (mC (.str "there")))) (mThen (mPut (mVar 0) (mC (.str "tries")) (mVar 3))
  (mRet (mLst (mNil)))) (mNext))
  (mRet (mCallF 3 m_heard_answer [] (mCons (mVar 0) (mCons (mVar 1) (mCons (mVar 3) (mNil))))))))))
def m_heard_word : FV := mBody 5 s_heard_word
def s_heard : MS :=
  mThen (mAsg (mCallF 1 m_known_of [] (mCons (mVar 0) (mNil))) (mName 4))
  (mThen (mAsg (mVar 1) (mTStar 5 4 (mTCons (mName 5) (mTCons (mName 6) (mTCons (mName 7) (mTCons (mName 8) (mTCons (mName 9) (mTNil))))))))
  (mThen (mIfS (mT (mBin fEq (mVar 5) (mBin fSub (mVar 4) (mC (.str "name"))))) (mThen (mAsg (mCallF 1 m_heard_echo [] (mCons (mVar 4) (mNil))) (mName 10))
  (mRet (mTup (mCons (mCallF 1 m_as_end [] (mCons (mVar 4) (mNil))) (mCons (mFree (mVar 10)) (mNil)))))) (mNext))
  (mThen (mIfS (mT (mBin fEq (mBin fSub (mVar 4) (mC (.str "stand"))) (mC (.str "closed")))) (mRet (mTup (mCons (mVar 0) (mCons (mCallF 2 m_heard_closed [] (mCons (mVar 4) (mCons (mVar 1) (mNil)))) (mNil))))) (mNext))
  (mThen (mAsg (mLstN (mNil)) (mName 10))
  (mThen (mIfS (mT (mBin fGt (mVar 7) (mBin fSub (mVar 4) (mC (.str "yours"))))) (mThen (mPut (mVar 4) (mC (.str "yours")) (mVar 7))
  (mAsg (mCallF 2 m_begin [] (mCons (mVar 4) (mCons (mVar 3) (mNil)))) (mName 10))) (mNext))
  (mThen (mIfS (mAndT (mT (mBin fEq (mVar 7) (mBin fSub (mVar 4) (mC (.str "yours"))))) (mT (mBin fEq (mVar 8) (mBin fSub (mVar 4) (mC (.str "turn")))))) (mDrop (mMeth fExtend (mVar 10) (mCons (mCallF 4 m_heard_word [] (mCons (mVar 4) (mCons (mVar 1) (mCons (mVar 2) (mCons (mVar 3) (mNil)))))) (mNil)))) (mNext))
  (mRet (mTup (mCons (mCallF 1 m_as_end [] (mCons (mVar 4) (mNil))) (mCons (mFree (mVar 10)) (mNil)))))))))))
def m_heard : FV := mBody 11 s_heard
def s_law_comes : MS :=
  mThen (mAsg (mMeth fPopAt (mBin fSub (mVar 0) (mC (.str "air"))) (mCons (mVar 1) (mNil))) (mTTup 2 (mTCons (mName 2) (mTCons (mName 3) (mTNil)))))
  (mThen (mAsg (mBin fSub (mBin fSub (mVar 0) (mC (.str "names"))) (mVar 2)) (mName 4))
  (mDrop (mCallF 3 m_law_done [] (mCons (mVar 0) (mCons (mVar 2) (mCons (mCallK 4 3 1 m_heard (fun as bs => as ++ bs) (mCons (mBin fSub (mVar 0) (mVar 4)) (mCons (mVar 3) (mCons (mBin fSub (mBin fSub (mBin fSub (mVar 0) (mC (.str "books"))) (mVar 2)) (mC (.int 1))) (mNil)))) (mCons (mBin fSub (mVar 0) (mC (.str "many"))) (mNil))) (mNil)))))))
def m_law_comes : FV := mBody 5 s_law_comes
def s_law_led : MS :=
  mThen (mAsg (mCallF 2 m_law_draw [] (mCons (mVar 0) (mCons (mC (.int 12)) (mNil)))) (mName 2))
  (mThen (mAsg (mCallF 2 m_law_draw [] (mCons (mVar 0) (mCons (mC (.int 2)) (mNil)))) (mName 3))
  (mThen (mAsg (mBin fSub (mLst (mCons (mC (.int 0)) (mCons (mC (.int 0)) (mCons (mCallF 2 m_law_draw [] (mCons (mVar 0) (mCons (mCall fMax2 (mCons (mC (.int 1)) (mCons (mCall fLen (mCons (mBin fSub (mVar 1) (mC (.str "air"))) (mNil))) (mNil)))) (mNil)))) (mNil))))) (mCallF 2 m_law_draw [] (mCons (mVar 0) (mCons (mC (.int 3)) (mNil))))) (mName 4))
  (mIfS (mOrT (mT (mBin fEq (mBin fSub (mVar 1) (mC (.str "air"))) (mLst (mNil)))) (mT (mBin fGt (mVar 2) (mC (.int 9))))) (mDrop (mCallF 4 m_law_of_itself [] (mCons (mVar 0) (mCons (mVar 1) (mCons (mVar 3) (mCons (mCallF 2 m_law_draw [] (mCons (mVar 0) (mCons (mC (.int 9)) (mNil)))) (mNil))))))) (mIfS (mT (mBin fEq (mVar 2) (mC (.int 0)))) (mDrop (mMeth fPopAt (mBin fSub (mVar 1) (mC (.str "air"))) (mCons (mVar 4) (mNil)))) (mIfS (mT (mBin fEq (mVar 2) (mC (.int 1)))) (mDrop (mMeth fAppend (mBin fSub (mVar 1) (mC (.str "air"))) (mCons (mBin fSub (mBin fSub (mVar 1) (mC (.str "air"))) (mVar 4)) (mNil)))) (mDrop (mCallF 2 m_law_comes [] (mCons (mVar 1) (mCons (mVar 4) (mNil))))))))))
def m_law_led : FV := mBody 5 s_law_led
def s_law_asks_right : MS :=
  mThen (mAsg (mSetd (mVar 0) (mCons (mBin fSub (mVar 1) (mC (.int 0))) (mCons (mBin fSub (mVar 1) (mC (.int 3))) (mCons (mBin fSub (mVar 1) (mC (.int 4))) (mNil)))) (mDisp [(.inr "refused", mTup (mNil)), (.inr "asks", mNewK), (.inr "is_other", mC (.bl false))])) (mName 4))
  (mThen (mIfS (mT (mBin fEq (mBin fSub (mVar 1) (mC (.int 2))) (mC (.str "closed")))) (mRet (mC (.bl true))) (mNext))
  (mThen (mPut (mVar 4) (mC (.str "is_other")) (mOrV (mBin fSub (mVar 4) (mC (.str "is_other"))) (mVar 3)))
  (mThen (mIfS (mOrT (mT (mBin fNe (mLc (mSeq (mBin fSub (mVar 4) (mC (.str "refused")))) (mName 14) (mT (mBin fNotIn (mVar 14) (mBin fSub (mVar 1) (mC (.int 7))))) (mVar 14) [14]) (mLst (mNil)))) (mT (mBin fNe (mCall fList (mCons (mBin fSub (mVar 1) (mC (.int 7))) (mNil))) (mUn fSortSet (mBin fSub (mVar 1) (mC (.int 7))))))) (mRet (mC (.bl false))) (mNext))
  (mThen (mPut (mVar 4) (mC (.str "refused")) (mBin fSub (mVar 1) (mC (.int 7))))
  (mThen (mFor (mSeq (mBin fSub (mVar 1) (mC (.int 6)))) (mTTup 2 (mTCons (mName 5) (mTCons (mName 6) (mTNil)))) (mIfS (mOrT (mAndT (mT (mBin fNe (mVar 6) (mTup (mNil)))) (mT (mBin fIn (mTup (mCons (mVar 5) (mCons (mUn fNeg (mC (.int 1))) (mNil)))) (mBin fSub (mVar 1) (mC (.int 7)))))) (mT (mBin fNe (mLc (mSeq (mVar 6)) (mName 16) (mT (mBin fIn (mTup (mCons (mVar 5) (mCons (mVar 16) (mNil)))) (mBin fSub (mVar 1) (mC (.int 7))))) (mVar 16) [16]) (mLst (mNil))))) (mRet (mC (.bl false))) (mNext)))
  (mThen (mFor (mSeq (mVar 2)) (mTTup 6 (mTCons (mName 7) (mTCons (mName 8) (mTCons (mName 9) (mTCons (mName 10) (mTCons (mName 11) (mTCons (mName 12) (mTNil)))))))) (mIfS (mT (mBin fEq (mVar 8) (mC (.str "ask")))) (mThen (mIfS (mT (mBin fNe (mLc (mSeq (mVar 12)) (mName 14) (mOrT (mT (mBin fIn (mVar 14) (mBin fSub (mVar 1) (mC (.int 7))))) (mT (mBin fIn (mTup (mCons (mBin fSub (mVar 14) (mC (.int 0))) (mCons (mUn fNeg (mC (.int 1))) (mNil)))) (mBin fSub (mVar 1) (mC (.int 7)))))) (mVar 14) [14]) (mLst (mNil)))) (mRet (mC (.bl false))) (mNext))
  (mThen (mIfS (mOrT (mT (mBin fNe (mGet2 (mBin fSub (mVar 4) (mC (.str "asks"))) (mVar 11) (mVar 12)) (mVar 12))) (mT (mBin fGt (mVar 11) (mBin fAddI (mC (.int 1)) (mCall fMaxL (mCons (mBin fCatL (mLst (mCons (mC (.int 0)) (mNil))) (mCall fKeys (mCons (mBin fSub (mVar 4) (mC (.str "asks"))) (mNil)))) (mNil))))))) (mRet (mC (.bl false))) (mNext))
  (mPut (mBin fSub (mVar 4) (mC (.str "asks"))) (mVar 11) (mVar 12)))) (mNext)))
  (mThen (mAsg (mBin fAddI (mC (.int 1)) (mCall fSum (mCons (mLc (mSeq (mBin fSub (mVar 1) (mC (.int 1)))) (mName 15) (mYes) (mCall fLen (mCons (mBin fSub (mVar 15) (mC (.int 1))) (mNil))) [15]) (mNil)))) (mName 13))
  (mRet (mOrV (mBin fSub (mVar 4) (mC (.str "is_other"))) (mBin fLe (mCall fLenD (mCons (mBin fSub (mVar 4) (mC (.str "asks"))) (mNil))) (mVar 13)))))))))))
def m_law_asks_right : FV := mBody 17 s_law_asks_right
def s_law_both_right : MS :=
  mThen (mFor (mSeq (mBin fSub (mVar 1) (mC (.str "names")))) (mName 2) (mThen (mAsg (mLc (mSeq (mBin fSub (mVar 1) (mC (.str "fresh")))) (mName 4) (mT (mBin fEq (mBin fSub (mVar 4) (mC (.int 0))) (mVar 2))) (mVar 4) [4]) (mName 3))
  (mIfS (mNotT (mT (mCallF 4 m_law_asks_right [] (mCons (mVar 0) (mCons (mBin fSub (mVar 1) (mVar 2)) (mCons (mVar 3) (mCons (mBin fIn (mVar 2) (mBin fSub (mVar 1) (mC (.str "altered")))) (mNil)))))))) (mRet (mC (.bl false))) (mNext))))
  (mThen (mDrop (mUpd (mVar 1) (mDisp [(.inr "fresh", mLst (mNil)), (.inr "altered", mLst (mNil))])))
  (mRet (mC (.bl true))))
def m_law_both_right : FV := mBody 5 s_law_both_right
def s_law_ticks_right : MS :=
  mThen (mAsg (mBin fSub (mVar 0) (mC (.int 12))) (mName 1))
  (mThen (mFor (mRange (mCons (mBin fMulI (mVar 1) (mCall fInt (mCons (mBin fNe (mBin fSub (mVar 0) (mC (.int 2))) (mC (.str "closed"))) (mNil)))) (mNil))) (mName 2) (mThen (mAsg (mCallF 1 m_ticked [] (mCons (mVar 0) (mNil))) (mTTup 2 (mTCons (mName 0) (mTCons (mName 3) (mTNil)))))
  (mIfS (mOrT (mT (mBin fNe (mCall fLen (mCons (mVar 3) (mNil))) (mC (.int 1)))) (mOrT (mT (mBin fNotIn (mBin fSub (mBin fSub (mVar 3) (mC (.int 0))) (mC (.int 1))) (mTup (mCons (mC (.str "ask")) (mCons (mC (.str "here")) (mNil)))))) (mOrT (mT (mBin fEq (mBin fSub (mVar 0) (mC (.int 2))) (mC (.str "closed")))) (mT (mBin fNe (mBin fSub (mVar 0) (mC (.int 12))) (mBin fSubI (mBin fSubI (mVar 1) (mVar 2)) (mC (.int 1)))))))) (mRet (mC (.bl false))) (mNext))))
  (mThen (mAsg (mCallF 1 m_ticked [] (mCons (mVar 0) (mNil))) (mTTup 2 (mTCons (mName 4) (mTCons (mName 3) (mTNil)))))
  (mThen (mIfS (mT (mBin fEq (mBin fSub (mVar 0) (mC (.int 2))) (mC (.str "closed")))) (mRet (mAndV (mBin fEq (mVar 4) (mVar 0)) (mBin fEq (mVar 3) (mLst (mNil))))) (mNext))
  (mRet (mAndV (mBin fEq (mBin fSub (mVar 4) (mC (.int 2))) (mC (.str "closed"))) (mAndV (mBin fEq (mBin fSub (mVar 4) (mC (.int 14))) (mC (.str "tries"))) (mBin fEq (mLc (mSeq (mVar 3)) (mName 5) (mYes) (mBin fSub (mVar 5) (mC (.int 1))) [5]) (mLst (mCons (mC (.str "bye")) (mNil))))))))))
def m_law_ticks_right : FV := mBody 6 s_law_ticks_right
def s_law : MS :=
  mThen (mAsg (mCallF 1 m_law_pen [] (mCons (mVar 0) (mNil))) (mName 1))
  (mThen (mFor (mRange (mCons (mC (.int 2)) (mNil))) (mName 2) (mThen (mAsg (mCallF 1 m_law_two [] (mCons (mVar 1) (mNil))) (mName 3))
  (mThen (mAsg (mNewT) (mName 4))
  (mThen (mFor (mSeq (mTup (mCons (mC (.int 0)) (mCons (mC (.int 1)) (mNil))))) (mName 5) (mThen (mDrop (mCallF 4 m_law_of_itself [] (mCons (mVar 1) (mCons (mVar 3) (mCons (mVar 5) (mCons (mC (.int 9)) (mNil)))))))
  (mIfS (mNotT (mT (mCallF 2 m_law_both_right [] (mCons (mVar 4) (mCons (mVar 3) (mNil)))))) (mRet (mC (.bl false))) (mNext))))
  (mThen (mFor (mRange (mCons (mBin fSub (mLst (mCons (mC (.int 20)) (mCons (mC (.int 60)) (mCons (mCallF 2 m_law_draw [] (mCons (mVar 1) (mCons (mC (.int 41)) (mNil)))) (mNil))))) (mCallF 2 m_law_draw [] (mCons (mVar 1) (mCons (mC (.int 3)) (mNil))))) (mNil))) (mName 6) (mThen (mDrop (mCallF 2 m_law_led [] (mCons (mVar 1) (mCons (mVar 3) (mNil)))))
  (mIfS (mNotT (mT (mCallF 2 m_law_both_right [] (mCons (mVar 4) (mCons (mVar 3) (mNil)))))) (mRet (mC (.bl false))) (mNext))))
  (mIfS (mT (mBin fNe (mLc (mSeq (mBin fSub (mVar 3) (mC (.str "names")))) (mName 7) (mNotT (mT (mCallF 1 m_law_ticks_right [] (mCons (mBin fSub (mVar 3) (mVar 7)) (mNil))))) (mVar 7) [7]) (mLst (mNil)))) (mRet (mC (.bl false))) (mNext)))))))
  (mRet (mC (.bl true))))
def m_law : FV := mBody 8 s_law
end Cw
end
section
namespace Cw
open PySem PySem.Spec PyProof.Rows L2
structure Txt (P : Program) (w : World) (K : PySem.W.Frag) (mg : Str → Option Value) : Prop where
  n_abs : mg "abs" = none
  n_all : mg "all" = none
  n_any : mg "any" = none
  n_bool : mg "bool" = none
  n_dict : mg "dict" = none
  n_int : mg "int" = none
  n_isinstance : mg "isinstance" = none
  n_len : mg "len" = none
  n_list : mg "list" = none
  n_max : mg "max" = none
  n_min : mg "min" = none
  n_range : mg "range" = none
  n_set : mg "set" = none
  n_sorted : mg "sorted" = none
  n_str : mg "str" = none
  n_sum : mg "sum" = none
  n_tuple : mg "tuple" = none
  n_zip : mg "zip" = none
  g_LONGEST : ∃ t, mg "LONGEST" = some (.int 8 t)
  g_GREATEST : ∃ t, mg "GREATEST" = some (.int 9999 t)
  g_ALL : ∃ t, mg "ALL" = some (.int (-1) t)
  g_MOST_ECHOES : ∃ t, mg "MOST_ECHOES" = some (.int 3 t)
  g_LETTERS : ∃ t, mg "LETTERS" = some (.str "abcdefghijklmnopqrstuvwxyz" t)
  g_PARTS : ∃ (a : Addr) (xs : List V), mg "PARTS" = some (.ref a) ∧ (∀ H, TupS K H a xs) ∧ ∀ st, RepVs K st xs partsV
  g_REST : ∃ (a : Addr) (ks : List (Key × V)), mg "AT_REST" = some (.ref a) ∧ KDk P w K a ks ∧ ks.length ≤ 1000 ∧ ∀ st, RepK K st ks restK
end Cw
end
section
namespace Cw
open PySem PySem.Spec PyProof.Rows L2
abbrev st_law_pen : Stmt := PySem.Challenge.pw_crossedwishes_k39_whole_nothing_refused.main.body.getD 50 (.Pass ⟨0, 0, 0, 0⟩)
abbrev N_law_pen : List Str := ["_law_script"]
theorem sc_law_pen : FnScope N_law_pen ["_law_script"] (defScope st_law_pen) := ⟨rfl, rfl, rfl, by decide +kernel, rfl, by decide +kernel, by decide +kernel⟩
theorem ok_law_pen {P : Program} {w : World} {K : PySem.W.Frag} {mg : Str → Option Value} {base : Heap} {f : Addr} {fd : FuncData} {dvs : List V} {kws : List (Str × V)} (T : Txt P w K mg) (F : FunD K "_law_pen" "_law_pen" (defArgs st_law_pen) (defBody st_law_pen) (defScope st_law_pen) dvs kws f fd)  : FnOk P w K mg base CX0 1 f fd ["_law_script"] (spM K 1 m_law_pen) := by
  refine def_ok F sc_law_pen fun cdv A outer s H E hr => ?_
  have hu := hu_room hr
  have nd := sc_law_pen.nd
  exact (sms_one (sm_ret (em_disp (ppm_cons (em_list T.n_list (am_cons (em_slice (em_var (pv 0)) pk_none pk_int) am_nil)) (ppm_cons em_int (ppm_cons em_int ppm_nil))))))
abbrev st_law_draw : Stmt := PySem.Challenge.pw_crossedwishes_k39_whole_nothing_refused.main.body.getD 51 (.Pass ⟨0, 0, 0, 0⟩)
abbrev N_law_draw : List Str := ["_law_pen_here", "_law_many", "_law_found", "_law_at", "_law_cell", "_law_whole", "_law_one", "_law_two_here"]
theorem sc_law_draw : FnScope N_law_draw ["_law_pen_here", "_law_many"] (defScope st_law_draw) := ⟨rfl, rfl, rfl, by decide +kernel, rfl, by decide +kernel, by decide +kernel⟩
theorem ok_law_draw {P : Program} {w : World} {K : PySem.W.Frag} {mg : Str → Option Value} {base : Heap} {f : Addr} {fd : FuncData} {dvs : List V} {kws : List (Str × V)} (T : Txt P w K mg) (F : FunD K "_law_draw" "_law_draw" (defArgs st_law_draw) (defBody st_law_draw) (defScope st_law_draw) dvs kws f fd)  : FnOk P w K mg base CX0 1 f fd ["_law_pen_here", "_law_many"] (spM K 2 m_law_draw) := by
  refine def_ok F sc_law_draw fun cdv A outer s H E hr => ?_
  have hu := hu_room hr
  have nd := sc_law_draw.nd
  exact (sms_cons (sm_if (tm_cmp (cm_gt (em_sub hu (em_var (pv 0)) em_str) em_int)) (sms_cons (sm_asg (em_modI (em_sub hu (em_var (pv 0)) em_str) (em_var (pv 1))) (gm_name nd rfl (by first | exact .inl rfl | exact .inr rfl)))
    (sms_cons (sm_put hu (em_var (pv 0)) em_str (em_divI (em_sub hu (em_var (pv 0)) em_str) (em_var (pv 1))))
    (sms_one (sm_ret (em_var (pv 2)))))) sms_nil)
    (sms_cons (sm_asg (em_sub hu (em_var (pv 0)) em_str) (gm_name nd rfl (by first | exact .inl rfl | exact .inr rfl)))
    (sms_cons (sm_put hu (em_var (pv 0)) em_str (em_addI (em_var (pv 3)) em_int))
    (sms_cons (sm_asg (em_addI (em_mulI em_int (em_var (pv 3))) em_int) (gm_name nd rfl (by first | exact .inl rfl | exact .inr rfl)))
    (sms_cons (sm_if (tm_cmp (cm_ne hu (em_sub hu (em_var (pv 0)) em_str) (em_lst am_nil))) (sms_one (sm_asg (em_sub hu (em_sub hu (em_var (pv 0)) em_str) (em_modI (em_var (pv 3)) (em_len T.n_len (am_cons (em_sub hu (em_var (pv 0)) em_str) am_nil)))) (gm_name nd rfl (by first | exact .inl rfl | exact .inr rfl)))) sms_nil)
    (sms_cons (sm_if (PW.pt (wm_and (tm_cmp (cm_lt (em_var (pv 3)) (em_len T.n_len (am_cons (em_sub hu (em_var (pv 0)) em_str) am_nil)))) (wm_and1 (tm_cmp (cm_ge (em_abs T.n_abs (am_cons (em_var (pv 4)) am_nil)) (em_powI em_int em_int)))))) (sms_cons (sm_asg (em_addI (em_mulI em_int (em_abs T.n_abs (am_cons (em_var (pv 4)) am_nil))) (em_int1 T.n_int (am_cons (em_cmp (cm_lt (em_var (pv 4)) em_int)) am_nil))) (gm_name nd rfl (by first | exact .inl rfl | exact .inr rfl)))
    (sms_cons (sm_put hu (em_var (pv 0)) em_str (em_divI (em_var (pv 5)) (em_var (pv 1))))
    (sms_one (sm_ret (em_modI (em_var (pv 5)) (em_var (pv 1))))))) sms_nil)
    (sms_cons (sm_asg (em_modI (em_powI (em_addI (em_addI (em_modI (em_var (pv 4)) em_int) (em_mulI em_int (em_var (pv 3)))) em_int) em_int) em_int) (gm_name nd rfl (by first | exact .inl rfl | exact .inr rfl)))
    (sms_cons (sm_asg (em_modI (em_powI (em_addI (em_mulI (em_var (pv 6)) (em_addI (em_var (pv 3)) em_int)) (em_mulI (em_mulI em_int (em_var (pv 3))) (em_var (pv 3)))) em_int) em_int) (gm_name nd rfl (by first | exact .inl rfl | exact .inr rfl)))
    (sms_one (sm_ret (em_modI (em_divI (em_var (pv 7)) em_int) (em_var (pv 1)))))))))))))
abbrev st_law_kinds : Stmt := PySem.Challenge.pw_crossedwishes_k39_whole_nothing_refused.main.body.getD 52 (.Pass ⟨0, 0, 0, 0⟩)
abbrev N_law_kinds : List Str := ["_law_pen_here", "_law_many", "_law_some", "_law_k"]
theorem sc_law_kinds : FnScope N_law_kinds ["_law_pen_here", "_law_many"] (defScope st_law_kinds) := ⟨rfl, rfl, rfl, by decide +kernel, rfl, by decide +kernel, by decide +kernel⟩
theorem ok_law_kinds {P : Program} {w : World} {K : PySem.W.Frag} {mg : Str → Option Value} {base : Heap} {f : Addr} {fd : FuncData} {dvs : List V} {kws : List (Str × V)} (T : Txt P w K mg) (F : FunD K "_law_kinds" "_law_kinds" (defArgs st_law_kinds) (defBody st_law_kinds) (defScope st_law_kinds) dvs kws f fd) (c_law_draw : Callee P w K mg base "_law_draw" 1 [] 2 m_law_draw) : FnOk P w K mg base CX0 2 f fd ["_law_pen_here", "_law_many"] (spM K 2 m_law_kinds) := by
  refine def_ok F sc_law_kinds fun cdv A outer s H E hr => ?_
  have hu := hu_room hr
  have nd := sc_law_kinds.nd
  exact (sms_cons (sm_asg (em_lstN (am_cons em_str (am_cons em_str (am_cons em_str (am_cons em_str (am_cons em_str (am_cons em_str (am_cons em_str (am_cons em_str (am_cons em_str (am_cons em_str (am_cons em_str (am_cons em_str am_nil))))))))))))) (gm_name nd rfl (by first | exact .inl rfl | exact .inr rfl)))
    (sms_one (sm_ret (em_lc (own := [("_law_k", 3)]) rfl nd (im_range rfl T.n_range (am_cons (em_var (pv 1)) am_nil)) (blkOk_by (N := N_law_kinds) (sc := defScope st_law_kinds) (by decide +kernel)) (fun _ _ _ _ _ => (gm_name nd rfl (by first | exact .inl rfl | exact .inr rfl))) (fun _ _ _ _ _ => ptm_nil) (fun _ _ _ _ _ => (em_popAt (em_var (pv 2)) (am_cons (em_call c_law_draw (hr.mono (by decide)) (am_cons (em_var (pv 0)) (am_cons (em_len T.n_len (am_cons (em_var (pv 2)) am_nil)) am_nil))) am_nil)))))))
abbrev st_law_worths : Stmt := PySem.Challenge.pw_crossedwishes_k39_whole_nothing_refused.main.body.getD 53 (.Pass ⟨0, 0, 0, 0⟩)
abbrev N_law_worths : List Str := ["_law_pen_here", "_law_most", "_law_some", "_law_found", "_law_k"]
theorem sc_law_worths : FnScope N_law_worths ["_law_pen_here", "_law_most"] (defScope st_law_worths) := ⟨rfl, rfl, rfl, by decide +kernel, rfl, by decide +kernel, by decide +kernel⟩
theorem ok_law_worths {P : Program} {w : World} {K : PySem.W.Frag} {mg : Str → Option Value} {base : Heap} {f : Addr} {fd : FuncData} {dvs : List V} {kws : List (Str × V)} (T : Txt P w K mg) (F : FunD K "_law_worths" "_law_worths" (defArgs st_law_worths) (defBody st_law_worths) (defScope st_law_worths) dvs kws f fd) (c_law_draw : Callee P w K mg base "_law_draw" 1 [] 2 m_law_draw) : FnOk P w K mg base CX0 2 f fd ["_law_pen_here", "_law_most"] (spM K 2 m_law_worths) := by
  refine def_ok F sc_law_worths fun cdv A outer s H E hr => ?_
  have hu := hu_room hr
  have nd := sc_law_worths.nd
  exact (sms_cons (sm_asg (em_lstN (am_cons em_int (am_cons em_int (am_cons em_int (am_cons em_int (am_cons em_int (am_cons em_int (am_cons em_int (am_cons em_int am_nil))))))))) (gm_name nd rfl (by first | exact .inl rfl | exact .inr rfl)))
    (sms_cons (sm_asg (em_lstN am_nil) (gm_name nd rfl (by first | exact .inl rfl | exact .inr rfl)))
    (sms_cons (sm_for PassesOwn.never rfl (im_range rfl T.n_range (am_cons (em_addI em_int (em_call c_law_draw (hr.mono (by decide)) (am_cons (em_var (pv 0)) (am_cons (em_var (pv 1)) am_nil)))) am_nil)) (gm_name nd rfl (by first | exact .inl rfl | exact .inr rfl)) (sms_one (sm_expr (em_append (em_var (pv 3)) (am_cons (em_popAt (em_var (pv 2)) (am_cons (em_call c_law_draw (hr.mono (by decide)) (am_cons (em_var (pv 0)) (am_cons (em_sub hu (em_lst (am_cons (em_len T.n_len (am_cons (em_var (pv 2)) am_nil)) (am_cons (em_min2 rfl T.n_min (am_cons em_int (am_cons (em_len T.n_len (am_cons (em_var (pv 2)) am_nil)) am_nil))) am_nil))) (em_call c_law_draw (hr.mono (by decide)) (am_cons (em_var (pv 0)) (am_cons em_int am_nil)))) am_nil))) am_nil)) am_nil)))))
    (sms_one (sm_ret (em_tuple T.n_tuple (am_cons (em_var (pv 3)) am_nil)))))))
abbrev st_law_wishes : Stmt := PySem.Challenge.pw_crossedwishes_k39_whole_nothing_refused.main.body.getD 54 (.Pass ⟨0, 0, 0, 0⟩)
abbrev N_law_wishes : List Str := ["_law_pen_here", "_law_kinds_here", "_law_most", "_law_left", "_law_found", "_law_kind", "_law_needs", "_law_ahead"]
theorem sc_law_wishes : FnScope N_law_wishes ["_law_pen_here", "_law_kinds_here", "_law_most"] (defScope st_law_wishes) := ⟨rfl, rfl, rfl, by decide +kernel, rfl, by decide +kernel, by decide +kernel⟩
theorem ok_law_wishes {P : Program} {w : World} {K : PySem.W.Frag} {mg : Str → Option Value} {base : Heap} {f : Addr} {fd : FuncData} {dvs : List V} {kws : List (Str × V)} (T : Txt P w K mg) (F : FunD K "_law_wishes" "_law_wishes" (defArgs st_law_wishes) (defBody st_law_wishes) (defScope st_law_wishes) dvs kws f fd) (c_law_draw : Callee P w K mg base "_law_draw" 1 [] 2 m_law_draw) (c_law_worths : Callee P w K mg base "_law_worths" 2 [] 2 m_law_worths) : FnOk P w K mg base CX0 3 f fd ["_law_pen_here", "_law_kinds_here", "_law_most"] (spM K 3 m_law_wishes) := by
  refine def_ok F sc_law_wishes fun cdv A outer s H E hr => ?_
  have hu := hu_room hr
  have nd := sc_law_wishes.nd
  exact (sms_cons (sm_asg (em_listN T.n_list (am_cons (em_var (pv 1)) am_nil)) (gm_name nd rfl (by first | exact .inl rfl | exact .inr rfl)))
    (sms_cons (sm_asg (em_lstN am_nil) (gm_name nd rfl (by first | exact .inl rfl | exact .inr rfl)))
    (sms_cons (sm_while 1000 PassesOwn.never (tm_cmp (cm_ne hu (em_var (pv 3)) (em_lst am_nil))) (sms_cons (sm_asg (em_popAt (em_var (pv 3)) (am_cons (em_call c_law_draw (hr.mono (by decide)) (am_cons (em_var (pv 0)) (am_cons (em_len T.n_len (am_cons (em_var (pv 3)) am_nil)) am_nil))) am_nil)) (gm_name nd rfl (by first | exact .inl rfl | exact .inr rfl)))
    (sms_cons (sm_asg em_non (gm_name nd rfl (by first | exact .inl rfl | exact .inr rfl)))
    (sms_cons (sm_if (PW.pt (wm_and (tm_cmp (cm_ne hu (em_var (pv 4)) (em_lst am_nil))) (wm_and1 (tm_cmp (cm_eq hu (em_call c_law_draw (hr.mono (by decide)) (am_cons (em_var (pv 0)) (am_cons em_int am_nil))) em_int))))) (sms_cons (sm_asg (em_sub hu (em_var (pv 4)) (em_call c_law_draw (hr.mono (by decide)) (am_cons (em_var (pv 0)) (am_cons (em_len T.n_len (am_cons (em_var (pv 4)) am_nil)) am_nil)))) (gm_name nd rfl (by first | exact .inl rfl | exact .inr rfl)))
    (sms_one (sm_asg (em_tup (am_cons (em_sub hu (em_var (pv 7)) em_int) (am_cons (em_sub hu (em_catT (em_sub hu (em_var (pv 7)) em_int) (em_tup (am_cons em_int am_nil))) (em_call c_law_draw (hr.mono (by decide)) (am_cons (em_var (pv 0)) (am_cons (em_addI (em_len T.n_len (am_cons (em_sub hu (em_var (pv 7)) em_int) am_nil)) em_int) am_nil)))) am_nil))) (gm_name nd rfl (by first | exact .inl rfl | exact .inr rfl))))) sms_nil)
    (sms_one (sm_expr (em_append (em_var (pv 4)) (am_cons (em_tup (am_cons (em_var (pv 5)) (am_cons (em_call c_law_worths (hr.mono (by decide)) (am_cons (em_var (pv 0)) (am_cons (em_var (pv 2)) am_nil))) (am_cons (em_cmp (cm_eq hu (em_call c_law_draw (hr.mono (by decide)) (am_cons (em_var (pv 0)) (am_cons em_int am_nil))) em_int)) (am_cons (em_var (pv 6)) am_nil))))) am_nil))))))))
    (sms_one (sm_ret (em_tuple T.n_tuple (am_cons (em_var (pv 4)) am_nil)))))))
abbrev st_law_bounds : Stmt := PySem.Challenge.pw_crossedwishes_k39_whole_nothing_refused.main.body.getD 55 (.Pass ⟨0, 0, 0, 0⟩)
abbrev N_law_bounds : List Str := ["_law_pen_here", "_law_kinds_here", "_law_most", "_law_found", "_law_kind"]
theorem sc_law_bounds : FnScope N_law_bounds ["_law_pen_here", "_law_kinds_here", "_law_most"] (defScope st_law_bounds) := ⟨rfl, rfl, rfl, by decide +kernel, rfl, by decide +kernel, by decide +kernel⟩
theorem ok_law_bounds {P : Program} {w : World} {K : PySem.W.Frag} {mg : Str → Option Value} {base : Heap} {f : Addr} {fd : FuncData} {dvs : List V} {kws : List (Str × V)} (T : Txt P w K mg) (F : FunD K "_law_bounds" "_law_bounds" (defArgs st_law_bounds) (defBody st_law_bounds) (defScope st_law_bounds) dvs kws f fd) (c_law_draw : Callee P w K mg base "_law_draw" 1 [] 2 m_law_draw) (c_law_worths : Callee P w K mg base "_law_worths" 2 [] 2 m_law_worths) : FnOk P w K mg base CX0 3 f fd ["_law_pen_here", "_law_kinds_here", "_law_most"] (spM K 3 m_law_bounds) := by
  refine def_ok F sc_law_bounds fun cdv A outer s H E hr => ?_
  have hu := hu_room hr
  have nd := sc_law_bounds.nd
  exact (sms_cons (sm_asg (em_lstN am_nil) (gm_name nd rfl (by first | exact .inl rfl | exact .inr rfl)))
    (sms_cons (sm_for PassesOwn.never rfl (im_seq (em_var (pv 1))) (gm_name nd rfl (by first | exact .inl rfl | exact .inr rfl)) (sms_one (sm_if (tm_cmp (cm_gt (em_call c_law_draw (hr.mono (by decide)) (am_cons (em_var (pv 0)) (am_cons em_int am_nil))) em_int)) (sms_one (sm_expr (em_append (em_var (pv 3)) (am_cons (em_tup (am_cons (em_var (pv 4)) (am_cons (em_call c_law_worths (hr.mono (by decide)) (am_cons (em_var (pv 0)) (am_cons (em_var (pv 2)) am_nil))) am_nil))) am_nil)))) sms_nil)))
    (sms_cons (sm_if (tm_cmp (cm_eq hu (em_call c_law_draw (hr.mono (by decide)) (am_cons (em_var (pv 0)) (am_cons em_int am_nil))) em_int)) (sms_one (sm_expr (em_append (em_var (pv 3)) (am_cons (em_tup (am_cons em_str (am_cons (em_tup (am_cons em_int am_nil)) am_nil))) am_nil)))) sms_nil)
    (sms_one (sm_ret (em_tuple T.n_tuple (am_cons (em_var (pv 3)) am_nil)))))))
abbrev st_law_books : Stmt := PySem.Challenge.pw_crossedwishes_k39_whole_nothing_refused.main.body.getD 56 (.Pass ⟨0, 0, 0, 0⟩)
abbrev N_law_books : List Str := ["_law_pen_here", "_law_many", "_law_most", "_law_mine", "_law_yours", "_law_one"]
theorem sc_law_books : FnScope N_law_books ["_law_pen_here", "_law_many", "_law_most"] (defScope st_law_books) := ⟨rfl, rfl, rfl, by decide +kernel, rfl, by decide +kernel, by decide +kernel⟩
theorem ok_law_books {P : Program} {w : World} {K : PySem.W.Frag} {mg : Str → Option Value} {base : Heap} {f : Addr} {fd : FuncData} {dvs : List V} {kws : List (Str × V)} (T : Txt P w K mg) (F : FunD K "_law_books" "_law_books" (defArgs st_law_books) (defBody st_law_books) (defScope st_law_books) dvs kws f fd) (c_law_kinds : Callee P w K mg base "_law_kinds" 2 [] 2 m_law_kinds) (c_law_draw : Callee P w K mg base "_law_draw" 1 [] 2 m_law_draw) (c_law_wishes : Callee P w K mg base "_law_wishes" 3 [] 3 m_law_wishes) (c_law_bounds : Callee P w K mg base "_law_bounds" 3 [] 3 m_law_bounds) : FnOk P w K mg base CX0 4 f fd ["_law_pen_here", "_law_many", "_law_most"] (spM K 3 m_law_books) := by
  refine def_ok F sc_law_books fun cdv A outer s H E hr => ?_
  have hu := hu_room hr
  have nd := sc_law_books.nd
  exact (sms_cons (sm_asg (em_call c_law_kinds (hr.mono (by decide)) (am_cons (em_var (pv 0)) (am_cons (em_call c_law_draw (hr.mono (by decide)) (am_cons (em_var (pv 0)) (am_cons (em_addI (em_var (pv 1)) em_int) am_nil))) am_nil))) (gm_name nd rfl (by first | exact .inl rfl | exact .inr rfl)))
    (sms_cons (sm_asg (em_call c_law_kinds (hr.mono (by decide)) (am_cons (em_var (pv 0)) (am_cons (em_call c_law_draw (hr.mono (by decide)) (am_cons (em_var (pv 0)) (am_cons (em_addI (em_var (pv 1)) em_int) am_nil))) am_nil))) (gm_name nd rfl (by first | exact .inl rfl | exact .inr rfl)))
    (sms_cons (sm_asg (em_tup (am_cons (em_call c_law_wishes (hr.mono (by decide)) (am_cons (em_var (pv 0)) (am_cons (em_var (pv 3)) (am_cons (em_var (pv 2)) am_nil)))) (am_cons (em_call c_law_bounds (hr.mono (by decide)) (am_cons (em_var (pv 0)) (am_cons (em_var (pv 4)) (am_cons (em_var (pv 2)) am_nil)))) am_nil))) (gm_name nd rfl (by first | exact .inl rfl | exact .inr rfl)))
    (sms_one (sm_ret (em_tup (am_cons (em_var (pv 5)) (am_cons (em_tup (am_cons (em_call c_law_wishes (hr.mono (by decide)) (am_cons (em_var (pv 0)) (am_cons (em_var (pv 4)) (am_cons (em_var (pv 2)) am_nil)))) (am_cons (em_call c_law_bounds (hr.mono (by decide)) (am_cons (em_var (pv 0)) (am_cons (em_var (pv 3)) (am_cons (em_var (pv 2)) am_nil)))) am_nil))) am_nil))))))))
abbrev st_as_end : Stmt := PySem.Challenge.pw_crossedwishes_k39_whole_nothing_refused.main.body.getD 21 (.Pass ⟨0, 0, 0, 0⟩)
abbrev N_as_end : List Str := ["known", "stand", "now", "part"]
theorem sc_as_end : FnScope N_as_end ["known"] (defScope st_as_end) := ⟨rfl, rfl, rfl, by decide +kernel, rfl, by decide +kernel, by decide +kernel⟩
theorem ok_as_end {P : Program} {w : World} {K : PySem.W.Frag} {mg : Str → Option Value} {base : Heap} {f : Addr} {fd : FuncData} {dvs : List V} {kws : List (Str × V)} (T : Txt P w K mg) (F : FunD K "as_end" "as_end" (defArgs st_as_end) (defBody st_as_end) (defScope st_as_end) dvs kws f fd)  : FnOk P w K mg base CX0 1 f fd ["known"] (spM K 1 m_as_end) := by
  obtain ⟨_, _, hPARTS, hPARTS2, hPARTS3⟩ := T.g_PARTS
  refine def_ok F sc_as_end fun cdv A outer s H E hr => ?_
  have hu := hu_room hr
  have nd := sc_as_end.nd
  exact (sms_cons (sm_asg (em_if (PW.pt (wm_and (tm_cmp (cm_isNot (em_sub hu (em_var (pv 0)) em_str) em_non)) (wm_and1 (tm_cmp (cm_isNot (em_sub hu (em_var (pv 0)) em_str) em_non))))) em_str em_str) (gm_name nd rfl (by first | exact .inl rfl | exact .inr rfl)))
    (sms_cons (sm_asg (em_if (tm_cmp (cm_eq hu (em_sub hu (em_var (pv 0)) em_str) em_str)) (em_sub hu (em_var (pv 0)) em_str) (em_var (pv 1))) (gm_name nd rfl (by first | exact .inl rfl | exact .inr rfl)))
    (sms_one (sm_ret (em_tuple T.n_tuple (am_cons (em_lc (own := [("part", 3)]) rfl nd (im_seq (em_gtup rfl hPARTS hPARTS2 hPARTS3)) (blkOk_by (N := N_as_end) (sc := defScope st_as_end) (by decide +kernel)) (fun _ _ _ _ _ => (gm_name nd rfl (by first | exact .inl rfl | exact .inr rfl))) (fun _ _ _ _ _ => ptm_nil) (fun _ _ _ _ _ => (em_if (tm_cmp (cm_eq hu (em_var (pv 3)) em_str)) (em_var (pv 2)) (em_sub hu (em_var (pv 0)) (em_var (pv 3)))))) am_nil))))))
end Cw
end
section
namespace Cw
open PySem PySem.Spec PyProof.Rows L2
abbrev st_new_end : Stmt := PySem.Challenge.pw_crossedwishes_k39_whole_nothing_refused.main.body.getD 19 (.Pass ⟨0, 0, 0, 0⟩)
abbrev N_new_end : List Str := ["name", "wishes", "known"]
theorem sc_new_end : FnScope N_new_end ["name", "wishes"] (defScope st_new_end) := ⟨rfl, rfl, rfl, by decide +kernel, rfl, by decide +kernel, by decide +kernel⟩
theorem ok_new_end {P : Program} {w : World} {K : PySem.W.Frag} {mg : Str → Option Value} {base : Heap} {f : Addr} {fd : FuncData} {dvs : List V} {kws : List (Str × V)} (T : Txt P w K mg) (F : FunD K "new_end" "new_end" (defArgs st_new_end) (defBody st_new_end) (defScope st_new_end) dvs kws f fd) (c_as_end : Callee P w K mg base "as_end" 1 [] 1 m_as_end) : FnOk P w K mg base CX0 2 f fd ["name", "wishes"] (spM K 2 m_new_end) := by
  obtain ⟨_, _, hREST, hREST2, hREST3, hREST4⟩ := T.g_REST
  refine def_ok F sc_new_end fun cdv A outer s H E hr => ?_
  have hu := hu_room hr
  have nd := sc_new_end.nd
  exact (sms_cons (sm_asg (em_dictC rfl T.n_dict bt_dict rfl hREST hREST2 hREST3 hREST4) (gm_name nd rfl (by first | exact .inl rfl | exact .inr rfl)))
    (sms_cons (sm_expr (em_dupd (em_var (pv 2)) (em_disp (ppm_cons (em_var (pv 0)) (ppm_cons (em_var (pv 1)) (ppm_cons em_int (ppm_cons em_int (ppm_cons em_int (ppm_cons em_str ppm_nil)))))))))
    (sms_one (sm_ret (em_call c_as_end (hr.mono (by decide)) (am_cons (em_var (pv 2)) am_nil))))))
abbrev st_law_two : Stmt := PySem.Challenge.pw_crossedwishes_k39_whole_nothing_refused.main.body.getD 57 (.Pass ⟨0, 0, 0, 0⟩)
abbrev N_law_two : List Str := ["_law_pen_here", "_law_names_here", "_law_books_here", "_law_upto", "_law_pair", "_law_name", "_law_book"]
theorem sc_law_two : FnScope N_law_two ["_law_pen_here"] (defScope st_law_two) := ⟨rfl, rfl, rfl, by decide +kernel, rfl, by decide +kernel, by decide +kernel⟩
theorem ok_law_two {P : Program} {w : World} {K : PySem.W.Frag} {mg : Str → Option Value} {base : Heap} {f : Addr} {fd : FuncData} {dvs : List V} {kws : List (Str × V)} (T : Txt P w K mg) (F : FunD K "_law_two" "_law_two" (defArgs st_law_two) (defBody st_law_two) (defScope st_law_two) dvs kws f fd) (c_law_kinds : Callee P w K mg base "_law_kinds" 2 [] 2 m_law_kinds) (c_law_books : Callee P w K mg base "_law_books" 4 [] 3 m_law_books) (c_law_draw : Callee P w K mg base "_law_draw" 1 [] 2 m_law_draw) (c_new_end : Callee P w K mg base "new_end" 2 [] 2 m_new_end) : FnOk P w K mg base CX0 5 f fd ["_law_pen_here"] (spM K 1 m_law_two) := by
  refine def_ok F sc_law_two fun cdv A outer s H E hr => ?_
  have hu := hu_room hr
  have nd := sc_law_two.nd
  exact (sms_cons (sm_asg (em_call c_law_kinds (hr.mono (by decide)) (am_cons (em_var (pv 0)) (am_cons em_int am_nil))) (gm_name nd rfl (by first | exact .inl rfl | exact .inr rfl)))
    (sms_cons (sm_asg (em_call c_law_books (hr.mono (by decide)) (am_cons (em_var (pv 0)) (am_cons (em_sub hu (em_lst (am_cons em_int (am_cons em_int (am_cons em_int (am_cons em_int am_nil))))) (em_call c_law_draw (hr.mono (by decide)) (am_cons (em_var (pv 0)) (am_cons em_int am_nil)))) (am_cons (em_sub hu (em_lst (am_cons em_int (am_cons em_int (am_cons em_int am_nil)))) (em_call c_law_draw (hr.mono (by decide)) (am_cons (em_var (pv 0)) (am_cons em_int am_nil)))) am_nil)))) (gm_name nd rfl (by first | exact .inl rfl | exact .inr rfl)))
    (sms_cons (sm_asg (em_addI em_int (em_sub hu (em_lst (am_cons em_int (am_cons em_int (am_cons em_int (am_cons em_int am_nil))))) (em_call c_law_draw (hr.mono (by decide)) (am_cons (em_var (pv 0)) (am_cons em_int am_nil))))) (gm_name nd rfl (by first | exact .inl rfl | exact .inr rfl)))
    (sms_cons (sm_asg (em_disp (ppm_cons (em_var (pv 1)) (ppm_cons (em_lstN am_nil) (ppm_cons (em_lst am_nil) (ppm_cons (em_lst am_nil) (ppm_cons (em_var (pv 2)) ppm_nil)))))) (gm_name nd rfl (by first | exact .inl rfl | exact .inr rfl)))
    (sms_cons (sm_put hu (em_var (pv 4)) em_str (em_var (pv 3)))
    (sms_cons (sm_for PassesOwn.never rfl (im_zip false true rfl T.n_zip (am_cons (em_var (pv 1)) (am_cons (em_var (pv 2)) am_nil))) (gm_tup rfl (gms_cons (gm_name nd rfl (by first | exact .inl rfl | exact .inr rfl)) (gms_cons (gm_name nd rfl (by first | exact .inl rfl | exact .inr rfl)) gms_nil))) (sms_one (sm_put hu (em_var (pv 4)) (em_var (pv 5)) (em_call c_new_end (hr.mono (by decide)) (am_cons (em_var (pv 5)) (am_cons (em_sub hu (em_var (pv 6)) em_int) am_nil))))))
    (sms_one (sm_ret (em_var (pv 4))))))))))
abbrev st_law_done : Stmt := PySem.Challenge.pw_crossedwishes_k39_whole_nothing_refused.main.body.getD 58 (.Pass ⟨0, 0, 0, 0⟩)
abbrev N_law_done : List Str := ["_law_pair", "_law_at", "_law_told", "_law_name", "_law_letter"]
theorem sc_law_done : FnScope N_law_done ["_law_pair", "_law_at", "_law_told"] (defScope st_law_done) := ⟨rfl, rfl, rfl, by decide +kernel, rfl, by decide +kernel, by decide +kernel⟩
theorem ok_law_done {P : Program} {w : World} {K : PySem.W.Frag} {mg : Str → Option Value} {base : Heap} {f : Addr} {fd : FuncData} {dvs : List V} {kws : List (Str × V)} (T : Txt P w K mg) (F : FunD K "_law_done" "_law_done" (defArgs st_law_done) (defBody st_law_done) (defScope st_law_done) dvs kws f fd)  : FnOk P w K mg base CX0 1 f fd ["_law_pair", "_law_at", "_law_told"] (spM K 3 m_law_done) := by
  refine def_ok F sc_law_done fun cdv A outer s H E hr => ?_
  have hu := hu_room hr
  have nd := sc_law_done.nd
  exact (sms_cons (sm_asg (em_sub hu (em_sub hu (em_var (pv 0)) em_str) (em_var (pv 1))) (gm_name nd rfl (by first | exact .inl rfl | exact .inr rfl)))
    (sms_cons (sm_put hu (em_var (pv 0)) (em_var (pv 3)) (em_sub hu (em_var (pv 2)) em_int))
    (sms_cons (sm_put hu (em_var (pv 0)) em_str (em_catN (em_sub hu (em_var (pv 0)) em_str) (em_lc (own := [("_law_letter", 4)]) rfl nd (im_seq (em_sub hu (em_var (pv 2)) em_int)) (blkOk_by (N := N_law_done) (sc := defScope st_law_done) (by decide +kernel)) (fun _ _ _ _ _ => (gm_name nd rfl (by first | exact .inl rfl | exact .inr rfl))) (fun _ _ _ _ _ => ptm_nil) (fun _ _ _ _ _ => (em_tup (am_cons (em_subI em_int (em_var (pv 1))) (am_cons (em_var (pv 4)) am_nil)))))))
    (sms_one (sm_put hu (em_var (pv 0)) em_str (em_catL (em_sub hu (em_var (pv 0)) em_str) (em_sub hu (em_var (pv 2)) em_int)))))))
abbrev st_known_of : Stmt := PySem.Challenge.pw_crossedwishes_k39_whole_nothing_refused.main.body.getD 20 (.Pass ⟨0, 0, 0, 0⟩)
abbrev N_known_of : List Str := ["end"]
theorem sc_known_of : FnScope N_known_of ["end"] (defScope st_known_of) := ⟨rfl, rfl, rfl, by decide +kernel, rfl, by decide +kernel, by decide +kernel⟩
theorem ok_known_of {P : Program} {w : World} {K : PySem.W.Frag} {mg : Str → Option Value} {base : Heap} {f : Addr} {fd : FuncData} {dvs : List V} {kws : List (Str × V)} (T : Txt P w K mg) (F : FunD K "known_of" "known_of" (defArgs st_known_of) (defBody st_known_of) (defScope st_known_of) dvs kws f fd)  : FnOk P w K mg base CX0 1 f fd ["end"] (spM K 1 m_known_of) := by
  obtain ⟨_, _, hPARTS, hPARTS2, hPARTS3⟩ := T.g_PARTS
  refine def_ok F sc_known_of fun cdv A outer s H E hr => ?_
  have hu := hu_room hr
  have nd := sc_known_of.nd
  exact (sms_one (sm_ret (em_dictZip rfl rfl T.n_dict bt_dict rfl T.n_list bt_list rfl T.n_zip (am_cons (em_gtup rfl hPARTS hPARTS2 hPARTS3) (am_cons (em_var (pv 0)) am_nil)))))
abbrev st_written : Stmt := PySem.Challenge.pw_crossedwishes_k39_whole_nothing_refused.main.body.getD 22 (.Pass ⟨0, 0, 0, 0⟩)
abbrev N_written : List Str := ["known", "word", "number", "pairs"]
theorem sc_written : FnScope N_written ["known", "word", "number", "pairs"] (defScope st_written) := ⟨rfl, rfl, rfl, by decide +kernel, rfl, by decide +kernel, by decide +kernel⟩
theorem ok_written {P : Program} {w : World} {K : PySem.W.Frag} {mg : Str → Option Value} {base : Heap} {f : Addr} {fd : FuncData} {dvs : List V} {kws : List (Str × V)} (T : Txt P w K mg) (F : FunD K "written" "written" (defArgs st_written) (defBody st_written) (defScope st_written) dvs kws f fd)  : FnOk P w K mg base CX0 1 f fd ["known", "word", "number", "pairs"] (spM K 4 m_written) := by
  refine def_ok F sc_written fun cdv A outer s H E hr => ?_
  have hu := hu_room hr
  have nd := sc_written.nd
  exact (sms_one (sm_ret (em_tup (am_cons (em_sub hu (em_var (pv 0)) em_str) (am_cons (em_var (pv 1)) (am_cons (em_sub hu (em_var (pv 0)) em_str) (am_cons (em_sub hu (em_var (pv 0)) em_str) (am_cons (em_var (pv 2)) (am_cons (em_var (pv 3)) am_nil)))))))))
abbrev st_ask_of : Stmt := PySem.Challenge.pw_crossedwishes_k39_whole_nothing_refused.main.body.getD 15 (.Pass ⟨0, 0, 0, 0⟩)
abbrev N_ask_of : List Str := ["wishes", "plan", "found", "kind", "worths", "must", "needs", "planned", "left"]
theorem sc_ask_of : FnScope N_ask_of ["wishes", "plan"] (defScope st_ask_of) := ⟨rfl, rfl, rfl, by decide +kernel, rfl, by decide +kernel, by decide +kernel⟩
theorem ok_ask_of {P : Program} {w : World} {K : PySem.W.Frag} {mg : Str → Option Value} {base : Heap} {f : Addr} {fd : FuncData} {dvs : List V} {kws : List (Str × V)} (T : Txt P w K mg) (F : FunD K "ask_of" "ask_of" (defArgs st_ask_of) (defBody st_ask_of) (defScope st_ask_of) dvs kws f fd)  : FnOk P w K mg base CX0 1 f fd ["wishes", "plan"] (spM K 2 m_ask_of) := by
  refine def_ok F sc_ask_of fun cdv A outer s H E hr => ?_
  have hu := hu_room hr
  have nd := sc_ask_of.nd
  exact (sms_cons (sm_asg (em_lstN am_nil) (gm_name nd rfl (by first | exact .inl rfl | exact .inr rfl)))
    (sms_cons (sm_for PassesOwn.never rfl (im_zip true true rfl T.n_zip (am_cons (em_var (pv 0)) (am_cons (em_var (pv 1)) am_nil))) (gm_tup rfl (gms_cons (gm_tup rfl (gms_cons (gm_name nd rfl (by first | exact .inl rfl | exact .inr rfl)) (gms_cons (gm_name nd rfl (by first | exact .inl rfl | exact .inr rfl)) (gms_cons (gm_name nd rfl (by first | exact .inl rfl | exact .inr rfl)) (gms_cons (gm_name nd rfl (by first | exact .inl rfl | exact .inr rfl)) gms_nil))))) (gms_cons (gm_tup rfl (gms_cons (gm_name nd rfl (by first | exact .inl rfl | exact .inr rfl)) (gms_cons (gm_name nd rfl (by first | exact .inl rfl | exact .inr rfl)) gms_nil))) gms_nil))) (sms_one (sm_if (PW.pt (wm_and (tm_cmp (cm_ne hu (em_var (pv 8)) (em_tup am_nil))) (wm_and1 (PW.pt (wm_or (tm_cmp (cm_is (em_var (pv 6)) em_non)) (wm_or1 (tm_cmp (cm_in hu (em_var (pv 6)) (em_var (pv 2)))))))))) (sms_one (sm_expr (em_append (em_var (pv 2)) (am_cons (em_tup (am_cons (em_var (pv 3)) (am_cons (em_sub hu (em_var (pv 8)) em_int) am_nil))) am_nil)))) sms_nil)))
    (sms_one (sm_ret (em_tuple T.n_tuple (am_cons (em_var (pv 2)) am_nil))))))
abbrev st_ask_written : Stmt := PySem.Challenge.pw_crossedwishes_k39_whole_nothing_refused.main.body.getD 23 (.Pass ⟨0, 0, 0, 0⟩)
abbrev N_ask_written : List Str := ["known"]
theorem sc_ask_written : FnScope N_ask_written ["known"] (defScope st_ask_written) := ⟨rfl, rfl, rfl, by decide +kernel, rfl, by decide +kernel, by decide +kernel⟩
theorem ok_ask_written {P : Program} {w : World} {K : PySem.W.Frag} {mg : Str → Option Value} {base : Heap} {f : Addr} {fd : FuncData} {dvs : List V} {kws : List (Str × V)} (T : Txt P w K mg) (F : FunD K "ask_written" "ask_written" (defArgs st_ask_written) (defBody st_ask_written) (defScope st_ask_written) dvs kws f fd) (c_written_number_pairs : CalleeK P w K mg base "written" 1 2 ["number", "pairs"] (fun as bs => as ++ bs) 4 m_written) (c_ask_of : Callee P w K mg base "ask_of" 1 [] 2 m_ask_of) : FnOk P w K mg base CX0 2 f fd ["known"] (spM K 1 m_ask_written) := by
  refine def_ok F sc_ask_written fun cdv A outer s H E hr => ?_
  have hu := hu_room hr
  have nd := sc_ask_written.nd
  exact (sms_one (sm_ret (em_callK c_written_number_pairs (hr.mono (by decide)) (am_cons (em_var (pv 0)) (am_cons em_str am_nil)) (km_cons (em_sub hu (em_var (pv 0)) em_str) (km_cons (em_call c_ask_of (hr.mono (by decide)) (am_cons (em_sub hu (em_var (pv 0)) em_str) (am_cons (em_sub hu (em_var (pv 0)) em_str) am_nil))) km_nil)))))
abbrev st_left_of : Stmt := PySem.Challenge.pw_crossedwishes_k39_whole_nothing_refused.main.body.getD 13 (.Pass ⟨0, 0, 0, 0⟩)
abbrev N_left_of : List Str := ["kind", "worths", "refused", "worth"]
theorem sc_left_of : FnScope N_left_of ["kind", "worths", "refused"] (defScope st_left_of) := ⟨rfl, rfl, rfl, by decide +kernel, rfl, by decide +kernel, by decide +kernel⟩
theorem ok_left_of {P : Program} {w : World} {K : PySem.W.Frag} {mg : Str → Option Value} {base : Heap} {f : Addr} {fd : FuncData} {dvs : List V} {kws : List (Str × V)} (T : Txt P w K mg) (F : FunD K "left_of" "left_of" (defArgs st_left_of) (defBody st_left_of) (defScope st_left_of) dvs kws f fd)  : FnOk P w K mg base CX0 1 f fd ["kind", "worths", "refused"] (spM K 3 m_left_of) := by
  obtain ⟨_, hALL⟩ := T.g_ALL
  refine def_ok F sc_left_of fun cdv A outer s H E hr => ?_
  have hu := hu_room hr
  have nd := sc_left_of.nd
  exact (sms_cons (sm_if (tm_cmp (cm_in hu (em_tup (am_cons (em_var (pv 0)) (am_cons (em_gint rfl hALL) am_nil))) (em_var (pv 2)))) (sms_one (sm_ret (em_tup am_nil))) sms_nil)
    (sms_one (sm_ret (em_tuple T.n_tuple (am_cons (em_lc (own := [("worth", 3)]) rfl nd (im_seq (em_var (pv 1))) (blkOk_by (N := N_left_of) (sc := defScope st_left_of) (by decide +kernel)) (fun _ _ _ _ _ => (gm_name nd rfl (by first | exact .inl rfl | exact .inr rfl))) (fun _ _ _ _ _ => (ptm_one (tm_cmp (cm_notIn hu (em_tup (am_cons (em_var (pv 0)) (am_cons (em_var (pv 3)) am_nil))) (em_var (pv 2)))))) (fun _ _ _ _ _ => (em_var (pv 3)))) am_nil)))))
end Cw
end
section
namespace Cw
open PySem PySem.Spec PyProof.Rows L2
abbrev st_plan_of : Stmt := PySem.Challenge.pw_crossedwishes_k39_whole_nothing_refused.main.body.getD 14 (.Pass ⟨0, 0, 0, 0⟩)
abbrev N_plan_of : List Str := ["wishes", "refused", "kind", "worths", "must", "needs"]
theorem sc_plan_of : FnScope N_plan_of ["wishes", "refused"] (defScope st_plan_of) := ⟨rfl, rfl, rfl, by decide +kernel, rfl, by decide +kernel, by decide +kernel⟩
theorem ok_plan_of {P : Program} {w : World} {K : PySem.W.Frag} {mg : Str → Option Value} {base : Heap} {f : Addr} {fd : FuncData} {dvs : List V} {kws : List (Str × V)} (T : Txt P w K mg) (F : FunD K "plan_of" "plan_of" (defArgs st_plan_of) (defBody st_plan_of) (defScope st_plan_of) dvs kws f fd) (c_left_of : Callee P w K mg base "left_of" 1 [] 3 m_left_of) : FnOk P w K mg base CX0 2 f fd ["wishes", "refused"] (spM K 2 m_plan_of) := by
  refine def_ok F sc_plan_of fun cdv A outer s H E hr => ?_
  have hu := hu_room hr
  have nd := sc_plan_of.nd
  exact (sms_one (sm_ret (em_tuple T.n_tuple (am_cons (em_lc (own := [("kind", 2), ("worths", 3), ("must", 4), ("needs", 5)]) rfl nd (im_seq (em_var (pv 0))) (blkOk_by (N := N_plan_of) (sc := defScope st_plan_of) (by decide +kernel)) (fun _ _ _ _ _ => (gm_tup rfl (gms_cons (gm_name nd rfl (by first | exact .inl rfl | exact .inr rfl)) (gms_cons (gm_name nd rfl (by first | exact .inl rfl | exact .inr rfl)) (gms_cons (gm_name nd rfl (by first | exact .inl rfl | exact .inr rfl)) (gms_cons (gm_name nd rfl (by first | exact .inl rfl | exact .inr rfl)) gms_nil)))))) (fun _ _ _ _ _ => ptm_nil) (fun _ _ _ _ _ => (em_tup (am_cons (em_var (pv 2)) (am_cons (em_call c_left_of (hr.mono (by decide)) (am_cons (em_var (pv 2)) (am_cons (em_var (pv 3)) (am_cons (em_var (pv 1)) am_nil)))) am_nil))))) am_nil))))
abbrev st_begin : Stmt := PySem.Challenge.pw_crossedwishes_k39_whole_nothing_refused.main.body.getD 24 (.Pass ⟨0, 0, 0, 0⟩)
abbrev N_begin : List Str := ["known", "tries"]
theorem sc_begin : FnScope N_begin ["known", "tries"] (defScope st_begin) := ⟨rfl, rfl, rfl, by decide +kernel, rfl, by decide +kernel, by decide +kernel⟩
theorem ok_begin {P : Program} {w : World} {K : PySem.W.Frag} {mg : Str → Option Value} {base : Heap} {f : Addr} {fd : FuncData} {dvs : List V} {kws : List (Str × V)} (T : Txt P w K mg) (F : FunD K "begin" "begin" (defArgs st_begin) (defBody st_begin) (defScope st_begin) dvs kws f fd) (c_plan_of : Callee P w K mg base "plan_of" 2 [.tup []] 2 m_plan_of) (c_ask_written : Callee P w K mg base "ask_written" 2 [] 1 m_ask_written) : FnOk P w K mg base CX0 3 f fd ["known", "tries"] (spM K 2 m_begin) := by
  obtain ⟨_, _, hREST, hREST2, hREST3, hREST4⟩ := T.g_REST
  refine def_ok F sc_begin fun cdv A outer s H E hr => ?_
  have hu := hu_room hr
  have nd := sc_begin.nd
  exact (sms_cons (sm_expr (em_dupd (em_var (pv 0)) (em_dictC rfl T.n_dict bt_dict rfl hREST hREST2 hREST3 hREST4)))
    (sms_cons (sm_expr (em_dupd (em_var (pv 0)) (em_disp (ppm_cons em_str (ppm_cons em_int (ppm_cons (em_call c_plan_of (hr.mono (by decide)) (am_cons (em_sub hu (em_var (pv 0)) em_str) am_nil)) (ppm_cons (em_var (pv 1)) (ppm_cons em_str ppm_nil))))))))
    (sms_one (sm_ret (em_lstN (am_cons (em_call c_ask_written (hr.mono (by decide)) (am_cons (em_var (pv 0)) am_nil)) am_nil))))))
abbrev st_opened : Stmt := PySem.Challenge.pw_crossedwishes_k39_whole_nothing_refused.main.body.getD 26 (.Pass ⟨0, 0, 0, 0⟩)
abbrev N_opened : List Str := ["end", "tries", "known", "letters"]
theorem sc_opened : FnScope N_opened ["end", "tries"] (defScope st_opened) := ⟨rfl, rfl, rfl, by decide +kernel, rfl, by decide +kernel, by decide +kernel⟩
theorem ok_opened {P : Program} {w : World} {K : PySem.W.Frag} {mg : Str → Option Value} {base : Heap} {f : Addr} {fd : FuncData} {dvs : List V} {kws : List (Str × V)} (T : Txt P w K mg) (F : FunD K "opened" "opened" (defArgs st_opened) (defBody st_opened) (defScope st_opened) dvs kws f fd) (c_known_of : Callee P w K mg base "known_of" 1 [] 1 m_known_of) (c_begin : Callee P w K mg base "begin" 3 [] 2 m_begin) (c_as_end : Callee P w K mg base "as_end" 1 [] 1 m_as_end) : FnOk P w K mg base CX0 4 f fd ["end", "tries"] (spM K 2 m_opened) := by
  refine def_ok F sc_opened fun cdv A outer s H E hr => ?_
  have hu := hu_room hr
  have nd := sc_opened.nd
  exact (sms_cons (sm_asg (em_call c_known_of (hr.mono (by decide)) (am_cons (em_var (pv 0)) am_nil)) (gm_name nd rfl (by first | exact .inl rfl | exact .inr rfl)))
    (sms_cons (sm_if (tm_cmp (cm_ne hu (em_sub hu (em_var (pv 2)) em_str) em_str)) sms_never sms_nil)
    (sms_cons (sm_expr (em_dupd (em_var (pv 2)) (em_disp (ppm_cons (em_addI (em_sub hu (em_var (pv 2)) em_str) em_int) (ppm_cons em_int ppm_nil)))))
    (sms_cons (sm_asg (em_call c_begin (hr.mono (by decide)) (am_cons (em_var (pv 2)) (am_cons (em_var (pv 1)) am_nil))) (gm_name nd rfl (by first | exact .inl rfl | exact .inr rfl)))
    (sms_one (sm_ret (em_tup (am_cons (em_call c_as_end (hr.mono (by decide)) (am_cons (em_var (pv 2)) am_nil)) (am_cons (em_free (em_var (pv 3))) am_nil)))))))))
abbrev st_shut : Stmt := PySem.Challenge.pw_crossedwishes_k39_whole_nothing_refused.main.body.getD 25 (.Pass ⟨0, 0, 0, 0⟩)
abbrev N_shut : List Str := ["known", "why", "is_told", "letters"]
theorem sc_shut : FnScope N_shut ["known", "why", "is_told"] (defScope st_shut) := ⟨rfl, rfl, rfl, by decide +kernel, rfl, by decide +kernel, by decide +kernel⟩
theorem ok_shut {P : Program} {w : World} {K : PySem.W.Frag} {mg : Str → Option Value} {base : Heap} {f : Addr} {fd : FuncData} {dvs : List V} {kws : List (Str × V)} (T : Txt P w K mg) (F : FunD K "shut" "shut" (defArgs st_shut) (defBody st_shut) (defScope st_shut) dvs kws f fd) (c_written : Callee P w K mg base "written" 1 [.int 0, .tup []] 4 m_written) : FnOk P w K mg base CX0 2 f fd ["known", "why", "is_told"] (spM K 3 m_shut) := by
  obtain ⟨_, _, hREST, hREST2, hREST3, hREST4⟩ := T.g_REST
  refine def_ok F sc_shut fun cdv A outer s H E hr => ?_
  have hu := hu_room hr
  have nd := sc_shut.nd
  exact (sms_cons (sm_asg (em_if (tm_val (em_var (pv 2))) (em_lst (am_cons (em_call c_written (hr.mono (by decide)) (am_cons (em_var (pv 0)) (am_cons em_str am_nil))) am_nil)) (em_lst am_nil)) (gm_name nd rfl (by first | exact .inl rfl | exact .inr rfl)))
    (sms_cons (sm_expr (em_dupd (em_var (pv 0)) (em_dictC rfl T.n_dict bt_dict rfl hREST hREST2 hREST3 hREST4)))
    (sms_cons (sm_put hu (em_var (pv 0)) em_str (em_var (pv 1)))
    (sms_one (sm_ret (em_var (pv 3)))))))
abbrev st_closing : Stmt := PySem.Challenge.pw_crossedwishes_k39_whole_nothing_refused.main.body.getD 27 (.Pass ⟨0, 0, 0, 0⟩)
abbrev N_closing : List Str := ["end", "known", "letters"]
theorem sc_closing : FnScope N_closing ["end"] (defScope st_closing) := ⟨rfl, rfl, rfl, by decide +kernel, rfl, by decide +kernel, by decide +kernel⟩
theorem ok_closing {P : Program} {w : World} {K : PySem.W.Frag} {mg : Str → Option Value} {base : Heap} {f : Addr} {fd : FuncData} {dvs : List V} {kws : List (Str × V)} (T : Txt P w K mg) (F : FunD K "closing" "closing" (defArgs st_closing) (defBody st_closing) (defScope st_closing) dvs kws f fd) (c_known_of : Callee P w K mg base "known_of" 1 [] 1 m_known_of) (c_shut : Callee P w K mg base "shut" 2 [.bl true] 3 m_shut) (c_as_end : Callee P w K mg base "as_end" 1 [] 1 m_as_end) : FnOk P w K mg base CX0 3 f fd ["end"] (spM K 1 m_closing) := by
  refine def_ok F sc_closing fun cdv A outer s H E hr => ?_
  have hu := hu_room hr
  have nd := sc_closing.nd
  exact (sms_cons (sm_asg (em_call c_known_of (hr.mono (by decide)) (am_cons (em_var (pv 0)) am_nil)) (gm_name nd rfl (by first | exact .inl rfl | exact .inr rfl)))
    (sms_cons (sm_if (tm_cmp (cm_eq hu (em_sub hu (em_var (pv 1)) em_str) em_str)) sms_never sms_nil)
    (sms_cons (sm_asg (em_call c_shut (hr.mono (by decide)) (am_cons (em_var (pv 1)) (am_cons em_str am_nil))) (gm_name nd rfl (by first | exact .inl rfl | exact .inr rfl)))
    (sms_one (sm_ret (em_tup (am_cons (em_call c_as_end (hr.mono (by decide)) (am_cons (em_var (pv 1)) am_nil)) (am_cons (em_var (pv 2)) am_nil))))))))
abbrev st_has_failed : Stmt := PySem.Challenge.pw_crossedwishes_k39_whole_nothing_refused.main.body.getD 29 (.Pass ⟨0, 0, 0, 0⟩)
abbrev N_has_failed : List Str := ["wishes", "plan", "kind", "worths", "must", "needs", "same", "left"]
theorem sc_has_failed : FnScope N_has_failed ["wishes", "plan"] (defScope st_has_failed) := ⟨rfl, rfl, rfl, by decide +kernel, rfl, by decide +kernel, by decide +kernel⟩
theorem ok_has_failed {P : Program} {w : World} {K : PySem.W.Frag} {mg : Str → Option Value} {base : Heap} {f : Addr} {fd : FuncData} {dvs : List V} {kws : List (Str × V)} (T : Txt P w K mg) (F : FunD K "has_failed" "has_failed" (defArgs st_has_failed) (defBody st_has_failed) (defScope st_has_failed) dvs kws f fd)  : FnOk P w K mg base CX0 1 f fd ["wishes", "plan"] (spM K 2 m_has_failed) := by
  refine def_ok F sc_has_failed fun cdv A outer s H E hr => ?_
  have hu := hu_room hr
  have nd := sc_has_failed.nd
  exact (sms_one (sm_ret (em_any rfl T.n_any (am_cons (em_lc (own := [("kind", 2), ("worths", 3), ("must", 4), ("needs", 5), ("same", 6), ("left", 7)]) rfl nd (im_zipS true true rfl T.n_zip (am_cons (em_var (pv 0)) (am_cons (em_var (pv 1)) am_nil))) (blkOk_by (N := N_has_failed) (sc := defScope st_has_failed) (by decide +kernel)) (fun _ _ _ _ _ => (gm_tup rfl (gms_cons (gm_tup rfl (gms_cons (gm_name nd rfl (by first | exact .inl rfl | exact .inr rfl)) (gms_cons (gm_name nd rfl (by first | exact .inl rfl | exact .inr rfl)) (gms_cons (gm_name nd rfl (by first | exact .inl rfl | exact .inr rfl)) (gms_cons (gm_name nd rfl (by first | exact .inl rfl | exact .inr rfl)) gms_nil))))) (gms_cons (gm_tup rfl (gms_cons (gm_name nd rfl (by first | exact .inl rfl | exact .inr rfl)) (gms_cons (gm_name nd rfl (by first | exact .inl rfl | exact .inr rfl)) gms_nil))) gms_nil)))) (fun _ _ _ _ _ => ptm_nil) (fun _ _ _ _ _ => (em_and (em_var (pv 4)) (em_one (em_cmp (cm_eq hu (em_var (pv 7)) (em_tup am_nil))))))) am_nil))))
abbrev st_wished : Stmt := PySem.Challenge.pw_crossedwishes_k39_whole_nothing_refused.main.body.getD 30 (.Pass ⟨0, 0, 0, 0⟩)
abbrev N_wished : List Str := ["end", "wishes", "tries", "known", "letters"]
theorem sc_wished : FnScope N_wished ["end", "wishes", "tries"] (defScope st_wished) := ⟨rfl, rfl, rfl, by decide +kernel, rfl, by decide +kernel, by decide +kernel⟩
theorem ok_wished {P : Program} {w : World} {K : PySem.W.Frag} {mg : Str → Option Value} {base : Heap} {f : Addr} {fd : FuncData} {dvs : List V} {kws : List (Str × V)} (T : Txt P w K mg) (F : FunD K "wished" "wished" (defArgs st_wished) (defBody st_wished) (defScope st_wished) dvs kws f fd) (c_known_of : Callee P w K mg base "known_of" 1 [] 1 m_known_of) (c_as_end : Callee P w K mg base "as_end" 1 [] 1 m_as_end) (c_plan_of_refused : CalleeK P w K mg base "plan_of" 2 1 ["refused"] (fun as bs => as ++ bs) 2 m_plan_of) (c_has_failed : Callee P w K mg base "has_failed" 1 [] 2 m_has_failed) (c_shut : Callee P w K mg base "shut" 2 [.bl true] 3 m_shut) (c_ask_written : Callee P w K mg base "ask_written" 2 [] 1 m_ask_written) : FnOk P w K mg base CX0 3 f fd ["end", "wishes", "tries"] (spM K 3 m_wished) := by
  refine def_ok F sc_wished fun cdv A outer s H E hr => ?_
  have hu := hu_room hr
  have nd := sc_wished.nd
  exact (sms_cons (sm_asg (em_call c_known_of (hr.mono (by decide)) (am_cons (em_var (pv 0)) am_nil)) (gm_name nd rfl (by first | exact .inl rfl | exact .inr rfl)))
    (sms_cons (sm_put hu (em_var (pv 3)) em_str (em_var (pv 1)))
    (sms_cons (sm_if (tm_cmp (cm_eq hu (em_sub hu (em_var (pv 3)) em_str) em_str)) (sms_one (sm_ret (em_tup (am_cons (em_call c_as_end (hr.mono (by decide)) (am_cons (em_var (pv 3)) am_nil)) (am_cons (em_lst am_nil) am_nil))))) sms_nil)
    (sms_cons (sm_put hu (em_var (pv 3)) em_str (em_callK c_plan_of_refused (hr.mono (by decide)) (am_cons (em_var (pv 1)) am_nil) (km_cons (em_sub hu (em_var (pv 3)) em_str) km_nil)))
    (sms_cons (sm_if (tm_val (em_call c_has_failed (hr.mono (by decide)) (am_cons (em_var (pv 1)) (am_cons (em_sub hu (em_var (pv 3)) em_str) am_nil)))) (sms_cons (sm_asg (em_call c_shut (hr.mono (by decide)) (am_cons (em_var (pv 3)) (am_cons em_str am_nil))) (gm_name nd rfl (by first | exact .inl rfl | exact .inr rfl)))
    (sms_one (sm_ret (em_tup (am_cons (em_call c_as_end (hr.mono (by decide)) (am_cons (em_var (pv 3)) am_nil)) (am_cons (em_var (pv 4)) am_nil)))))) sms_nil)
    (sms_cons (sm_expr (em_dupd (em_var (pv 3)) (em_disp (ppm_cons (em_addI (em_sub hu (em_var (pv 3)) em_str) em_int) (ppm_cons em_non (ppm_cons (em_var (pv 2)) ppm_nil))))))
    (sms_one (sm_ret (em_tup (am_cons (em_call c_as_end (hr.mono (by decide)) (am_cons (em_var (pv 3)) am_nil)) (am_cons (em_lst (am_cons (em_call c_ask_written (hr.mono (by decide)) (am_cons (em_var (pv 3)) am_nil)) am_nil)) am_nil)))))))))))
abbrev st_ticked : Stmt := PySem.Challenge.pw_crossedwishes_k39_whole_nothing_refused.main.body.getD 28 (.Pass ⟨0, 0, 0, 0⟩)
abbrev N_ticked : List Str := ["end", "known", "letters"]
theorem sc_ticked : FnScope N_ticked ["end"] (defScope st_ticked) := ⟨rfl, rfl, rfl, by decide +kernel, rfl, by decide +kernel, by decide +kernel⟩
theorem ok_ticked {P : Program} {w : World} {K : PySem.W.Frag} {mg : Str → Option Value} {base : Heap} {f : Addr} {fd : FuncData} {dvs : List V} {kws : List (Str × V)} (T : Txt P w K mg) (F : FunD K "ticked" "ticked" (defArgs st_ticked) (defBody st_ticked) (defScope st_ticked) dvs kws f fd) (c_known_of : Callee P w K mg base "known_of" 1 [] 1 m_known_of) (c_shut : Callee P w K mg base "shut" 2 [.bl true] 3 m_shut) (c_as_end : Callee P w K mg base "as_end" 1 [] 1 m_as_end) (c_ask_written : Callee P w K mg base "ask_written" 2 [] 1 m_ask_written) (c_written : Callee P w K mg base "written" 1 [.int 0, .tup []] 4 m_written) : FnOk P w K mg base CX0 3 f fd ["end"] (spM K 1 m_ticked) := by
  refine def_ok F sc_ticked fun cdv A outer s H E hr => ?_
  have hu := hu_room hr
  have nd := sc_ticked.nd
  exact (sms_cons (sm_asg (em_call c_known_of (hr.mono (by decide)) (am_cons (em_var (pv 0)) am_nil)) (gm_name nd rfl (by first | exact .inl rfl | exact .inr rfl)))
    (sms_cons (sm_if (tm_cmp (cm_eq hu (em_sub hu (em_var (pv 1)) em_str) em_str)) (sms_one (sm_ret (em_tup (am_cons (em_var (pv 0)) (am_cons (em_lst am_nil) am_nil))))) sms_nil)
    (sms_cons (sm_if (tm_cmp (cm_eq hu (em_sub hu (em_var (pv 1)) em_str) em_int)) (sms_cons (sm_asg (em_call c_shut (hr.mono (by decide)) (am_cons (em_var (pv 1)) (am_cons em_str am_nil))) (gm_name nd rfl (by first | exact .inl rfl | exact .inr rfl)))
    (sms_one (sm_ret (em_tup (am_cons (em_call c_as_end (hr.mono (by decide)) (am_cons (em_var (pv 1)) am_nil)) (am_cons (em_var (pv 2)) am_nil)))))) sms_nil)
    (sms_cons (sm_augSub hu (em_var (pv 1)) em_str em_int)
    (sms_one (sm_ret (em_tup (am_cons (em_call c_as_end (hr.mono (by decide)) (am_cons (em_var (pv 1)) am_nil)) (am_cons (em_lst (am_cons (em_if (tm_cmp (cm_is (em_sub hu (em_var (pv 1)) em_str) em_non)) (em_call c_ask_written (hr.mono (by decide)) (am_cons (em_var (pv 1)) am_nil)) (em_call c_written (hr.mono (by decide)) (am_cons (em_var (pv 1)) (am_cons em_str am_nil)))) am_nil)) am_nil)))))))))
end Cw
end
section
namespace Cw
open PySem PySem.Spec PyProof.Rows L2
abbrev st_law_of_itself : Stmt := PySem.Challenge.pw_crossedwishes_k39_whole_nothing_refused.main.body.getD 60 (.Pass ⟨0, 0, 0, 0⟩)
abbrev N_law_of_itself : List Str := ["_law_pen_here", "_law_pair", "_law_at", "_law_way", "_law_end", "_law_other", "_law_wish"]
theorem sc_law_of_itself : FnScope N_law_of_itself ["_law_pen_here", "_law_pair", "_law_at", "_law_way"] (defScope st_law_of_itself) := ⟨rfl, rfl, rfl, by decide +kernel, rfl, by decide +kernel, by decide +kernel⟩
theorem ok_law_of_itself {P : Program} {w : World} {K : PySem.W.Frag} {mg : Str → Option Value} {base : Heap} {f : Addr} {fd : FuncData} {dvs : List V} {kws : List (Str × V)} (T : Txt P w K mg) (F : FunD K "_law_of_itself" "_law_of_itself" (defArgs st_law_of_itself) (defBody st_law_of_itself) (defScope st_law_of_itself) dvs kws f fd) (c_law_done : Callee P w K mg base "_law_done" 1 [] 3 m_law_done) (c_opened_tries : CalleeK P w K mg base "opened" 4 1 ["tries"] (fun as bs => as ++ bs) 2 m_opened) (c_closing : Callee P w K mg base "closing" 3 [] 1 m_closing) (c_law_wishes : Callee P w K mg base "_law_wishes" 3 [] 3 m_law_wishes) (c_law_draw : Callee P w K mg base "_law_draw" 1 [] 2 m_law_draw) (c_wished_tries : CalleeK P w K mg base "wished" 3 2 ["tries"] (fun as bs => as ++ bs) 3 m_wished) (c_ticked : Callee P w K mg base "ticked" 3 [] 1 m_ticked) : FnOk P w K mg base CX0 5 f fd ["_law_pen_here", "_law_pair", "_law_at", "_law_way"] (spM K 4 m_law_of_itself) := by
  refine def_ok F sc_law_of_itself fun cdv A outer s H E hr => ?_
  have hu := hu_room hr
  have nd := sc_law_of_itself.nd
  exact (sms_cons (sm_asg (em_sub hu (em_var (pv 1)) (em_sub hu (em_sub hu (em_var (pv 1)) em_str) (em_var (pv 2)))) (gm_name nd rfl (by first | exact .inl rfl | exact .inr rfl)))
    (sms_one (sm_if (tm_cmp (cm_eq hu (em_sub hu (em_var (pv 4)) em_int) em_str)) (sms_one (sm_expr (em_call c_law_done (hr.mono (by decide)) (am_cons (em_var (pv 1)) (am_cons (em_var (pv 2)) (am_cons (em_callK c_opened_tries (hr.mono (by decide)) (am_cons (em_var (pv 4)) am_nil) (km_cons (em_sub hu (em_var (pv 1)) em_str) km_nil)) am_nil)))))) (sms_one (sm_if (tm_cmp (cm_eq hu (em_var (pv 3)) em_int)) (sms_one (sm_expr (em_call c_law_done (hr.mono (by decide)) (am_cons (em_var (pv 1)) (am_cons (em_var (pv 2)) (am_cons (em_call c_closing (hr.mono (by decide)) (am_cons (em_var (pv 4)) am_nil)) am_nil)))))) (sms_one (sm_if (tm_cmp (cm_eq hu (em_var (pv 3)) em_int)) (sms_cons (sm_asg (em_call c_law_wishes (hr.mono (by decide)) (am_cons (em_var (pv 0)) (am_cons (em_lc (own := [("_law_wish", 6)]) rfl nd (im_seq (em_sub hu (em_var (pv 4)) em_int)) (blkOk_by (N := N_law_of_itself) (sc := defScope st_law_of_itself) (by decide +kernel)) (fun _ _ _ _ _ => (gm_name nd rfl (by first | exact .inl rfl | exact .inr rfl))) (fun _ _ _ _ _ => (ptm_one (tm_cmp (cm_gt (em_call c_law_draw (hr.mono (by decide)) (am_cons (em_var (pv 0)) (am_cons em_int am_nil))) em_int)))) (fun _ _ _ _ _ => (em_sub hu (em_var (pv 6)) em_int))) (am_cons em_int am_nil)))) (gm_name nd rfl (by first | exact .inl rfl | exact .inr rfl)))
    (sms_cons (sm_put hu (em_var (pv 1)) em_str (em_catL (em_sub hu (em_var (pv 1)) em_str) (em_lst (am_cons (em_sub hu (em_var (pv 4)) em_int) am_nil))))
    (sms_one (sm_expr (em_call c_law_done (hr.mono (by decide)) (am_cons (em_var (pv 1)) (am_cons (em_var (pv 2)) (am_cons (em_callK c_wished_tries (hr.mono (by decide)) (am_cons (em_var (pv 4)) (am_cons (em_var (pv 5)) am_nil)) (km_cons (em_sub hu (em_var (pv 1)) em_str) km_nil)) am_nil)))))))) (sms_one (sm_expr (em_call c_law_done (hr.mono (by decide)) (am_cons (em_var (pv 1)) (am_cons (em_var (pv 2)) (am_cons (em_call c_ticked (hr.mono (by decide)) (am_cons (em_var (pv 4)) am_nil)) am_nil)))))))))))))
abbrev st_heard_echo : Stmt := PySem.Challenge.pw_crossedwishes_k39_whole_nothing_refused.main.body.getD 43 (.Pass ⟨0, 0, 0, 0⟩)
abbrev N_heard_echo : List Str := ["known"]
theorem sc_heard_echo : FnScope N_heard_echo ["known"] (defScope st_heard_echo) := ⟨rfl, rfl, rfl, by decide +kernel, rfl, by decide +kernel, by decide +kernel⟩
theorem ok_heard_echo {P : Program} {w : World} {K : PySem.W.Frag} {mg : Str → Option Value} {base : Heap} {f : Addr} {fd : FuncData} {dvs : List V} {kws : List (Str × V)} (T : Txt P w K mg) (F : FunD K "heard_echo" "heard_echo" (defArgs st_heard_echo) (defBody st_heard_echo) (defScope st_heard_echo) dvs kws f fd) (c_shut_is_told : CalleeK P w K mg base "shut" 2 2 ["is_told"] (fun as bs => as ++ bs) 3 m_shut) : FnOk P w K mg base CX0 3 f fd ["known"] (spM K 1 m_heard_echo) := by
  obtain ⟨_, hMOST_ECHOES⟩ := T.g_MOST_ECHOES
  refine def_ok F sc_heard_echo fun cdv A outer s H E hr => ?_
  have hu := hu_room hr
  have nd := sc_heard_echo.nd
  exact (sms_cons (sm_if (tm_cmp (cm_ne hu (em_sub hu (em_var (pv 0)) em_str) em_str)) (sms_cons (sm_augAdd hu (em_var (pv 0)) em_str em_int)
    (sms_one (sm_if (tm_cmp (cm_eq hu (em_sub hu (em_var (pv 0)) em_str) (em_gint rfl hMOST_ECHOES))) (sms_one (sm_ret (em_callK c_shut_is_told (hr.mono (by decide)) (am_cons (em_var (pv 0)) (am_cons em_str am_nil)) (km_cons em_bl km_nil)))) sms_nil))) sms_nil)
    (sms_one (sm_ret (em_lst am_nil))))
abbrev st_letter_back : Stmt := PySem.Challenge.pw_crossedwishes_k39_whole_nothing_refused.main.body.getD 40 (.Pass ⟨0, 0, 0, 0⟩)
abbrev N_letter_back : List Str := ["letter", "other", "who", "word", "mine", "yours", "number", "pairs"]
theorem sc_letter_back : FnScope N_letter_back ["letter", "other"] (defScope st_letter_back) := ⟨rfl, rfl, rfl, by decide +kernel, rfl, by decide +kernel, by decide +kernel⟩
theorem ok_letter_back {P : Program} {w : World} {K : PySem.W.Frag} {mg : Str → Option Value} {base : Heap} {f : Addr} {fd : FuncData} {dvs : List V} {kws : List (Str × V)} (T : Txt P w K mg) (F : FunD K "letter_back" "letter_back" (defArgs st_letter_back) (defBody st_letter_back) (defScope st_letter_back) dvs kws f fd)  : FnOk P w K mg base CX0 1 f fd ["letter", "other"] (spM K 2 m_letter_back) := by
  refine def_ok F sc_letter_back fun cdv A outer s H E hr => ?_
  have hu := hu_room hr
  have nd := sc_letter_back.nd
  exact (sms_cons (sm_asg (em_var (pv 0)) (gm_tup rfl (gms_cons (gm_name nd rfl (by first | exact .inl rfl | exact .inr rfl)) (gms_cons (gm_name nd rfl (by first | exact .inl rfl | exact .inr rfl)) (gms_cons (gm_name nd rfl (by first | exact .inl rfl | exact .inr rfl)) (gms_cons (gm_name nd rfl (by first | exact .inl rfl | exact .inr rfl)) (gms_cons (gm_name nd rfl (by first | exact .inl rfl | exact .inr rfl)) (gms_cons (gm_name nd rfl (by first | exact .inl rfl | exact .inr rfl)) gms_nil))))))))
    (sms_one (sm_ret (em_tup (am_cons (em_var (pv 1)) (am_cons em_str (am_cons (em_var (pv 5)) (am_cons (em_var (pv 4)) (am_cons em_int (am_cons (em_tup am_nil) am_nil))))))))))
abbrev st_heard_closed : Stmt := PySem.Challenge.pw_crossedwishes_k39_whole_nothing_refused.main.body.getD 44 (.Pass ⟨0, 0, 0, 0⟩)
abbrev N_heard_closed : List Str := ["known", "letter", "who", "word", "mine", "yours", "rest"]
theorem sc_heard_closed : FnScope N_heard_closed ["known", "letter"] (defScope st_heard_closed) := ⟨rfl, rfl, rfl, by decide +kernel, rfl, by decide +kernel, by decide +kernel⟩
theorem ok_heard_closed {P : Program} {w : World} {K : PySem.W.Frag} {mg : Str → Option Value} {base : Heap} {f : Addr} {fd : FuncData} {dvs : List V} {kws : List (Str × V)} (T : Txt P w K mg) (F : FunD K "heard_closed" "heard_closed" (defArgs st_heard_closed) (defBody st_heard_closed) (defScope st_heard_closed) dvs kws f fd) (c_letter_back : Callee P w K mg base "letter_back" 1 [] 2 m_letter_back) : FnOk P w K mg base CX0 2 f fd ["known", "letter"] (spM K 2 m_heard_closed) := by
  refine def_ok F sc_heard_closed fun cdv A outer s H E hr => ?_
  have hu := hu_room hr
  have nd := sc_heard_closed.nd
  exact (sms_cons (sm_asg (em_var (pv 1)) (gm_star rfl (gms_cons (gm_name nd rfl (by first | exact .inl rfl | exact .inr rfl)) (gms_cons (gm_name nd rfl (by first | exact .inl rfl | exact .inr rfl)) (gms_cons (gm_name nd rfl (by first | exact .inl rfl | exact .inr rfl)) (gms_cons (gm_name nd rfl (by first | exact .inl rfl | exact .inr rfl)) (gms_star (gm_name nd rfl (by first | exact .inl rfl | exact .inr rfl)) gms_nil)))))))
    (sms_cons (sm_if (PW.pt (wm_or (tm_cmp (cm_eq hu (em_var (pv 5)) em_int)) (wm_or (tm_cmp (cm_ne hu (em_var (pv 5)) (em_sub hu (em_var (pv 0)) em_str))) (wm_or1 (tm_cmp (cm_eq hu (em_var (pv 3)) em_str)))))) (sms_one (sm_ret (em_lst am_nil))) sms_nil)
    (sms_one (sm_ret (em_lst (am_cons (em_call c_letter_back (hr.mono (by decide)) (am_cons (em_var (pv 1)) (am_cons (em_sub hu (em_var (pv 0)) em_str) am_nil))) am_nil))))))
abbrev st_is_tuple : Stmt := PySem.Challenge.pw_crossedwishes_k39_whole_nothing_refused.main.body.getD 11 (.Pass ⟨0, 0, 0, 0⟩)
abbrev N_is_tuple : List Str := ["thing", "least", "most"]
theorem sc_is_tuple : FnScope N_is_tuple ["thing", "least", "most"] (defScope st_is_tuple) := ⟨rfl, rfl, rfl, by decide +kernel, rfl, by decide +kernel, by decide +kernel⟩
theorem ok_is_tuple {P : Program} {w : World} {K : PySem.W.Frag} {mg : Str → Option Value} {base : Heap} {f : Addr} {fd : FuncData} {dvs : List V} {kws : List (Str × V)} (T : Txt P w K mg) (F : FunD K "is_tuple" "is_tuple" (defArgs st_is_tuple) (defBody st_is_tuple) (defScope st_is_tuple) dvs kws f fd)  : FnOk P w K mg base CX0 1 f fd ["thing", "least", "most"] (spM K 3 m_is_tuple) := by
  refine def_ok F sc_is_tuple fun cdv A outer s H E hr => ?_
  have hu := hu_room hr
  have nd := sc_is_tuple.nd
  exact (sms_one (sm_ret (em_and (em_isi rfl T.n_isinstance bt_isinstance rfl T.n_tuple bt_tuple (em_var (pv 0))) (em_one (em_chLe (em_var (pv 1)) (em_len T.n_len (am_cons (em_var (pv 0)) am_nil)) (em_var (pv 2)))))))
abbrev st_is_name : Stmt := PySem.Challenge.pw_crossedwishes_k39_whole_nothing_refused.main.body.getD 9 (.Pass ⟨0, 0, 0, 0⟩)
abbrev N_is_name : List Str := ["thing", "sign"]
theorem sc_is_name : FnScope N_is_name ["thing"] (defScope st_is_name) := ⟨rfl, rfl, rfl, by decide +kernel, rfl, by decide +kernel, by decide +kernel⟩
theorem ok_is_name {P : Program} {w : World} {K : PySem.W.Frag} {mg : Str → Option Value} {base : Heap} {f : Addr} {fd : FuncData} {dvs : List V} {kws : List (Str × V)} (T : Txt P w K mg) (F : FunD K "is_name" "is_name" (defArgs st_is_name) (defBody st_is_name) (defScope st_is_name) dvs kws f fd)  : FnOk P w K mg base CX0 1 f fd ["thing"] (spM K 1 m_is_name) := by
  obtain ⟨_, hLETTERS⟩ := T.g_LETTERS
  obtain ⟨_, hLONGEST⟩ := T.g_LONGEST
  refine def_ok F sc_is_name fun cdv A outer s H E hr => ?_
  have hu := hu_room hr
  have nd := sc_is_name.nd
  exact (sms_one (sm_ret (em_and (em_isi rfl T.n_isinstance bt_isinstance rfl T.n_str bt_str (em_var (pv 0))) (em_and (em_chLe em_int (em_len T.n_len (am_cons (em_var (pv 0)) am_nil)) (em_gint rfl hLONGEST)) (em_one (em_all rfl T.n_all (am_cons (em_lc (own := [("sign", 1)]) rfl nd (im_str (em_var (pv 0))) (blkOk_by (N := N_is_name) (sc := defScope st_is_name) (by decide +kernel)) (fun _ _ _ _ _ => (gm_name nd rfl (by first | exact .inl rfl | exact .inr rfl))) (fun _ _ _ _ _ => ptm_nil) (fun _ _ _ _ _ => (em_cmp (cm_in hu (em_var (pv 1)) (em_gstr rfl hLETTERS))))) am_nil)))))))
abbrev st_is_worth : Stmt := PySem.Challenge.pw_crossedwishes_k39_whole_nothing_refused.main.body.getD 10 (.Pass ⟨0, 0, 0, 0⟩)
abbrev N_is_worth : List Str := ["thing"]
theorem sc_is_worth : FnScope N_is_worth ["thing"] (defScope st_is_worth) := ⟨rfl, rfl, rfl, by decide +kernel, rfl, by decide +kernel, by decide +kernel⟩
theorem ok_is_worth {P : Program} {w : World} {K : PySem.W.Frag} {mg : Str → Option Value} {base : Heap} {f : Addr} {fd : FuncData} {dvs : List V} {kws : List (Str × V)} (T : Txt P w K mg) (F : FunD K "is_worth" "is_worth" (defArgs st_is_worth) (defBody st_is_worth) (defScope st_is_worth) dvs kws f fd)  : FnOk P w K mg base CX0 1 f fd ["thing"] (spM K 1 m_is_worth) := by
  obtain ⟨_, hGREATEST⟩ := T.g_GREATEST
  refine def_ok F sc_is_worth fun cdv A outer s H E hr => ?_
  have hu := hu_room hr
  have nd := sc_is_worth.nd
  exact (sms_one (sm_ret (em_and (em_isi rfl T.n_isinstance bt_isinstance rfl T.n_int bt_int (em_var (pv 0))) (em_and (em_not (em_isi rfl T.n_isinstance bt_isinstance rfl T.n_bool bt_bool (em_var (pv 0)))) (em_one (em_chLe em_int (em_var (pv 0)) (em_gint rfl hGREATEST)))))))
abbrev st_is_pair : Stmt := PySem.Challenge.pw_crossedwishes_k39_whole_nothing_refused.main.body.getD 12 (.Pass ⟨0, 0, 0, 0⟩)
abbrev N_is_pair : List Str := ["thing"]
theorem sc_is_pair : FnScope N_is_pair ["thing"] (defScope st_is_pair) := ⟨rfl, rfl, rfl, by decide +kernel, rfl, by decide +kernel, by decide +kernel⟩
theorem ok_is_pair {P : Program} {w : World} {K : PySem.W.Frag} {mg : Str → Option Value} {base : Heap} {f : Addr} {fd : FuncData} {dvs : List V} {kws : List (Str × V)} (T : Txt P w K mg) (F : FunD K "is_pair" "is_pair" (defArgs st_is_pair) (defBody st_is_pair) (defScope st_is_pair) dvs kws f fd) (c_is_tuple : Callee P w K mg base "is_tuple" 1 [] 3 m_is_tuple) (c_is_name : Callee P w K mg base "is_name" 1 [] 1 m_is_name) (c_is_worth : Callee P w K mg base "is_worth" 1 [] 1 m_is_worth) : FnOk P w K mg base CX0 2 f fd ["thing"] (spM K 1 m_is_pair) := by
  refine def_ok F sc_is_pair fun cdv A outer s H E hr => ?_
  have hu := hu_room hr
  have nd := sc_is_pair.nd
  exact (sms_one (sm_ret (em_and (em_call c_is_tuple (hr.mono (by decide)) (am_cons (em_var (pv 0)) (am_cons em_int (am_cons em_int am_nil)))) (em_and (em_call c_is_name (hr.mono (by decide)) (am_cons (em_sub hu (em_var (pv 0)) em_int) am_nil)) (em_one (em_call c_is_worth (hr.mono (by decide)) (am_cons (em_sub hu (em_var (pv 0)) em_int) am_nil)))))))
end Cw
end
section
namespace Cw
open PySem PySem.Spec PyProof.Rows L2
abbrev st_are_pairs : Stmt := PySem.Challenge.pw_crossedwishes_k39_whole_nothing_refused.main.body.getD 32 (.Pass ⟨0, 0, 0, 0⟩)
abbrev N_are_pairs : List Str := ["thing", "one"]
theorem sc_are_pairs : FnScope N_are_pairs ["thing"] (defScope st_are_pairs) := ⟨rfl, rfl, rfl, by decide +kernel, rfl, by decide +kernel, by decide +kernel⟩
theorem ok_are_pairs {P : Program} {w : World} {K : PySem.W.Frag} {mg : Str → Option Value} {base : Heap} {f : Addr} {fd : FuncData} {dvs : List V} {kws : List (Str × V)} (T : Txt P w K mg) (F : FunD K "are_pairs" "are_pairs" (defArgs st_are_pairs) (defBody st_are_pairs) (defScope st_are_pairs) dvs kws f fd) (c_is_pair : Callee P w K mg base "is_pair" 2 [] 1 m_is_pair) : FnOk P w K mg base CX0 3 f fd ["thing"] (spM K 1 m_are_pairs) := by
  refine def_ok F sc_are_pairs fun cdv A outer s H E hr => ?_
  have hu := hu_room hr
  have nd := sc_are_pairs.nd
  exact (sms_one (sm_ret (em_and (em_isi rfl T.n_isinstance bt_isinstance rfl T.n_tuple bt_tuple (em_var (pv 0))) (em_one (em_all rfl T.n_all (am_cons (em_lc (own := [("one", 1)]) rfl nd (im_seq (em_var (pv 0))) (blkOk_by (N := N_are_pairs) (sc := defScope st_are_pairs) (by decide +kernel)) (fun _ _ _ _ _ => (gm_name nd rfl (by first | exact .inl rfl | exact .inr rfl))) (fun _ _ _ _ _ => ptm_nil) (fun _ _ _ _ _ => (em_call c_is_pair (hr.mono (by decide)) (am_cons (em_var (pv 1)) am_nil)))) am_nil))))))
abbrev st_is_said : Stmt := PySem.Challenge.pw_crossedwishes_k39_whole_nothing_refused.main.body.getD 33 (.Pass ⟨0, 0, 0, 0⟩)
abbrev N_is_said : List Str := ["thing"]
theorem sc_is_said : FnScope N_is_said ["thing"] (defScope st_is_said) := ⟨rfl, rfl, rfl, by decide +kernel, rfl, by decide +kernel, by decide +kernel⟩
theorem ok_is_said {P : Program} {w : World} {K : PySem.W.Frag} {mg : Str → Option Value} {base : Heap} {f : Addr} {fd : FuncData} {dvs : List V} {kws : List (Str × V)} (T : Txt P w K mg) (F : FunD K "is_said" "is_said" (defArgs st_is_said) (defBody st_is_said) (defScope st_is_said) dvs kws f fd) (c_is_tuple : Callee P w K mg base "is_tuple" 1 [] 3 m_is_tuple) (c_are_pairs : Callee P w K mg base "are_pairs" 3 [] 1 m_are_pairs) : FnOk P w K mg base CX0 4 f fd ["thing"] (spM K 1 m_is_said) := by
  refine def_ok F sc_is_said fun cdv A outer s H E hr => ?_
  have hu := hu_room hr
  have nd := sc_is_said.nd
  exact (sms_one (sm_ret (em_and (em_call c_is_tuple (hr.mono (by decide)) (am_cons (em_var (pv 0)) (am_cons em_int (am_cons em_int am_nil)))) (em_and (em_isi rfl T.n_isinstance bt_isinstance rfl T.n_str bt_str (em_sub hu (em_var (pv 0)) em_int)) (em_one (em_call c_are_pairs (hr.mono (by decide)) (am_cons (em_sub hu (em_var (pv 0)) em_int) am_nil)))))))
abbrev st_kinds_in : Stmt := PySem.Challenge.pw_crossedwishes_k39_whole_nothing_refused.main.body.getD 34 (.Pass ⟨0, 0, 0, 0⟩)
abbrev N_kinds_in : List Str := ["pairs", "kind", "worth"]
theorem sc_kinds_in : FnScope N_kinds_in ["pairs"] (defScope st_kinds_in) := ⟨rfl, rfl, rfl, by decide +kernel, rfl, by decide +kernel, by decide +kernel⟩
theorem ok_kinds_in {P : Program} {w : World} {K : PySem.W.Frag} {mg : Str → Option Value} {base : Heap} {f : Addr} {fd : FuncData} {dvs : List V} {kws : List (Str × V)} (T : Txt P w K mg) (F : FunD K "kinds_in" "kinds_in" (defArgs st_kinds_in) (defBody st_kinds_in) (defScope st_kinds_in) dvs kws f fd)  : FnOk P w K mg base CX0 1 f fd ["pairs"] (spM K 1 m_kinds_in) := by
  refine def_ok F sc_kinds_in fun cdv A outer s H E hr => ?_
  have hu := hu_room hr
  have nd := sc_kinds_in.nd
  exact (sms_one (sm_ret (em_lc (own := [("kind", 1), ("worth", 2)]) rfl nd (im_seq (em_var (pv 0))) (blkOk_by (N := N_kinds_in) (sc := defScope st_kinds_in) (by decide +kernel)) (fun _ _ _ _ _ => (gm_tup rfl (gms_cons (gm_name nd rfl (by first | exact .inl rfl | exact .inr rfl)) (gms_cons (gm_name nd rfl (by first | exact .inl rfl | exact .inr rfl)) gms_nil)))) (fun _ _ _ _ _ => ptm_nil) (fun _ _ _ _ _ => (em_var (pv 1))))))
abbrev st_are_refusals : Stmt := PySem.Challenge.pw_crossedwishes_k39_whole_nothing_refused.main.body.getD 36 (.Pass ⟨0, 0, 0, 0⟩)
abbrev N_are_refusals : List Str := ["word", "pairs", "ask", "kinds", "places", "kind", "pair", "place", "later"]
theorem sc_are_refusals : FnScope N_are_refusals ["word", "pairs", "ask"] (defScope st_are_refusals) := ⟨rfl, rfl, rfl, by decide +kernel, rfl, by decide +kernel, by decide +kernel⟩
theorem ok_are_refusals {P : Program} {w : World} {K : PySem.W.Frag} {mg : Str → Option Value} {base : Heap} {f : Addr} {fd : FuncData} {dvs : List V} {kws : List (Str × V)} (T : Txt P w K mg) (F : FunD K "are_refusals" "are_refusals" (defArgs st_are_refusals) (defBody st_are_refusals) (defScope st_are_refusals) dvs kws f fd) (c_kinds_in : Callee P w K mg base "kinds_in" 1 [] 1 m_kinds_in) : FnOk P w K mg base CX0 2 f fd ["word", "pairs", "ask"] (spM K 3 m_are_refusals) := by
  refine def_ok F sc_are_refusals fun cdv A outer s H E hr => ?_
  have hu := hu_room hr
  have nd := sc_are_refusals.nd
  exact (sms_cons (sm_asg (em_call c_kinds_in (hr.mono (by decide)) (am_cons (em_var (pv 2)) am_nil)) (gm_name nd rfl (by first | exact .inl rfl | exact .inr rfl)))
    (sms_cons (sm_if (PW.pt (wm_or (tm_cmp (cm_eq hu (em_var (pv 1)) (em_tup am_nil))) (wm_or1 (tm_not (tm_val (em_all rfl T.n_all (am_cons (em_lc (own := [("kind", 5)]) rfl nd (im_seq (em_call c_kinds_in (hr.mono (by decide)) (am_cons (em_var (pv 1)) am_nil))) (blkOk_by (N := N_are_refusals) (sc := defScope st_are_refusals) (by decide +kernel)) (fun _ _ _ _ _ => (gm_name nd rfl (by first | exact .inl rfl | exact .inr rfl))) (fun _ _ _ _ _ => ptm_nil) (fun _ _ _ _ _ => (em_cmp (cm_in hu (em_var (pv 5)) (em_var (pv 3)))))) am_nil))))))) (sms_one (sm_ret em_bl)) sms_nil)
    (sms_cons (sm_setLc (own := [("kind", 5)]) rfl nd rfl rfl (sw_true rfl rfl rfl (by decide +kernel)) (im_seq (em_call c_kinds_in (hr.mono (by decide)) (am_cons (em_var (pv 1)) am_nil))) (blkOk_by (N := N_are_refusals) (sc := defScope st_are_refusals) (by decide +kernel)) (fun _ _ _ _ _ => (gm_name nd rfl (by first | exact .inl rfl | exact .inr rfl))) (fun _ _ _ _ _ => ptm_nil) (fun _ _ _ _ _ => (em_index hu (em_var (pv 3)) (am_cons (em_var (pv 5)) am_nil))))
    (sms_cons (sm_if (tm_not (tm_val (em_all rfl T.n_all (am_cons (em_lc (own := [("place", 7), ("later", 8)]) rfl nd (im_zip false false rfl T.n_zip (am_cons (em_var (pv 4)) (am_cons (em_slice (em_var (pv 4)) pk_int pk_none) am_nil))) (blkOk_by (N := N_are_refusals) (sc := defScope st_are_refusals) (by decide +kernel)) (fun _ _ _ _ _ => (gm_tup rfl (gms_cons (gm_name nd rfl (by first | exact .inl rfl | exact .inr rfl)) (gms_cons (gm_name nd rfl (by first | exact .inl rfl | exact .inr rfl)) gms_nil)))) (fun _ _ _ _ _ => ptm_nil) (fun _ _ _ _ _ => (em_cmp (cm_lt (em_var (pv 7)) (em_var (pv 8)))))) am_nil)))) (sms_one (sm_ret em_bl)) sms_nil)
    (sms_one (sm_ret (em_all rfl T.n_all (am_cons (em_lc (own := [("pair", 6)]) rfl nd (im_seq (em_var (pv 1))) (blkOk_by (N := N_are_refusals) (sc := defScope st_are_refusals) (by decide +kernel)) (fun _ _ _ _ _ => (gm_name nd rfl (by first | exact .inl rfl | exact .inr rfl))) (fun _ _ _ _ _ => ptm_nil) (fun _ _ _ _ _ => (em_cmp (cm_eq hu (em_cmp (cm_in hu (em_var (pv 6)) (em_var (pv 2)))) (em_cmp (cm_eq hu (em_var (pv 0)) em_str)))))) am_nil))))))))
abbrev st_left_behind : Stmt := PySem.Challenge.pw_crossedwishes_k39_whole_nothing_refused.main.body.getD 37 (.Pass ⟨0, 0, 0, 0⟩)
abbrev N_left_behind : List Str := ["word", "worth", "left", "rest", "one"]
theorem sc_left_behind : FnScope N_left_behind ["word", "worth", "left"] (defScope st_left_behind) := ⟨rfl, rfl, rfl, by decide +kernel, rfl, by decide +kernel, by decide +kernel⟩
theorem ok_left_behind {P : Program} {w : World} {K : PySem.W.Frag} {mg : Str → Option Value} {base : Heap} {f : Addr} {fd : FuncData} {dvs : List V} {kws : List (Str × V)} (T : Txt P w K mg) (F : FunD K "left_behind" "left_behind" (defArgs st_left_behind) (defBody st_left_behind) (defScope st_left_behind) dvs kws f fd)  : FnOk P w K mg base CX0 1 f fd ["word", "worth", "left"] (spM K 3 m_left_behind) := by
  refine def_ok F sc_left_behind fun cdv A outer s H E hr => ?_
  have hu := hu_room hr
  have nd := sc_left_behind.nd
  exact (sms_cons (sm_if (tm_cmp (cm_eq hu (em_var (pv 0)) em_str)) (sms_one (sm_ret (em_tup am_nil))) sms_nil)
    (sms_cons (sm_asg (em_slice (em_var (pv 2)) pk_int pk_none) (gm_name nd rfl (by first | exact .inl rfl | exact .inr rfl)))
    (sms_cons (sm_if (tm_cmp (cm_notIn hu (em_var (pv 1)) (em_var (pv 3)))) (sms_one (sm_ret (em_var (pv 3)))) sms_nil)
    (sms_one (sm_ret (em_catT (em_tup (am_cons (em_var (pv 1)) am_nil)) (em_tuple T.n_tuple (am_cons (em_lc (own := [("one", 4)]) rfl nd (im_seq (em_var (pv 3))) (blkOk_by (N := N_left_behind) (sc := defScope st_left_behind) (by decide +kernel)) (fun _ _ _ _ _ => (gm_name nd rfl (by first | exact .inl rfl | exact .inr rfl))) (fun _ _ _ _ _ => (ptm_one (tm_cmp (cm_ne hu (em_var (pv 4)) (em_var (pv 1)))))) (fun _ _ _ _ _ => (em_var (pv 4)))) am_nil))))))))
abbrev st_behind : Stmt := PySem.Challenge.pw_crossedwishes_k39_whole_nothing_refused.main.body.getD 38 (.Pass ⟨0, 0, 0, 0⟩)
abbrev N_behind : List Str := ["wishes", "plan", "thing", "word", "pairs", "ask", "left", "lacking", "asked", "refused", "kind", "worths", "must", "needs", "worth", "old"]
theorem sc_behind : FnScope N_behind ["wishes", "plan", "thing"] (defScope st_behind) := ⟨rfl, rfl, rfl, by decide +kernel, rfl, by decide +kernel, by decide +kernel⟩
theorem ok_behind {P : Program} {w : World} {K : PySem.W.Frag} {mg : Str → Option Value} {base : Heap} {f : Addr} {fd : FuncData} {dvs : List V} {kws : List (Str × V)} (T : Txt P w K mg) (F : FunD K "behind" "behind" (defArgs st_behind) (defBody st_behind) (defScope st_behind) dvs kws f fd) (c_is_said : Callee P w K mg base "is_said" 4 [] 1 m_is_said) (c_ask_of : Callee P w K mg base "ask_of" 1 [] 2 m_ask_of) (c_are_refusals : Callee P w K mg base "are_refusals" 2 [] 3 m_are_refusals) (c_left_behind : Callee P w K mg base "left_behind" 1 [] 3 m_left_behind) : FnOk P w K mg base CX0 5 f fd ["wishes", "plan", "thing"] (spM K 3 m_behind) := by
  obtain ⟨_, hALL⟩ := T.g_ALL
  refine def_ok F sc_behind fun cdv A outer s H E hr => ?_
  have hu := hu_room hr
  have nd := sc_behind.nd
  exact (sms_cons (sm_if (tm_not (tm_val (em_call c_is_said (hr.mono (by decide)) (am_cons (em_var (pv 2)) am_nil)))) (sms_one (sm_ret em_non)) sms_nil)
    (sms_cons (sm_asg (em_var (pv 2)) (gm_tup rfl (gms_cons (gm_name nd rfl (by first | exact .inl rfl | exact .inr rfl)) (gms_cons (gm_name nd rfl (by first | exact .inl rfl | exact .inr rfl)) gms_nil))))
    (sms_cons (sm_asg (em_call c_ask_of (hr.mono (by decide)) (am_cons (em_var (pv 0)) (am_cons (em_var (pv 1)) am_nil))) (gm_name nd rfl (by first | exact .inl rfl | exact .inr rfl)))
    (sms_cons (sm_if (tm_cmp (cm_eq hu (em_var (pv 3)) em_str)) (sms_one (sm_ret (em_if (tm_cmp (cm_eq hu (em_var (pv 4)) (em_var (pv 5)))) (em_tup (am_cons em_str (am_cons (em_var (pv 5)) am_nil))) em_non))) sms_nil)
    (sms_cons (sm_if (PW.pt (wm_or (tm_cmp (cm_notIn hu (em_var (pv 3)) (em_tup (am_cons em_str (am_cons em_str am_nil))))) (wm_or1 (tm_not (tm_val (em_call c_are_refusals (hr.mono (by decide)) (am_cons (em_var (pv 3)) (am_cons (em_var (pv 4)) (am_cons (em_var (pv 5)) am_nil))))))))) (sms_one (sm_ret em_non)) sms_nil)
    (sms_cons (sm_asg (em_dict rfl T.n_dict (am_cons (em_var (pv 1)) am_nil)) (gm_name nd rfl (by first | exact .inl rfl | exact .inr rfl)))
    (sms_cons (sm_expr (em_dupd (em_var (pv 6)) (em_dc (own := [("kind", 10), ("worth", 14)]) rfl nd (im_seq (em_var (pv 4))) (blkOk_by (N := N_behind) (sc := defScope st_behind) (by decide +kernel)) (fun _ _ _ _ _ => (gm_tup rfl (gms_cons (gm_name nd rfl (by first | exact .inl rfl | exact .inr rfl)) (gms_cons (gm_name nd rfl (by first | exact .inl rfl | exact .inr rfl)) gms_nil)))) (fun _ _ _ _ _ => ptm_nil) (fun _ _ _ _ _ => (em_var (pv 10))) (fun _ _ _ _ _ => (em_call c_left_behind (hr.mono (by decide)) (am_cons (em_var (pv 3)) (am_cons (em_var (pv 14)) (am_cons (em_sub hu (em_var (pv 6)) (em_var (pv 10))) am_nil))))))))
    (sms_cons (sm_setLc (own := [("kind", 10), ("worths", 11), ("must", 12), ("needs", 13)]) rfl nd rfl rfl (sw_true rfl rfl rfl (by decide +kernel)) (im_seq (em_var (pv 0))) (blkOk_by (N := N_behind) (sc := defScope st_behind) (by decide +kernel)) (fun _ _ _ _ _ => (gm_tup rfl (gms_cons (gm_name nd rfl (by first | exact .inl rfl | exact .inr rfl)) (gms_cons (gm_name nd rfl (by first | exact .inl rfl | exact .inr rfl)) (gms_cons (gm_name nd rfl (by first | exact .inl rfl | exact .inr rfl)) (gms_cons (gm_name nd rfl (by first | exact .inl rfl | exact .inr rfl)) gms_nil)))))) (fun _ _ _ _ _ => (ptm_one (PW.pt (wm_and (tm_val (em_var (pv 12))) (wm_and1 (tm_cmp (cm_eq hu (em_sub hu (em_var (pv 6)) (em_var (pv 10))) (em_tup am_nil)))))))) (fun _ _ _ _ _ => (em_var (pv 10))))
    (sms_cons (sm_if (tm_cmp (cm_ne hu (em_var (pv 7)) (em_lst am_nil))) (sms_one (sm_ret (em_tup (am_cons em_str (am_cons (em_sub hu (em_var (pv 7)) em_int) am_nil))))) sms_nil)
    (sms_cons (sm_asg (em_dict rfl T.n_dict (am_cons (em_var (pv 5)) am_nil)) (gm_name nd rfl (by first | exact .inl rfl | exact .inr rfl)))
    (sms_cons (sm_asg (em_sortL hu T.n_sorted (am_cons (em_lc (own := [("kind", 10), ("worth", 14)]) rfl nd (im_seq (em_var (pv 4))) (blkOk_by (N := N_behind) (sc := defScope st_behind) (by decide +kernel)) (fun _ _ _ _ _ => (gm_tup rfl (gms_cons (gm_name nd rfl (by first | exact .inl rfl | exact .inr rfl)) (gms_cons (gm_name nd rfl (by first | exact .inl rfl | exact .inr rfl)) gms_nil)))) (fun _ _ _ _ _ => ptm_nil) (fun _ _ _ _ _ => (em_tup (am_cons (em_var (pv 10)) (am_cons (em_if (tm_cmp (cm_eq hu (em_var (pv 3)) em_str)) (em_gint rfl hALL) (em_sub hu (em_var (pv 8)) (em_var (pv 10)))) am_nil))))) am_nil)) (gm_name nd rfl (by first | exact .inl rfl | exact .inr rfl)))
    (sms_one (sm_ret (em_tup (am_cons em_str (am_cons (em_tuple T.n_tuple (am_cons (em_lc (own := [("kind", 10), ("old", 15)]) rfl nd (im_seq (em_var (pv 1))) (blkOk_by (N := N_behind) (sc := defScope st_behind) (by decide +kernel)) (fun _ _ _ _ _ => (gm_tup rfl (gms_cons (gm_name nd rfl (by first | exact .inl rfl | exact .inr rfl)) (gms_cons (gm_name nd rfl (by first | exact .inl rfl | exact .inr rfl)) gms_nil)))) (fun _ _ _ _ _ => ptm_nil) (fun _ _ _ _ _ => (em_tup (am_cons (em_var (pv 10)) (am_cons (em_sub hu (em_var (pv 6)) (em_var (pv 10))) am_nil))))) am_nil)) (am_cons (em_tuple T.n_tuple (am_cons (em_var (pv 9)) am_nil)) am_nil)))))))))))))))))
abbrev st_heard_answer : Stmt := PySem.Challenge.pw_crossedwishes_k39_whole_nothing_refused.main.body.getD 46 (.Pass ⟨0, 0, 0, 0⟩)
abbrev N_heard_answer : List Str := ["known", "letter", "tries", "who", "word", "mine", "yours", "number", "pairs", "comes", "first", "rest", "plan", "refused"]
theorem sc_heard_answer : FnScope N_heard_answer ["known", "letter", "tries"] (defScope st_heard_answer) := ⟨rfl, rfl, rfl, by decide +kernel, rfl, by decide +kernel, by decide +kernel⟩
theorem ok_heard_answer {P : Program} {w : World} {K : PySem.W.Frag} {mg : Str → Option Value} {base : Heap} {f : Addr} {fd : FuncData} {dvs : List V} {kws : List (Str × V)} (T : Txt P w K mg) (F : FunD K "heard_answer" "heard_answer" (defArgs st_heard_answer) (defBody st_heard_answer) (defScope st_heard_answer) dvs kws f fd) (c_behind : Callee P w K mg base "behind" 5 [] 3 m_behind) (c_shut : Callee P w K mg base "shut" 2 [.bl true] 3 m_shut) (c_ask_written : Callee P w K mg base "ask_written" 2 [] 1 m_ask_written) : FnOk P w K mg base CX0 6 f fd ["known", "letter", "tries"] (spM K 3 m_heard_answer) := by
  refine def_ok F sc_heard_answer fun cdv A outer s H E hr => ?_
  have hu := hu_room hr
  have nd := sc_heard_answer.nd
  exact (sms_cons (sm_asg (em_var (pv 1)) (gm_tup rfl (gms_cons (gm_name nd rfl (by first | exact .inl rfl | exact .inr rfl)) (gms_cons (gm_name nd rfl (by first | exact .inl rfl | exact .inr rfl)) (gms_cons (gm_name nd rfl (by first | exact .inl rfl | exact .inr rfl)) (gms_cons (gm_name nd rfl (by first | exact .inl rfl | exact .inr rfl)) (gms_cons (gm_name nd rfl (by first | exact .inl rfl | exact .inr rfl)) (gms_cons (gm_name nd rfl (by first | exact .inl rfl | exact .inr rfl)) gms_nil))))))))
    (sms_cons (sm_if (PW.pt (wm_or (tm_cmp (cm_ne hu (em_var (pv 7)) (em_sub hu (em_var (pv 0)) em_str))) (wm_or1 (tm_cmp (cm_isNot (em_sub hu (em_var (pv 0)) em_str) em_non))))) (sms_one (sm_ret (em_lst am_nil))) sms_nil)
    (sms_cons (sm_asg (em_call c_behind (hr.mono (by decide)) (am_cons (em_sub hu (em_var (pv 0)) em_str) (am_cons (em_sub hu (em_var (pv 0)) em_str) (am_cons (em_tup (am_cons (em_var (pv 4)) (am_cons (em_var (pv 8)) am_nil))) am_nil)))) (gm_name nd rfl (by first | exact .inl rfl | exact .inr rfl)))
    (sms_cons (sm_if (tm_cmp (cm_is (em_var (pv 9)) em_non)) (sms_one (sm_ret (em_lst am_nil))) sms_nil)
    (sms_cons (sm_asg (em_var (pv 9)) (gm_star rfl (gms_cons (gm_name nd rfl (by first | exact .inl rfl | exact .inr rfl)) (gms_star (gm_name nd rfl (by first | exact .inl rfl | exact .inr rfl)) gms_nil))))
    (sms_cons (sm_if (tm_cmp (cm_eq hu (em_var (pv 10)) em_str)) (sms_one (sm_ret (em_call c_shut (hr.mono (by decide)) (am_cons (em_var (pv 0)) (am_cons em_str am_nil))))) sms_nil)
    (sms_cons (sm_put hu (em_var (pv 0)) em_str (em_var (pv 2)))
    (sms_cons (sm_if (tm_cmp (cm_eq hu (em_var (pv 10)) em_str)) (sms_cons (sm_put hu (em_var (pv 0)) em_str (em_sub hu (em_var (pv 11)) em_int))
    (sms_one (sm_ret (em_lst am_nil)))) sms_nil)
    (sms_cons (sm_asg (em_var (pv 11)) (gm_lst rfl (gms_cons (gm_name nd rfl (by first | exact .inl rfl | exact .inr rfl)) (gms_cons (gm_name nd rfl (by first | exact .inl rfl | exact .inr rfl)) gms_nil))))
    (sms_cons (sm_expr (em_dupd (em_var (pv 0)) (em_disp (ppm_cons (em_var (pv 12)) (ppm_cons (em_tuple T.n_tuple (am_cons (em_sortSet rfl hu T.n_sorted T.n_set (em_catT (em_sub hu (em_var (pv 0)) em_str) (em_var (pv 13)))) am_nil)) ppm_nil)))))
    (sms_cons (sm_augAdd hu (em_var (pv 0)) em_str em_int)
    (sms_one (sm_ret (em_lst (am_cons (em_call c_ask_written (hr.mono (by decide)) (am_cons (em_var (pv 0)) am_nil)) am_nil)))))))))))))))
abbrev st_answer : Stmt := PySem.Challenge.pw_crossedwishes_k39_whole_nothing_refused.main.body.getD 35 (.Pass ⟨0, 0, 0, 0⟩)
abbrev N_answer : List Str := ["bounds", "ask", "known", "strange", "others", "pair", "kind", "worth"]
theorem sc_answer : FnScope N_answer ["bounds", "ask"] (defScope st_answer) := ⟨rfl, rfl, rfl, by decide +kernel, rfl, by decide +kernel, by decide +kernel⟩
theorem ok_answer {P : Program} {w : World} {K : PySem.W.Frag} {mg : Str → Option Value} {base : Heap} {f : Addr} {fd : FuncData} {dvs : List V} {kws : List (Str × V)} (T : Txt P w K mg) (F : FunD K "answer" "answer" (defArgs st_answer) (defBody st_answer) (defScope st_answer) dvs kws f fd)  : FnOk P w K mg base CX0 1 f fd ["bounds", "ask"] (spM K 2 m_answer) := by
  refine def_ok F sc_answer fun cdv A outer s H E hr => ?_
  have hu := hu_room hr
  have nd := sc_answer.nd
  exact (sms_cons (sm_asg (em_dict rfl T.n_dict (am_cons (em_var (pv 0)) am_nil)) (gm_name nd rfl (by first | exact .inl rfl | exact .inr rfl)))
    (sms_cons (sm_asg (em_tuple T.n_tuple (am_cons (em_lc (own := [("pair", 5)]) rfl nd (im_seq (em_var (pv 1))) (blkOk_by (N := N_answer) (sc := defScope st_answer) (by decide +kernel)) (fun _ _ _ _ _ => (gm_name nd rfl (by first | exact .inl rfl | exact .inr rfl))) (fun _ _ _ _ _ => (ptm_one (tm_cmp (cm_notIn hu (em_sub hu (em_var (pv 5)) em_int) (em_var (pv 2)))))) (fun _ _ _ _ _ => (em_var (pv 5)))) am_nil)) (gm_name nd rfl (by first | exact .inl rfl | exact .inr rfl)))
    (sms_cons (sm_if (tm_cmp (cm_ne hu (em_var (pv 3)) (em_tup am_nil))) (sms_one (sm_ret (em_tup (am_cons em_str (am_cons (em_var (pv 3)) am_nil))))) sms_nil)
    (sms_cons (sm_asg (em_tuple T.n_tuple (am_cons (em_lc (own := [("kind", 6), ("worth", 7)]) rfl nd (im_seq (em_var (pv 1))) (blkOk_by (N := N_answer) (sc := defScope st_answer) (by decide +kernel)) (fun _ _ _ _ _ => (gm_tup rfl (gms_cons (gm_name nd rfl (by first | exact .inl rfl | exact .inr rfl)) (gms_cons (gm_name nd rfl (by first | exact .inl rfl | exact .inr rfl)) gms_nil)))) (fun _ _ _ _ _ => (ptm_one (tm_cmp (cm_notIn hu (em_var (pv 7)) (em_sub hu (em_var (pv 2)) (em_var (pv 6))))))) (fun _ _ _ _ _ => (em_tup (am_cons (em_var (pv 6)) (am_cons (em_sub hu (em_sub hu (em_var (pv 2)) (em_var (pv 6))) em_int) am_nil))))) am_nil)) (gm_name nd rfl (by first | exact .inl rfl | exact .inr rfl)))
    (sms_one (sm_ret (em_if (tm_cmp (cm_ne hu (em_var (pv 4)) (em_tup am_nil))) (em_tup (am_cons em_str (am_cons (em_var (pv 4)) am_nil))) (em_tup (am_cons em_str (am_cons (em_var (pv 1)) am_nil))))))))))
end Cw
end
section
namespace Cw
open PySem PySem.Spec PyProof.Rows L2
abbrev st_heard_ask : Stmt := PySem.Challenge.pw_crossedwishes_k39_whole_nothing_refused.main.body.getD 45 (.Pass ⟨0, 0, 0, 0⟩)
abbrev N_heard_ask : List Str := ["known", "letter", "bounds", "ahead", "number", "pairs", "word", "told"]
theorem sc_heard_ask : FnScope N_heard_ask ["known", "letter", "bounds"] (defScope st_heard_ask) := ⟨rfl, rfl, rfl, by decide +kernel, rfl, by decide +kernel, by decide +kernel⟩
theorem ok_heard_ask {P : Program} {w : World} {K : PySem.W.Frag} {mg : Str → Option Value} {base : Heap} {f : Addr} {fd : FuncData} {dvs : List V} {kws : List (Str × V)} (T : Txt P w K mg) (F : FunD K "heard_ask" "heard_ask" (defArgs st_heard_ask) (defBody st_heard_ask) (defScope st_heard_ask) dvs kws f fd) (c_answer : Callee P w K mg base "answer" 1 [] 2 m_answer) (c_written_number_pairs : CalleeK P w K mg base "written" 1 2 ["number", "pairs"] (fun as bs => as ++ bs) 4 m_written) : FnOk P w K mg base CX0 2 f fd ["known", "letter", "bounds"] (spM K 3 m_heard_ask) := by
  refine def_ok F sc_heard_ask fun cdv A outer s H E hr => ?_
  have hu := hu_room hr
  have nd := sc_heard_ask.nd
  exact (sms_cons (sm_asg (em_var (pv 1)) (gm_star rfl (gms_star (gm_name nd rfl (by first | exact .inl rfl | exact .inr rfl)) (gms_cons (gm_name nd rfl (by first | exact .inl rfl | exact .inr rfl)) (gms_cons (gm_name nd rfl (by first | exact .inl rfl | exact .inr rfl)) gms_nil)))))
    (sms_cons (sm_if (tm_cmp (cm_lt (em_var (pv 4)) (em_sub hu (em_var (pv 0)) em_str))) (sms_one (sm_ret (em_lst am_nil))) sms_nil)
    (sms_cons (sm_if (tm_cmp (cm_gt (em_var (pv 4)) (em_sub hu (em_var (pv 0)) em_str))) (sms_cons (sm_asg (em_call c_answer (hr.mono (by decide)) (am_cons (em_var (pv 2)) (am_cons (em_var (pv 5)) am_nil))) (gm_tup rfl (gms_cons (gm_name nd rfl (by first | exact .inl rfl | exact .inr rfl)) (gms_cons (gm_name nd rfl (by first | exact .inl rfl | exact .inr rfl)) gms_nil))))
    (sms_cons (sm_expr (em_dupd (em_var (pv 0)) (em_disp (ppm_cons (em_var (pv 4)) (ppm_cons (em_if (tm_cmp (cm_eq hu (em_var (pv 6)) em_str)) (em_var (pv 5)) em_non) ppm_nil)))))
    (sms_one (sm_put hu (em_var (pv 0)) em_str (em_callK c_written_number_pairs (hr.mono (by decide)) (am_cons (em_var (pv 0)) (am_cons (em_var (pv 6)) am_nil)) (km_cons (em_var (pv 4)) (km_cons (em_var (pv 7)) km_nil))))))) sms_nil)
    (sms_one (sm_ret (em_lst (am_cons (em_sub hu (em_var (pv 0)) em_str) am_nil)))))))
abbrev st_heard_word : Stmt := PySem.Challenge.pw_crossedwishes_k39_whole_nothing_refused.main.body.getD 47 (.Pass ⟨0, 0, 0, 0⟩)
abbrev N_heard_word : List Str := ["known", "letter", "bounds", "tries", "word"]
theorem sc_heard_word : FnScope N_heard_word ["known", "letter", "bounds", "tries"] (defScope st_heard_word) := ⟨rfl, rfl, rfl, by decide +kernel, rfl, by decide +kernel, by decide +kernel⟩
theorem ok_heard_word {P : Program} {w : World} {K : PySem.W.Frag} {mg : Str → Option Value} {base : Heap} {f : Addr} {fd : FuncData} {dvs : List V} {kws : List (Str × V)} (T : Txt P w K mg) (F : FunD K "heard_word" "heard_word" (defArgs st_heard_word) (defBody st_heard_word) (defScope st_heard_word) dvs kws f fd) (c_heard_ask : Callee P w K mg base "heard_ask" 2 [] 3 m_heard_ask) (c_shut_is_told : CalleeK P w K mg base "shut" 2 2 ["is_told"] (fun as bs => as ++ bs) 3 m_shut) (c_written : Callee P w K mg base "written" 1 [.int 0, .tup []] 4 m_written) (c_heard_answer : Callee P w K mg base "heard_answer" 6 [] 3 m_heard_answer) : FnOk P w K mg base CX0 7 f fd ["known", "letter", "bounds", "tries"] (spM K 4 m_heard_word) := by
  refine def_ok F sc_heard_word fun cdv A outer s H E hr => ?_
  have hu := hu_room hr
  have nd := sc_heard_word.nd
  exact (sms_cons (sm_asg (em_sub hu (em_var (pv 1)) em_int) (gm_name nd rfl (by first | exact .inl rfl | exact .inr rfl)))
    (sms_cons (sm_if (tm_cmp (cm_eq hu (em_var (pv 4)) em_str)) (sms_one (sm_ret (em_call c_heard_ask (hr.mono (by decide)) (am_cons (em_var (pv 0)) (am_cons (em_var (pv 1)) (am_cons (em_var (pv 2)) am_nil)))))) sms_nil)
    (sms_cons (sm_if (tm_cmp (cm_eq hu (em_var (pv 4)) em_str)) (sms_one (sm_ret (em_callK c_shut_is_told (hr.mono (by decide)) (am_cons (em_var (pv 0)) (am_cons em_str am_nil)) (km_cons em_bl km_nil)))) sms_nil)
    (sms_cons (sm_if (tm_cmp (cm_eq hu (em_var (pv 4)) em_str)) (sms_one (sm_ret (em_lst (am_cons (em_call c_written (hr.mono (by decide)) (am_cons (em_var (pv 0)) (am_cons em_str am_nil))) am_nil)))) sms_nil)
    (sms_cons (sm_if (tm_cmp (cm_eq hu (em_var (pv 4)) em_str)) (sms_cons (sm_put hu (em_var (pv 0)) em_str (em_var (pv 3)))
    (sms_one (sm_ret (em_lst am_nil)))) sms_nil)
    (sms_one (sm_ret (em_call c_heard_answer (hr.mono (by decide)) (am_cons (em_var (pv 0)) (am_cons (em_var (pv 1)) (am_cons (em_var (pv 3)) am_nil)))))))))))
abbrev st_heard : Stmt := PySem.Challenge.pw_crossedwishes_k39_whole_nothing_refused.main.body.getD 48 (.Pass ⟨0, 0, 0, 0⟩)
abbrev N_heard : List Str := ["end", "letter", "bounds", "tries", "known", "who", "word", "mine", "yours", "rest", "letters"]
theorem sc_heard : FnScope N_heard ["end", "letter", "bounds", "tries"] (defScope st_heard) := ⟨rfl, rfl, rfl, by decide +kernel, rfl, by decide +kernel, by decide +kernel⟩
theorem ok_heard {P : Program} {w : World} {K : PySem.W.Frag} {mg : Str → Option Value} {base : Heap} {f : Addr} {fd : FuncData} {dvs : List V} {kws : List (Str × V)} (T : Txt P w K mg) (F : FunD K "heard" "heard" (defArgs st_heard) (defBody st_heard) (defScope st_heard) dvs kws f fd) (c_known_of : Callee P w K mg base "known_of" 1 [] 1 m_known_of) (c_heard_echo : Callee P w K mg base "heard_echo" 3 [] 1 m_heard_echo) (c_as_end : Callee P w K mg base "as_end" 1 [] 1 m_as_end) (c_heard_closed : Callee P w K mg base "heard_closed" 2 [] 2 m_heard_closed) (c_begin : Callee P w K mg base "begin" 3 [] 2 m_begin) (c_heard_word : Callee P w K mg base "heard_word" 7 [] 4 m_heard_word) : FnOk P w K mg base CX0 8 f fd ["end", "letter", "bounds", "tries"] (spM K 4 m_heard) := by
  refine def_ok F sc_heard fun cdv A outer s H E hr => ?_
  have hu := hu_room hr
  have nd := sc_heard.nd
  exact (sms_cons (sm_asg (em_call c_known_of (hr.mono (by decide)) (am_cons (em_var (pv 0)) am_nil)) (gm_name nd rfl (by first | exact .inl rfl | exact .inr rfl)))
    (sms_cons (sm_asg (em_var (pv 1)) (gm_star rfl (gms_cons (gm_name nd rfl (by first | exact .inl rfl | exact .inr rfl)) (gms_cons (gm_name nd rfl (by first | exact .inl rfl | exact .inr rfl)) (gms_cons (gm_name nd rfl (by first | exact .inl rfl | exact .inr rfl)) (gms_cons (gm_name nd rfl (by first | exact .inl rfl | exact .inr rfl)) (gms_star (gm_name nd rfl (by first | exact .inl rfl | exact .inr rfl)) gms_nil)))))))
    (sms_cons (sm_if (tm_cmp (cm_eq hu (em_var (pv 5)) (em_sub hu (em_var (pv 4)) em_str))) (sms_cons (sm_asg (em_call c_heard_echo (hr.mono (by decide)) (am_cons (em_var (pv 4)) am_nil)) (gm_name nd rfl (by first | exact .inl rfl | exact .inr rfl)))
    (sms_one (sm_ret (em_tup (am_cons (em_call c_as_end (hr.mono (by decide)) (am_cons (em_var (pv 4)) am_nil)) (am_cons (em_free (em_var (pv 10))) am_nil)))))) sms_nil)
    (sms_cons (sm_if (tm_cmp (cm_eq hu (em_sub hu (em_var (pv 4)) em_str) em_str)) (sms_one (sm_ret (em_tup (am_cons (em_var (pv 0)) (am_cons (em_call c_heard_closed (hr.mono (by decide)) (am_cons (em_var (pv 4)) (am_cons (em_var (pv 1)) am_nil))) am_nil))))) sms_nil)
    (sms_cons (sm_asg (em_lstN am_nil) (gm_name nd rfl (by first | exact .inl rfl | exact .inr rfl)))
    (sms_cons (sm_if (tm_cmp (cm_gt (em_var (pv 7)) (em_sub hu (em_var (pv 4)) em_str))) (sms_cons (sm_put hu (em_var (pv 4)) em_str (em_var (pv 7)))
    (sms_one (sm_asg (em_call c_begin (hr.mono (by decide)) (am_cons (em_var (pv 4)) (am_cons (em_var (pv 3)) am_nil))) (gm_name nd rfl (by first | exact .inl rfl | exact .inr rfl))))) sms_nil)
    (sms_cons (sm_if (PW.pt (wm_and (tm_cmp (cm_eq hu (em_var (pv 7)) (em_sub hu (em_var (pv 4)) em_str))) (wm_and1 (tm_cmp (cm_eq hu (em_var (pv 8)) (em_sub hu (em_var (pv 4)) em_str)))))) (sms_one (sm_expr (em_extend (em_var (pv 10)) (am_cons (em_call c_heard_word (hr.mono (by decide)) (am_cons (em_var (pv 4)) (am_cons (em_var (pv 1)) (am_cons (em_var (pv 2)) (am_cons (em_var (pv 3)) am_nil))))) am_nil)))) sms_nil)
    (sms_one (sm_ret (em_tup (am_cons (em_call c_as_end (hr.mono (by decide)) (am_cons (em_var (pv 4)) am_nil)) (am_cons (em_free (em_var (pv 10))) am_nil))))))))))))
abbrev st_law_comes : Stmt := PySem.Challenge.pw_crossedwishes_k39_whole_nothing_refused.main.body.getD 59 (.Pass ⟨0, 0, 0, 0⟩)
abbrev N_law_comes : List Str := ["_law_pair", "_law_spot", "_law_at", "_law_letter", "_law_name"]
theorem sc_law_comes : FnScope N_law_comes ["_law_pair", "_law_spot"] (defScope st_law_comes) := ⟨rfl, rfl, rfl, by decide +kernel, rfl, by decide +kernel, by decide +kernel⟩
theorem ok_law_comes {P : Program} {w : World} {K : PySem.W.Frag} {mg : Str → Option Value} {base : Heap} {f : Addr} {fd : FuncData} {dvs : List V} {kws : List (Str × V)} (T : Txt P w K mg) (F : FunD K "_law_comes" "_law_comes" (defArgs st_law_comes) (defBody st_law_comes) (defScope st_law_comes) dvs kws f fd) (c_law_done : Callee P w K mg base "_law_done" 1 [] 3 m_law_done) (c_heard_tries : CalleeK P w K mg base "heard" 8 3 ["tries"] (fun as bs => as ++ bs) 4 m_heard) : FnOk P w K mg base CX0 9 f fd ["_law_pair", "_law_spot"] (spM K 2 m_law_comes) := by
  refine def_ok F sc_law_comes fun cdv A outer s H E hr => ?_
  have hu := hu_room hr
  have nd := sc_law_comes.nd
  exact (sms_cons (sm_asg (em_popAt (em_sub hu (em_var (pv 0)) em_str) (am_cons (em_var (pv 1)) am_nil)) (gm_tup rfl (gms_cons (gm_name nd rfl (by first | exact .inl rfl | exact .inr rfl)) (gms_cons (gm_name nd rfl (by first | exact .inl rfl | exact .inr rfl)) gms_nil))))
    (sms_cons (sm_asg (em_sub hu (em_sub hu (em_var (pv 0)) em_str) (em_var (pv 2))) (gm_name nd rfl (by first | exact .inl rfl | exact .inr rfl)))
    (sms_one (sm_expr (em_call c_law_done (hr.mono (by decide)) (am_cons (em_var (pv 0)) (am_cons (em_var (pv 2)) (am_cons (em_callK c_heard_tries (hr.mono (by decide)) (am_cons (em_sub hu (em_var (pv 0)) (em_var (pv 4))) (am_cons (em_var (pv 3)) (am_cons (em_sub hu (em_sub hu (em_sub hu (em_var (pv 0)) em_str) (em_var (pv 2))) em_int) am_nil))) (km_cons (em_sub hu (em_var (pv 0)) em_str) km_nil)) am_nil))))))))
abbrev st_law_led : Stmt := PySem.Challenge.pw_crossedwishes_k39_whole_nothing_refused.main.body.getD 61 (.Pass ⟨0, 0, 0, 0⟩)
abbrev N_law_led : List Str := ["_law_pen_here", "_law_pair", "_law_way", "_law_at", "_law_spot"]
theorem sc_law_led : FnScope N_law_led ["_law_pen_here", "_law_pair"] (defScope st_law_led) := ⟨rfl, rfl, rfl, by decide +kernel, rfl, by decide +kernel, by decide +kernel⟩
theorem ok_law_led {P : Program} {w : World} {K : PySem.W.Frag} {mg : Str → Option Value} {base : Heap} {f : Addr} {fd : FuncData} {dvs : List V} {kws : List (Str × V)} (T : Txt P w K mg) (F : FunD K "_law_led" "_law_led" (defArgs st_law_led) (defBody st_law_led) (defScope st_law_led) dvs kws f fd) (c_law_draw : Callee P w K mg base "_law_draw" 1 [] 2 m_law_draw) (c_law_of_itself : Callee P w K mg base "_law_of_itself" 5 [] 4 m_law_of_itself) (c_law_comes : Callee P w K mg base "_law_comes" 9 [] 2 m_law_comes) : FnOk P w K mg base CX0 10 f fd ["_law_pen_here", "_law_pair"] (spM K 2 m_law_led) := by
  refine def_ok F sc_law_led fun cdv A outer s H E hr => ?_
  have hu := hu_room hr
  have nd := sc_law_led.nd
  exact (sms_cons (sm_asg (em_call c_law_draw (hr.mono (by decide)) (am_cons (em_var (pv 0)) (am_cons em_int am_nil))) (gm_name nd rfl (by first | exact .inl rfl | exact .inr rfl)))
    (sms_cons (sm_asg (em_call c_law_draw (hr.mono (by decide)) (am_cons (em_var (pv 0)) (am_cons em_int am_nil))) (gm_name nd rfl (by first | exact .inl rfl | exact .inr rfl)))
    (sms_cons (sm_asg (em_sub hu (em_lst (am_cons em_int (am_cons em_int (am_cons (em_call c_law_draw (hr.mono (by decide)) (am_cons (em_var (pv 0)) (am_cons (em_max2 rfl T.n_max (am_cons em_int (am_cons (em_len T.n_len (am_cons (em_sub hu (em_var (pv 1)) em_str) am_nil)) am_nil))) am_nil))) am_nil)))) (em_call c_law_draw (hr.mono (by decide)) (am_cons (em_var (pv 0)) (am_cons em_int am_nil)))) (gm_name nd rfl (by first | exact .inl rfl | exact .inr rfl)))
    (sms_one (sm_if (PW.pt (wm_or (tm_cmp (cm_eq hu (em_sub hu (em_var (pv 1)) em_str) (em_lst am_nil))) (wm_or1 (tm_cmp (cm_gt (em_var (pv 2)) em_int))))) (sms_one (sm_expr (em_call c_law_of_itself (hr.mono (by decide)) (am_cons (em_var (pv 0)) (am_cons (em_var (pv 1)) (am_cons (em_var (pv 3)) (am_cons (em_call c_law_draw (hr.mono (by decide)) (am_cons (em_var (pv 0)) (am_cons em_int am_nil))) am_nil))))))) (sms_one (sm_if (tm_cmp (cm_eq hu (em_var (pv 2)) em_int)) (sms_one (sm_expr (em_popAt (em_sub hu (em_var (pv 1)) em_str) (am_cons (em_var (pv 4)) am_nil)))) (sms_one (sm_if (tm_cmp (cm_eq hu (em_var (pv 2)) em_int)) (sms_one (sm_expr (em_append (em_sub hu (em_var (pv 1)) em_str) (am_cons (em_sub hu (em_sub hu (em_var (pv 1)) em_str) (em_var (pv 4))) am_nil)))) (sms_one (sm_expr (em_call c_law_comes (hr.mono (by decide)) (am_cons (em_var (pv 1)) (am_cons (em_var (pv 4)) am_nil))))))))))))))
abbrev st_law_asks_right : Stmt := PySem.Challenge.pw_crossedwishes_k39_whole_nothing_refused.main.body.getD 62 (.Pass ⟨0, 0, 0, 0⟩)
abbrev N_law_asks_right : List Str := ["_law_seen", "_law_end", "_law_letters", "_law_is_altered", "_law_known", "_law_kind", "_law_left", "_law_who", "_law_word", "_law_mine", "_law_yours", "_law_number", "_law_pairs", "_law_most_asks", "_law_pair", "_law_wish", "_law_worth"]
theorem sc_law_asks_right : FnScope N_law_asks_right ["_law_seen", "_law_end", "_law_letters", "_law_is_altered"] (defScope st_law_asks_right) := ⟨rfl, rfl, rfl, by decide +kernel, rfl, by decide +kernel, by decide +kernel⟩
theorem ok_law_asks_right {P : Program} {w : World} {K : PySem.W.Frag} {mg : Str → Option Value} {base : Heap} {f : Addr} {fd : FuncData} {dvs : List V} {kws : List (Str × V)} (T : Txt P w K mg) (F : FunD K "_law_asks_right" "_law_asks_right" (defArgs st_law_asks_right) (defBody st_law_asks_right) (defScope st_law_asks_right) dvs kws f fd)  : FnOk P w K mg base CX0 1 f fd ["_law_seen", "_law_end", "_law_letters", "_law_is_altered"] (spM K 4 m_law_asks_right) := by
  refine def_ok F sc_law_asks_right fun cdv A outer s H E hr => ?_
  have hu := hu_room hr
  have nd := sc_law_asks_right.nd
  exact (sms_cons (sm_asg (em_setdT hu (em_var (pv 0)) (am_cons (em_sub hu (em_var (pv 1)) em_int) (am_cons (em_sub hu (em_var (pv 1)) em_int) (am_cons (em_sub hu (em_var (pv 1)) em_int) am_nil))) (em_disp (ppm_cons (em_tup am_nil) (ppm_cons em_newK (ppm_cons em_bl ppm_nil))))) (gm_name nd rfl (by first | exact .inl rfl | exact .inr rfl)))
    (sms_cons (sm_if (tm_cmp (cm_eq hu (em_sub hu (em_var (pv 1)) em_int) em_str)) (sms_one (sm_ret em_bl)) sms_nil)
    (sms_cons (sm_put hu (em_var (pv 4)) em_str (em_or (em_sub hu (em_var (pv 4)) em_str) (em_one (em_var (pv 3)))))
    (sms_cons (sm_if (PW.pt (wm_or (tm_cmp (cm_ne hu (em_lc (own := [("_law_pair", 14)]) rfl nd (im_seq (em_sub hu (em_var (pv 4)) em_str)) (blkOk_by (N := N_law_asks_right) (sc := defScope st_law_asks_right) (by decide +kernel)) (fun _ _ _ _ _ => (gm_name nd rfl (by first | exact .inl rfl | exact .inr rfl))) (fun _ _ _ _ _ => (ptm_one (tm_cmp (cm_notIn hu (em_var (pv 14)) (em_sub hu (em_var (pv 1)) em_int))))) (fun _ _ _ _ _ => (em_var (pv 14)))) (em_lst am_nil))) (wm_or1 (tm_cmp (cm_ne hu (em_list T.n_list (am_cons (em_sub hu (em_var (pv 1)) em_int) am_nil)) (em_sortSet rfl hu T.n_sorted T.n_set (em_sub hu (em_var (pv 1)) em_int))))))) (sms_one (sm_ret em_bl)) sms_nil)
    (sms_cons (sm_put hu (em_var (pv 4)) em_str (em_sub hu (em_var (pv 1)) em_int))
    (sms_cons (sm_for PassesOwn.never rfl (im_seq (em_sub hu (em_var (pv 1)) em_int)) (gm_tup rfl (gms_cons (gm_name nd rfl (by first | exact .inl rfl | exact .inr rfl)) (gms_cons (gm_name nd rfl (by first | exact .inl rfl | exact .inr rfl)) gms_nil))) (sms_one (sm_if (PW.pt (wm_or (PW.pt (wm_and (tm_cmp (cm_ne hu (em_var (pv 6)) (em_tup am_nil))) (wm_and1 (tm_cmp (cm_in hu (em_tup (am_cons (em_var (pv 5)) (am_cons (em_neg em_int) am_nil))) (em_sub hu (em_var (pv 1)) em_int)))))) (wm_or1 (tm_cmp (cm_ne hu (em_lc (own := [("_law_worth", 16)]) rfl nd (im_seq (em_var (pv 6))) (blkOk_by (N := N_law_asks_right) (sc := defScope st_law_asks_right) (by decide +kernel)) (fun _ _ _ _ _ => (gm_name nd rfl (by first | exact .inl rfl | exact .inr rfl))) (fun _ _ _ _ _ => (ptm_one (tm_cmp (cm_in hu (em_tup (am_cons (em_var (pv 5)) (am_cons (em_var (pv 16)) am_nil))) (em_sub hu (em_var (pv 1)) em_int))))) (fun _ _ _ _ _ => (em_var (pv 16)))) (em_lst am_nil)))))) (sms_one (sm_ret em_bl)) sms_nil)))
    (sms_cons (sm_for PassesOwn.never rfl (im_seq (em_var (pv 2))) (gm_tup rfl (gms_cons (gm_name nd rfl (by first | exact .inl rfl | exact .inr rfl)) (gms_cons (gm_name nd rfl (by first | exact .inl rfl | exact .inr rfl)) (gms_cons (gm_name nd rfl (by first | exact .inl rfl | exact .inr rfl)) (gms_cons (gm_name nd rfl (by first | exact .inl rfl | exact .inr rfl)) (gms_cons (gm_name nd rfl (by first | exact .inl rfl | exact .inr rfl)) (gms_cons (gm_name nd rfl (by first | exact .inl rfl | exact .inr rfl)) gms_nil))))))) (sms_one (sm_if (tm_cmp (cm_eq hu (em_var (pv 8)) em_str)) (sms_cons (sm_if (tm_cmp (cm_ne hu (em_lc (own := [("_law_pair", 14)]) rfl nd (im_seq (em_var (pv 12))) (blkOk_by (N := N_law_asks_right) (sc := defScope st_law_asks_right) (by decide +kernel)) (fun _ _ _ _ _ => (gm_name nd rfl (by first | exact .inl rfl | exact .inr rfl))) (fun _ _ _ _ _ => (ptm_one (PW.pt (wm_or (tm_cmp (cm_in hu (em_var (pv 14)) (em_sub hu (em_var (pv 1)) em_int))) (wm_or1 (tm_cmp (cm_in hu (em_tup (am_cons (em_sub hu (em_var (pv 14)) em_int) (am_cons (em_neg em_int) am_nil))) (em_sub hu (em_var (pv 1)) em_int)))))))) (fun _ _ _ _ _ => (em_var (pv 14)))) (em_lst am_nil))) (sms_one (sm_ret em_bl)) sms_nil)
    (sms_cons (sm_if (PW.pt (wm_or (tm_cmp (cm_ne hu (em_dget2 hu (em_sub hu (em_var (pv 4)) em_str) (em_var (pv 11)) (em_var (pv 12))) (em_var (pv 12)))) (wm_or1 (tm_cmp (cm_gt (em_var (pv 11)) (em_addI em_int (em_maxL rfl T.n_max (am_cons (em_catL (em_lst (am_cons em_int am_nil)) (em_keys rfl T.n_list (am_cons (em_sub hu (em_var (pv 4)) em_str) am_nil))) am_nil)))))))) (sms_one (sm_ret em_bl)) sms_nil)
    (sms_one (sm_put hu (em_sub hu (em_var (pv 4)) em_str) (em_var (pv 11)) (em_var (pv 12)))))) sms_nil)))
    (sms_cons (sm_asg (em_addI em_int (em_sum rfl T.n_sum (am_cons (em_lc (own := [("_law_wish", 15)]) rfl nd (im_seq (em_sub hu (em_var (pv 1)) em_int)) (blkOk_by (N := N_law_asks_right) (sc := defScope st_law_asks_right) (by decide +kernel)) (fun _ _ _ _ _ => (gm_name nd rfl (by first | exact .inl rfl | exact .inr rfl))) (fun _ _ _ _ _ => ptm_nil) (fun _ _ _ _ _ => (em_len T.n_len (am_cons (em_sub hu (em_var (pv 15)) em_int) am_nil)))) am_nil))) (gm_name nd rfl (by first | exact .inl rfl | exact .inr rfl)))
    (sms_one (sm_ret (em_or (em_sub hu (em_var (pv 4)) em_str) (em_one (em_cmp (cm_le (em_lenD T.n_len (am_cons (em_sub hu (em_var (pv 4)) em_str) am_nil)) (em_var (pv 13))))))))))))))))
abbrev st_law_both_right : Stmt := PySem.Challenge.pw_crossedwishes_k39_whole_nothing_refused.main.body.getD 63 (.Pass ⟨0, 0, 0, 0⟩)
abbrev N_law_both_right : List Str := ["_law_seen", "_law_pair", "_law_name", "_law_own", "_law_letter"]
theorem sc_law_both_right : FnScope N_law_both_right ["_law_seen", "_law_pair"] (defScope st_law_both_right) := ⟨rfl, rfl, rfl, by decide +kernel, rfl, by decide +kernel, by decide +kernel⟩
theorem ok_law_both_right {P : Program} {w : World} {K : PySem.W.Frag} {mg : Str → Option Value} {base : Heap} {f : Addr} {fd : FuncData} {dvs : List V} {kws : List (Str × V)} (T : Txt P w K mg) (F : FunD K "_law_both_right" "_law_both_right" (defArgs st_law_both_right) (defBody st_law_both_right) (defScope st_law_both_right) dvs kws f fd) (c_law_asks_right : Callee P w K mg base "_law_asks_right" 1 [] 4 m_law_asks_right) : FnOk P w K mg base CX0 2 f fd ["_law_seen", "_law_pair"] (spM K 2 m_law_both_right) := by
  refine def_ok F sc_law_both_right fun cdv A outer s H E hr => ?_
  have hu := hu_room hr
  have nd := sc_law_both_right.nd
  exact (sms_cons (sm_for PassesOwn.never rfl (im_seq (em_sub hu (em_var (pv 1)) em_str)) (gm_name nd rfl (by first | exact .inl rfl | exact .inr rfl)) (sms_cons (sm_setLc (own := [("_law_letter", 4)]) rfl nd rfl rfl (sw_true rfl rfl rfl (by decide +kernel)) (im_seq (em_sub hu (em_var (pv 1)) em_str)) (blkOk_by (N := N_law_both_right) (sc := defScope st_law_both_right) (by decide +kernel)) (fun _ _ _ _ _ => (gm_name nd rfl (by first | exact .inl rfl | exact .inr rfl))) (fun _ _ _ _ _ => (ptm_one (tm_cmp (cm_eq hu (em_sub hu (em_var (pv 4)) em_int) (em_var (pv 2)))))) (fun _ _ _ _ _ => (em_var (pv 4))))
    (sms_one (sm_if (tm_not (tm_val (em_call c_law_asks_right (hr.mono (by decide)) (am_cons (em_var (pv 0)) (am_cons (em_sub hu (em_var (pv 1)) (em_var (pv 2))) (am_cons (em_var (pv 3)) (am_cons (em_cmp (cm_in hu (em_var (pv 2)) (em_sub hu (em_var (pv 1)) em_str))) am_nil))))))) (sms_one (sm_ret em_bl)) sms_nil))))
    (sms_cons (sm_expr (em_dupd (em_var (pv 1)) (em_disp (ppm_cons (em_lst am_nil) (ppm_cons (em_lst am_nil) ppm_nil)))))
    (sms_one (sm_ret em_bl))))
abbrev st_law_ticks_right : Stmt := PySem.Challenge.pw_crossedwishes_k39_whole_nothing_refused.main.body.getD 64 (.Pass ⟨0, 0, 0, 0⟩)
abbrev N_law_ticks_right : List Str := ["_law_end", "_law_left", "_law_k", "_law_letters", "_law_later", "_law_letter"]
theorem sc_law_ticks_right : FnScope N_law_ticks_right ["_law_end"] (defScope st_law_ticks_right) := ⟨rfl, rfl, rfl, by decide +kernel, rfl, by decide +kernel, by decide +kernel⟩
theorem ok_law_ticks_right {P : Program} {w : World} {K : PySem.W.Frag} {mg : Str → Option Value} {base : Heap} {f : Addr} {fd : FuncData} {dvs : List V} {kws : List (Str × V)} (T : Txt P w K mg) (F : FunD K "_law_ticks_right" "_law_ticks_right" (defArgs st_law_ticks_right) (defBody st_law_ticks_right) (defScope st_law_ticks_right) dvs kws f fd) (c_ticked : Callee P w K mg base "ticked" 3 [] 1 m_ticked) : FnOk P w K mg base CX0 4 f fd ["_law_end"] (spM K 1 m_law_ticks_right) := by
  refine def_ok F sc_law_ticks_right fun cdv A outer s H E hr => ?_
  have hu := hu_room hr
  have nd := sc_law_ticks_right.nd
  exact (sms_cons (sm_asg (em_sub hu (em_var (pv 0)) em_int) (gm_name nd rfl (by first | exact .inl rfl | exact .inr rfl)))
    (sms_cons (sm_for PassesOwn.never rfl (im_range rfl T.n_range (am_cons (em_mulI (em_var (pv 1)) (em_int1 T.n_int (am_cons (em_cmp (cm_ne hu (em_sub hu (em_var (pv 0)) em_int) em_str)) am_nil))) am_nil)) (gm_name nd rfl (by first | exact .inl rfl | exact .inr rfl)) (sms_cons (sm_asg (em_call c_ticked (hr.mono (by decide)) (am_cons (em_var (pv 0)) am_nil)) (gm_tup rfl (gms_cons (gm_name nd rfl (by first | exact .inl rfl | exact .inr rfl)) (gms_cons (gm_name nd rfl (by first | exact .inl rfl | exact .inr rfl)) gms_nil))))
    (sms_one (sm_if (PW.pt (wm_or (tm_cmp (cm_ne hu (em_len T.n_len (am_cons (em_var (pv 3)) am_nil)) em_int)) (wm_or (tm_cmp (cm_notIn hu (em_sub hu (em_sub hu (em_var (pv 3)) em_int) em_int) (em_tup (am_cons em_str (am_cons em_str am_nil))))) (wm_or (tm_cmp (cm_eq hu (em_sub hu (em_var (pv 0)) em_int) em_str)) (wm_or1 (tm_cmp (cm_ne hu (em_sub hu (em_var (pv 0)) em_int) (em_subI (em_subI (em_var (pv 1)) (em_var (pv 2))) em_int)))))))) (sms_one (sm_ret em_bl)) sms_nil))))
    (sms_cons (sm_asg (em_call c_ticked (hr.mono (by decide)) (am_cons (em_var (pv 0)) am_nil)) (gm_tup rfl (gms_cons (gm_name nd rfl (by first | exact .inl rfl | exact .inr rfl)) (gms_cons (gm_name nd rfl (by first | exact .inl rfl | exact .inr rfl)) gms_nil))))
    (sms_cons (sm_if (tm_cmp (cm_eq hu (em_sub hu (em_var (pv 0)) em_int) em_str)) (sms_one (sm_ret (em_and (em_cmp (cm_eq hu (em_var (pv 4)) (em_var (pv 0)))) (em_one (em_cmp (cm_eq hu (em_var (pv 3)) (em_lst am_nil))))))) sms_nil)
    (sms_one (sm_ret (em_and (em_cmp (cm_eq hu (em_sub hu (em_var (pv 4)) em_int) em_str)) (em_and (em_cmp (cm_eq hu (em_sub hu (em_var (pv 4)) em_int) em_str)) (em_one (em_cmp (cm_eq hu (em_lc (own := [("_law_letter", 5)]) rfl nd (im_seq (em_var (pv 3))) (blkOk_by (N := N_law_ticks_right) (sc := defScope st_law_ticks_right) (by decide +kernel)) (fun _ _ _ _ _ => (gm_name nd rfl (by first | exact .inl rfl | exact .inr rfl))) (fun _ _ _ _ _ => ptm_nil) (fun _ _ _ _ _ => (em_sub hu (em_var (pv 5)) em_int))) (em_lst (am_cons em_str am_nil)))))))))))))
end Cw
end
section
namespace Cw
open PySem PySem.Spec PyProof.Rows L2
abbrev st_law : Stmt := PySem.Challenge.pw_crossedwishes_k39_whole_nothing_refused.main.body.getD 65 (.Pass ⟨0, 0, 0, 0⟩)
abbrev N_law : List Str := ["_law_script", "_law_pen_here", "_law_turn", "_law_pair", "_law_seen", "_law_at", "_law_k", "_law_name"]
theorem sc_law : FnScope N_law ["_law_script"] (defScope st_law) := ⟨rfl, rfl, rfl, by decide +kernel, rfl, by decide +kernel, by decide +kernel⟩
theorem ok_law {P : Program} {w : World} {K : PySem.W.Frag} {mg : Str → Option Value} {base : Heap} {f : Addr} {fd : FuncData} {dvs : List V} {kws : List (Str × V)} (T : Txt P w K mg) (F : FunD K "law" "law" (defArgs st_law) (defBody st_law) (defScope st_law) dvs kws f fd) (c_law_pen : Callee P w K mg base "_law_pen" 1 [] 1 m_law_pen) (c_law_two : Callee P w K mg base "_law_two" 5 [] 1 m_law_two) (c_law_of_itself : Callee P w K mg base "_law_of_itself" 5 [] 4 m_law_of_itself) (c_law_both_right : Callee P w K mg base "_law_both_right" 2 [] 2 m_law_both_right) (c_law_draw : Callee P w K mg base "_law_draw" 1 [] 2 m_law_draw) (c_law_led : Callee P w K mg base "_law_led" 10 [] 2 m_law_led) (c_law_ticks_right : Callee P w K mg base "_law_ticks_right" 4 [] 1 m_law_ticks_right) : FnOk P w K mg base CX0 11 f fd ["_law_script"] (spM K 1 m_law) := by
  refine def_ok F sc_law fun cdv A outer s H E hr => ?_
  have hu := hu_room hr
  have nd := sc_law.nd
  exact (sms_cons (sm_asg (em_call c_law_pen (hr.mono (by decide)) (am_cons (em_var (pv 0)) am_nil)) (gm_name nd rfl (by first | exact .inl rfl | exact .inr rfl)))
    (sms_cons (sm_for PassesOwn.never rfl (im_range rfl T.n_range (am_cons em_int am_nil)) (gm_name nd rfl (by first | exact .inl rfl | exact .inr rfl)) (sms_cons (sm_asg (em_call c_law_two (hr.mono (by decide)) (am_cons (em_var (pv 1)) am_nil)) (gm_name nd rfl (by first | exact .inl rfl | exact .inr rfl)))
    (sms_cons (sm_asg em_newT (gm_name nd rfl (by first | exact .inl rfl | exact .inr rfl)))
    (sms_cons (sm_for PassesOwn.never rfl (im_seq (em_tup (am_cons em_int (am_cons em_int am_nil)))) (gm_name nd rfl (by first | exact .inl rfl | exact .inr rfl)) (sms_cons (sm_expr (em_call c_law_of_itself (hr.mono (by decide)) (am_cons (em_var (pv 1)) (am_cons (em_var (pv 3)) (am_cons (em_var (pv 5)) (am_cons em_int am_nil))))))
    (sms_one (sm_if (tm_not (tm_val (em_call c_law_both_right (hr.mono (by decide)) (am_cons (em_var (pv 4)) (am_cons (em_var (pv 3)) am_nil))))) (sms_one (sm_ret em_bl)) sms_nil))))
    (sms_cons (sm_for PassesOwn.never rfl (im_range rfl T.n_range (am_cons (em_sub hu (em_lst (am_cons em_int (am_cons em_int (am_cons (em_call c_law_draw (hr.mono (by decide)) (am_cons (em_var (pv 1)) (am_cons em_int am_nil))) am_nil)))) (em_call c_law_draw (hr.mono (by decide)) (am_cons (em_var (pv 1)) (am_cons em_int am_nil)))) am_nil)) (gm_name nd rfl (by first | exact .inl rfl | exact .inr rfl)) (sms_cons (sm_expr (em_call c_law_led (hr.mono (by decide)) (am_cons (em_var (pv 1)) (am_cons (em_var (pv 3)) am_nil))))
    (sms_one (sm_if (tm_not (tm_val (em_call c_law_both_right (hr.mono (by decide)) (am_cons (em_var (pv 4)) (am_cons (em_var (pv 3)) am_nil))))) (sms_one (sm_ret em_bl)) sms_nil))))
    (sms_one (sm_if (tm_cmp (cm_ne hu (em_lc (own := [("_law_name", 7)]) rfl nd (im_seq (em_sub hu (em_var (pv 3)) em_str)) (blkOk_by (N := N_law) (sc := defScope st_law) (by decide +kernel)) (fun _ _ _ _ _ => (gm_name nd rfl (by first | exact .inl rfl | exact .inr rfl))) (fun _ _ _ _ _ => (ptm_one (tm_not (tm_val (em_call c_law_ticks_right (hr.mono (by decide)) (am_cons (em_sub hu (em_var (pv 3)) (em_var (pv 7))) am_nil)))))) (fun _ _ _ _ _ => (em_var (pv 7)))) (em_lst am_nil))) (sms_one (sm_ret em_bl)) sms_nil)))))))
    (sms_one (sm_ret em_bl))))
end Cw
end
section
/-! CwH0: what is looked at behind the top: tuples and dicts of the module, as this layer wants them. -/
namespace Cw
open PySem PySem.Spec PyProof.Rows L2 He
/-- a tuple without a dict of its own at a -/
def tupSB (K : PySem.W.Frag) (a : Addr) (vs : List Dv) : Bool := match K.lookup a with
  | some ⟨.type c, none, .seq its _, _⟩ => decide (c = "tuple") && (decide (its.size ≤ sizeLine) && relAll (vs.map (Dv.v K)) its.toList)
  | _ => false
theorem tupSB_ok {K : PySem.W.Frag} {a : Addr} {vs : List Dv} (h : tupSB K a vs = true) (H : Hp) : TupS K H a (vs.map (Dv.v K)) := by
  unfold tupSB at h
  split at h
  · rename_i c its n sl q
    obtain ⟨h1, h2⟩ := ba h
    obtain ⟨h3, h4⟩ := ba h2
    exact .inr ⟨_, its, n, q, congrArg Value.type (of_decide_eq_true h1), rfl, rfl, of_decide_eq_true h3, relAll_ok h4⟩
  · cases h
/-- the keyword default of f named x, if it is an object -/
def kwAt (f x : Str) (K : PySem.W.Frag) : Addr := match K.lookup (ga K f) with
  | some ⟨_, _, .func fd, _⟩ => (match fd.kwdefaults with
    | .ref D => (match PySem.W.nsIn K D x with
      | some (some (.ref a)) => a
      | _ => 0)
    | _ => 0)
  | _ => 0
/-- the value at place i of the dict that the module calls x, if it is an object -/
def dicAt (x : Str) (i : Nat) (K : PySem.W.Frag) : Addr := match K.lookup (ga K x) with
  | some ⟨_, _, .dict es _, _⟩ => (match es.toList[i]? with
    | some e => (match e.val with
      | .ref a => a
      | _ => 0)
    | none => 0)
  | _ => 0
def valsAll (K : PySem.W.Frag) (a : Addr) (vs : List Dv) : Bool := match K.lookup a with
  | some ⟨_, _, .dict es _, _⟩ => relAll (vs.map (Dv.v K)) (es.toList.map (·.val))
  | _ => false
theorem kdk_pairs {P : Program} {w : World} : ∀ {l : List DictEntry} {ks : List Str} {us : List V}, l.map He.keyOf = keysIn w.params ks → Vals us (l.map (·.val)) → ks.Nodup →
    ∃ vs : List (Key × Value), (∀ e, e ∈ l → ∃ k, (mixKind P w).is k e.key = true ∧ e.hash = (mixKind P w).hash k) ∧ Pairs (mixKind P w) l vs ∧ (vs.map (·.1)) = ks.map Sum.inr ∧ KV ((ks.zip us).map fun q => ((.inr q.1 : Key), q.2)) vs
  | [], [], us, _, r, _ => ⟨[], fun e he => (by cases he), .nil, rfl, .nil⟩
  | [], _ :: _, _, h, _, _ => by cases h
  | _ :: _, [], _, h, _, _ => by cases h
  | e :: l, k :: ks, us, h, r, nd => by
    have h1 : He.keyOf e :: l.map He.keyOf = some (k, PyData.keyHash w.params k) :: keysIn w.params ks := h
    injection h1 with h2 h3
    obtain ⟨t, hk, hh⟩ : ∃ t, e.key = .str k t ∧ e.hash = PyData.keyHash w.params k := by
      unfold He.keyOf at h2
      split at h2
      · rename_i x t q
        obtain ⟨h5, h6⟩ := Prod.mk.inj (Option.some.inj h2)
        exact ⟨t, by rw [q, h5], h6⟩
      · cases h2
    have r' : Vals us (e.val :: l.map (·.val)) := r
    cases r' with
    | @cons u y us' ys' ru rt =>
      obtain ⟨vs, g1, g2, g3, g4⟩ := kdk_pairs (P := P) h3 rt (List.nodup_cons.mp nd).2
      refine ⟨(.inr k, e.val) :: vs, fun e' he => ?_, .cons (by rw [hk]; exact mixKind_str P w k t) rfl g2, by rw [List.map_cons, List.map_cons, g3], .cons ⟨rfl, ru⟩ g4⟩
      rcases List.mem_cons.mp he with z | z
      · subst z
        exact ⟨.inr k, by rw [hk]; exact mixKind_str P w k t, hh⟩
      · exact g1 e' z
theorem kdk_of {P : Program} {w : World} {K : PySem.W.Frag} {a : Addr} {ks : List Str} {vs : List Dv} (h : dicW K a = some (keysIn w.params ks)) (hv : valsAll K a vs = true) (nd : ks.Nodup) :
    KDk P w K a ((ks.zip (vs.map (Dv.v K))).map fun q => ((.inr q.1 : Key), q.2)) := by
  unfold dicW at h
  unfold valsAll at hv
  split at h
  · rename_i c es n sl q
    rw [q] at hv
    simp only at hv
    split at h
    · rename_i z
      obtain ⟨z1, z2⟩ := ba z
      obtain ⟨z3, z4⟩ := ba z2
      obtain ⟨ws, g1, g2, g3, g4⟩ := kdk_pairs (P := P) (Option.some.inj h) (relAll_ok hv) nd
      have e1 : c = "dict" := of_decide_eq_true z1
      have e2 : sl = #[] := Array.isEmpty_iff.mp z3
      subst e1 e2
      refine ⟨by simpa using z4, _, es, n, ws, q, ⟨rfl, rfl, rfl⟩, rfl, fun e he => g1 e (Array.mem_toList_iff.mpr he), g2, ?_, g4⟩
      rw [g3]
      exact List.Pairwise.map Sum.inr (fun a b h z => h (Sum.inr.inj z)) nd
    · cases h
  · cases h
/-! ### the Hook, with one more look -/
abbrev AlC : Type := AlT × Bool
section
variable (fa : List Fa) (fn : List DefD) (ts : List Tab) (ex : PySem.W.Frag → Bool)
def obsC (K : PySem.W.Frag) : AlC := (obsT fa fn ts K, ex K)
def valC (w : World) : AlC := (valT fn ts w, true)
def obsCG (n : Nat) (g : Addr → Option Obj) : AlC := obsC fa fn ts ex (frG g (asD g n))
def SaysC (w : World) (K : PySem.W.Frag) : Prop := obsC fa fn ts ex K = valC fn ts w
def hookC (n : Nat) : PySem.W.Hook where
  α := AlC
  obs := fun s => obsCG fa fn ts ex n s.heap.get?
  val := fun w => valC fn ts w
  says := fun w h => ∃ K : PySem.W.Frag, K.In h ∧ SaysC fa fn ts ex w K
  of := fun _ _ e => ⟨_, frG_in, e⟩
  keeps := fun _ _ _ ⟨K, hK, c⟩ k => ⟨K, PySem.W.Frag.In.keeps hK k, c⟩
end
theorem obsCG_eq {n : Nat} {fa : List Fa} {fn : List DefD} {ts : List Tab} {ex : PySem.W.Frag → Bool} {g : Addr → Option Obj} {s : Shared} (h : ∀ a, g a = s.heap.get? a) : obsCG fa fn ts ex n g = (hookC fa fn ts ex n).obs s := by
  have e : g = s.heap.get? := funext h
  rw [e] <;> rfl
section
variable {fa : List Fa} {fn : List DefD} {ts : List Tab} {ex : PySem.W.Frag → Bool} {w : World} {K : PySem.W.Frag}
theorem SaysC.t (c : SaysC fa fn ts ex w K) : SaysT fa fn ts w K := congrArg (fun z : AlC => z.1) c
theorem SaysC.exo (c : SaysC fa fn ts ex w K) : ex K = true := congrArg (fun z : AlC => z.2) c
theorem SaysC.dic (c : SaysC fa fn ts ex w K) (i : Nat) {t : Tab} (h : ts[i]? = some t := by rfl) : dicW K (t.1 K) = some (keysIn w.params t.2) := by
  have e : ts.map (fun t => dicW K (t.1 K)) = ts.map fun t => some (keysIn w.params t.2) := congrArg (fun z : AlC => z.1.2) c
  have e2 : (ts.map fun t => dicW K (t.1 K))[i]? = (ts.map fun t => some (keysIn w.params t.2))[i]? := by rw [e]
  rw [List.getElem?_map, List.getElem?_map, h] at e2
  exact Option.some.inj e2
end
end Cw
end
section
/-! CwH1: the head's data (printed by genh.py). -/
namespace CwHead
open PySem PySem.Spec PyProof.Rows L2
abbrev topS (i : Nat) : Stmt := PySem.Challenge.pw_crossedwishes_k39_whole_nothing_refused.main.body.getD i (.Pass ⟨0, 0, 0, 0⟩)
def d_law_pen : He.DefD := ⟨("_law_pen", none), "_law_pen", "_law_pen", defArgs (topS 50), defBody (topS 50), defScope (topS 50), [], []⟩
def d_law_draw : He.DefD := ⟨("_law_draw", none), "_law_draw", "_law_draw", defArgs (topS 51), defBody (topS 51), defScope (topS 51), [], []⟩
def d_law_kinds : He.DefD := ⟨("_law_kinds", none), "_law_kinds", "_law_kinds", defArgs (topS 52), defBody (topS 52), defScope (topS 52), [], []⟩
def d_law_worths : He.DefD := ⟨("_law_worths", none), "_law_worths", "_law_worths", defArgs (topS 53), defBody (topS 53), defScope (topS 53), [], []⟩
def d_law_wishes : He.DefD := ⟨("_law_wishes", none), "_law_wishes", "_law_wishes", defArgs (topS 54), defBody (topS 54), defScope (topS 54), [], []⟩
def d_law_bounds : He.DefD := ⟨("_law_bounds", none), "_law_bounds", "_law_bounds", defArgs (topS 55), defBody (topS 55), defScope (topS 55), [], []⟩
def d_law_books : He.DefD := ⟨("_law_books", none), "_law_books", "_law_books", defArgs (topS 56), defBody (topS 56), defScope (topS 56), [], []⟩
def d_as_end : He.DefD := ⟨("as_end", none), "as_end", "as_end", defArgs (topS 21), defBody (topS 21), defScope (topS 21), [], []⟩
def d_new_end : He.DefD := ⟨("new_end", none), "new_end", "new_end", defArgs (topS 19), defBody (topS 19), defScope (topS 19), [], []⟩
def d_law_two : He.DefD := ⟨("_law_two", none), "_law_two", "_law_two", defArgs (topS 57), defBody (topS 57), defScope (topS 57), [], []⟩
def d_law_done : He.DefD := ⟨("_law_done", none), "_law_done", "_law_done", defArgs (topS 58), defBody (topS 58), defScope (topS 58), [], []⟩
def d_known_of : He.DefD := ⟨("known_of", none), "known_of", "known_of", defArgs (topS 20), defBody (topS 20), defScope (topS 20), [], []⟩
def d_written : He.DefD := ⟨("written", none), "written", "written", defArgs (topS 22), defBody (topS 22), defScope (topS 22), [], [("number", .int 0), ("pairs", .adr (Cw.kwAt "written" "pairs"))]⟩
def d_ask_of : He.DefD := ⟨("ask_of", none), "ask_of", "ask_of", defArgs (topS 15), defBody (topS 15), defScope (topS 15), [], []⟩
def d_ask_written : He.DefD := ⟨("ask_written", none), "ask_written", "ask_written", defArgs (topS 23), defBody (topS 23), defScope (topS 23), [], []⟩
def d_left_of : He.DefD := ⟨("left_of", none), "left_of", "left_of", defArgs (topS 13), defBody (topS 13), defScope (topS 13), [], []⟩
def d_plan_of : He.DefD := ⟨("plan_of", none), "plan_of", "plan_of", defArgs (topS 14), defBody (topS 14), defScope (topS 14), [], [("refused", .adr (Cw.kwAt "plan_of" "refused"))]⟩
def d_begin : He.DefD := ⟨("begin", none), "begin", "begin", defArgs (topS 24), defBody (topS 24), defScope (topS 24), [], []⟩
def d_opened : He.DefD := ⟨("opened", none), "opened", "opened", defArgs (topS 26), defBody (topS 26), defScope (topS 26), [], [("tries", .int 3)]⟩
def d_shut : He.DefD := ⟨("shut", none), "shut", "shut", defArgs (topS 25), defBody (topS 25), defScope (topS 25), [], [("is_told", .bl true)]⟩
def d_closing : He.DefD := ⟨("closing", none), "closing", "closing", defArgs (topS 27), defBody (topS 27), defScope (topS 27), [], []⟩
def d_has_failed : He.DefD := ⟨("has_failed", none), "has_failed", "has_failed", defArgs (topS 29), defBody (topS 29), defScope (topS 29), [], []⟩
def d_wished : He.DefD := ⟨("wished", none), "wished", "wished", defArgs (topS 30), defBody (topS 30), defScope (topS 30), [], [("tries", .int 3)]⟩
def d_ticked : He.DefD := ⟨("ticked", none), "ticked", "ticked", defArgs (topS 28), defBody (topS 28), defScope (topS 28), [], []⟩
def d_law_of_itself : He.DefD := ⟨("_law_of_itself", none), "_law_of_itself", "_law_of_itself", defArgs (topS 60), defBody (topS 60), defScope (topS 60), [], []⟩
def d_heard_echo : He.DefD := ⟨("heard_echo", none), "heard_echo", "heard_echo", defArgs (topS 43), defBody (topS 43), defScope (topS 43), [], []⟩
def d_letter_back : He.DefD := ⟨("letter_back", none), "letter_back", "letter_back", defArgs (topS 40), defBody (topS 40), defScope (topS 40), [], []⟩
def d_heard_closed : He.DefD := ⟨("heard_closed", none), "heard_closed", "heard_closed", defArgs (topS 44), defBody (topS 44), defScope (topS 44), [], []⟩
def d_is_tuple : He.DefD := ⟨("is_tuple", none), "is_tuple", "is_tuple", defArgs (topS 11), defBody (topS 11), defScope (topS 11), [], []⟩
def d_is_name : He.DefD := ⟨("is_name", none), "is_name", "is_name", defArgs (topS 9), defBody (topS 9), defScope (topS 9), [], []⟩
def d_is_worth : He.DefD := ⟨("is_worth", none), "is_worth", "is_worth", defArgs (topS 10), defBody (topS 10), defScope (topS 10), [], []⟩
def d_is_pair : He.DefD := ⟨("is_pair", none), "is_pair", "is_pair", defArgs (topS 12), defBody (topS 12), defScope (topS 12), [], []⟩
def d_are_pairs : He.DefD := ⟨("are_pairs", none), "are_pairs", "are_pairs", defArgs (topS 32), defBody (topS 32), defScope (topS 32), [], []⟩
def d_is_said : He.DefD := ⟨("is_said", none), "is_said", "is_said", defArgs (topS 33), defBody (topS 33), defScope (topS 33), [], []⟩
def d_kinds_in : He.DefD := ⟨("kinds_in", none), "kinds_in", "kinds_in", defArgs (topS 34), defBody (topS 34), defScope (topS 34), [], []⟩
def d_are_refusals : He.DefD := ⟨("are_refusals", none), "are_refusals", "are_refusals", defArgs (topS 36), defBody (topS 36), defScope (topS 36), [], []⟩
def d_left_behind : He.DefD := ⟨("left_behind", none), "left_behind", "left_behind", defArgs (topS 37), defBody (topS 37), defScope (topS 37), [], []⟩
def d_behind : He.DefD := ⟨("behind", none), "behind", "behind", defArgs (topS 38), defBody (topS 38), defScope (topS 38), [], []⟩
def d_heard_answer : He.DefD := ⟨("heard_answer", none), "heard_answer", "heard_answer", defArgs (topS 46), defBody (topS 46), defScope (topS 46), [], []⟩
def d_answer : He.DefD := ⟨("answer", none), "answer", "answer", defArgs (topS 35), defBody (topS 35), defScope (topS 35), [], []⟩
def d_heard_ask : He.DefD := ⟨("heard_ask", none), "heard_ask", "heard_ask", defArgs (topS 45), defBody (topS 45), defScope (topS 45), [], []⟩
def d_heard_word : He.DefD := ⟨("heard_word", none), "heard_word", "heard_word", defArgs (topS 47), defBody (topS 47), defScope (topS 47), [], []⟩
def d_heard : He.DefD := ⟨("heard", none), "heard", "heard", defArgs (topS 48), defBody (topS 48), defScope (topS 48), [], [("tries", .int 3)]⟩
def d_law_comes : He.DefD := ⟨("_law_comes", none), "_law_comes", "_law_comes", defArgs (topS 59), defBody (topS 59), defScope (topS 59), [], []⟩
def d_law_led : He.DefD := ⟨("_law_led", none), "_law_led", "_law_led", defArgs (topS 61), defBody (topS 61), defScope (topS 61), [], []⟩
def d_law_asks_right : He.DefD := ⟨("_law_asks_right", none), "_law_asks_right", "_law_asks_right", defArgs (topS 62), defBody (topS 62), defScope (topS 62), [], []⟩
def d_law_both_right : He.DefD := ⟨("_law_both_right", none), "_law_both_right", "_law_both_right", defArgs (topS 63), defBody (topS 63), defScope (topS 63), [], []⟩
def d_law_ticks_right : He.DefD := ⟨("_law_ticks_right", none), "_law_ticks_right", "_law_ticks_right", defArgs (topS 64), defBody (topS 64), defScope (topS 64), [], []⟩
def d_law : He.DefD := ⟨("law", none), "law", "law", defArgs (topS 65), defBody (topS 65), defScope (topS 65), [], []⟩
def fn0 : List He.DefD := [d_law_pen, d_law_draw, d_law_kinds, d_law_worths, d_law_wishes, d_law_bounds, d_law_books, d_as_end, d_new_end, d_law_two, d_law_done, d_known_of, d_written, d_ask_of, d_ask_written, d_left_of, d_plan_of, d_begin, d_opened, d_shut]
def fn1 : List He.DefD := [d_closing, d_has_failed, d_wished, d_ticked, d_law_of_itself, d_heard_echo, d_letter_back, d_heard_closed, d_is_tuple, d_is_name, d_is_worth, d_is_pair, d_are_pairs, d_is_said, d_kinds_in, d_are_refusals, d_left_behind, d_behind, d_heard_answer, d_answer]
def fn2 : List He.DefD := [d_heard_ask, d_heard_word, d_heard, d_law_comes, d_law_led, d_law_asks_right, d_law_both_right, d_law_ticks_right, d_law]
def fn : List He.DefD := fn0 ++ fn1 ++ fn2
def fa0 : List He.Fa := [.glo "_law_pen", .glo "_law_draw", .glo "_law_kinds", .glo "_law_worths", .glo "_law_wishes", .glo "_law_bounds", .glo "_law_books", .glo "as_end", .glo "new_end", .glo "_law_two", .glo "_law_done", .glo "known_of", .glo "written", .glo "ask_of", .glo "ask_written", .glo "left_of", .glo "plan_of", .glo "begin", .glo "opened", .glo "shut"]
def fa1 : List He.Fa := [.glo "closing", .glo "has_failed", .glo "wished", .glo "ticked", .glo "_law_of_itself", .glo "heard_echo", .glo "letter_back", .glo "heard_closed", .glo "is_tuple", .glo "is_name", .glo "is_worth", .glo "is_pair", .glo "are_pairs", .glo "is_said", .glo "kinds_in", .glo "are_refusals", .glo "left_behind", .glo "behind", .glo "heard_answer", .glo "answer"]
def fa2 : List He.Fa := [.glo "heard_ask", .glo "heard_word", .glo "heard", .glo "_law_comes", .glo "_law_led", .glo "_law_asks_right", .glo "_law_both_right", .glo "_law_ticks_right", .glo "law", .free "abs", .free "all", .free "any", .free "bool", .free "dict", .free "int", .free "isinstance", .free "len", .free "list", .free "max", .free "min"]
def fa3 : List He.Fa := [.free "range", .free "set", .free "sorted", .free "str", .free "sum", .free "tuple", .free "zip", .int "LONGEST" 8, .int "GREATEST" 9999, .int "ALL" (-1), .int "MOST_ECHOES" 3, .str "LETTERS" "abcdefghijklmnopqrstuvwxyz", .glo "PARTS", .glo "AT_REST"]
def fa : List He.Fa := fa0 ++ fa1 ++ fa2 ++ fa3
def restKeys : List Str := ["stand", "number", "plan", "refused", "given", "heard", "took", "last", "tries"]
def restVals : List He.Dv := [.str "closed", .int 0, .adr (Cw.dicAt "AT_REST" 2), .adr (Cw.dicAt "AT_REST" 3), .non, .int 0, .non, .non, .int 0]
def partVals : List He.Dv := [.str "name", .str "wishes", .str "stand", .str "turn", .str "yours", .str "number", .str "plan", .str "refused", .str "given", .str "heard", .str "took", .str "last", .str "tries", .str "echoes", .str "why"]
def ex (K : PySem.W.Frag) : Bool := Cw.tupSB K (He.ga K "PARTS") partVals && (Cw.valsAll K (He.ga K "AT_REST") restVals && (Cw.tupSB K (Cw.dicAt "AT_REST" 2 K) [] && (Cw.tupSB K (Cw.dicAt "AT_REST" 3 K) [] && (Cw.tupSB K (Cw.kwAt "plan_of" "refused" K) [] && (Cw.tupSB K (Cw.kwAt "written" "pairs" K) [])))))
def ts : List He.Tab := [((fun K => He.ga K "AT_REST"), restKeys)]
def loose0 : List PySem.Str := ["WishError", "NotClosed", "NotOpen", "LETTERS", "LONGEST", "GREATEST", "ALL", "is_name", "is_worth", "is_tuple", "is_pair", "left_of", "plan_of", "ask_of", "PARTS", "AT_REST", "new_end", "known_of", "as_end", "written", "ask_written", "begin", "shut", "opened", "closing", "ticked", "has_failed", "wished", "are_pairs", "is_said"]
def loose1 : List PySem.Str := ["kinds_in", "answer", "are_refusals", "left_behind", "behind", "letter_back", "MOST_ECHOES", "heard_echo", "heard_closed", "heard_ask", "heard_answer", "heard_word", "heard", "_law_pen", "_law_draw", "_law_kinds", "_law_worths", "_law_wishes", "_law_bounds", "_law_books", "_law_two", "_law_done", "_law_comes", "_law_of_itself", "_law_led", "_law_asks_right", "_law_both_right", "_law_ticks_right"]
def loose : List PySem.Str := loose0 ++ loose1
abbrev R : PySem.W.OpenRow := PySem.W.OpenLaw.row PySem.Challenge.rw_crossedwishes_k39_whole_nothing_refused
abbrev qv : Program := PySem.W.view R.prog [65]
abbrev hk : PySem.W.Hook := Cw.hookC fa fn ts ex 4
def ob (s : PySem.W.SharedT) : Cw.AlC := Cw.obsCG fa fn ts ex 4 (HandSHeadRun.getT s)
theorem ob_eq (s : PySem.W.SharedT) : ob s = hk.obs s.abs := Cw.obsCG_eq (HandSHeadRun.getT_eq s)
end CwHead
end
section
/-! CwH2: the run of the top. -/
namespace CwHead
open PySem PySem.Spec PyProof.Rows L2
theorem runF (w : World) : HandSHeadRun.RunEq R qv hk ob 4000 loose (w.withFollow "special-get-raises" false) := by
  intro os
  kernel_rfl
theorem runT (w : World) : HandSHeadRun.RunEq R qv hk ob 4000 loose (w.withFollow "special-get-raises" true) := by
  intro os
  kernel_rfl
theorem run (w : World) : HandSHeadRun.RunEq R qv hk ob 4000 loose w := PySem.W.byRow2 "special-get-raises" (P := fun w => HandSHeadRun.RunEq R qv hk ob 4000 loose w) runF runT w
end CwHead
end
section
/-! CwH3: every def keeps its promise, from the head's facts (printed by genh.py). -/
namespace CwHead
open PySem PySem.Spec PyProof.Rows L2 Cw
theorem parts_rep {K : PySem.W.Frag} (st : Ste) : RepVs K st (partVals.map (He.Dv.v K)) partsV := .cons (.str _) (.cons (.str _) (.cons (.str _) (.cons (.str _) (.cons (.str _) (.cons (.str _) (.cons (.str _) (.cons (.str _) (.cons (.str _) (.cons (.str _) (.cons (.str _) (.cons (.str _) (.cons (.str _) (.cons (.str _) (.cons (.str _) (.nil)))))))))))))))
theorem rest_rep {K : PySem.W.Frag} (h2 : ∀ H, TupS K H (Cw.dicAt "AT_REST" 2 K) []) (h3 : ∀ H, TupS K H (Cw.dicAt "AT_REST" 3 K) []) (st : Ste) : RepK K st ((restKeys.zip (restVals.map (He.Dv.v K))).map fun q => ((.inr q.1 : Key), q.2)) restK := .cons (.str _) (.cons (.int _) (.cons (.tup (h2 _) .nil) (.cons (.tup (h3 _) .nil) (.cons .non (.cons (.int _) (.cons .non (.cons .non (.cons (.int _) (.nil)))))))))
theorem txt {w : World} {K : PySem.W.Frag} {h : Heap} {mg : Str → Option Value} (P : Program) (X : K.In h) (G : h.Ns mainGlobals mg) (c : Cw.SaysC fa fn ts ex w K) : Txt P w K mg := by
  have e0 := c.exo
  obtain ⟨x0, y0⟩ := He.ba e0
  obtain ⟨x1, y1⟩ := He.ba y0
  obtain ⟨x2, y2⟩ := He.ba y1
  obtain ⟨x3, y3⟩ := He.ba y2
  obtain ⟨x4, y4⟩ := He.ba y3
  have x5 := y4
  exact {
    n_abs := He.free_ok X G (c.t.d.fact 49 (f := .free "abs") rfl)
    n_all := He.free_ok X G (c.t.d.fact 50 (f := .free "all") rfl)
    n_any := He.free_ok X G (c.t.d.fact 51 (f := .free "any") rfl)
    n_bool := He.free_ok X G (c.t.d.fact 52 (f := .free "bool") rfl)
    n_dict := He.free_ok X G (c.t.d.fact 53 (f := .free "dict") rfl)
    n_int := He.free_ok X G (c.t.d.fact 54 (f := .free "int") rfl)
    n_isinstance := He.free_ok X G (c.t.d.fact 55 (f := .free "isinstance") rfl)
    n_len := He.free_ok X G (c.t.d.fact 56 (f := .free "len") rfl)
    n_list := He.free_ok X G (c.t.d.fact 57 (f := .free "list") rfl)
    n_max := He.free_ok X G (c.t.d.fact 58 (f := .free "max") rfl)
    n_min := He.free_ok X G (c.t.d.fact 59 (f := .free "min") rfl)
    n_range := He.free_ok X G (c.t.d.fact 60 (f := .free "range") rfl)
    n_set := He.free_ok X G (c.t.d.fact 61 (f := .free "set") rfl)
    n_sorted := He.free_ok X G (c.t.d.fact 62 (f := .free "sorted") rfl)
    n_str := He.free_ok X G (c.t.d.fact 63 (f := .free "str") rfl)
    n_sum := He.free_ok X G (c.t.d.fact 64 (f := .free "sum") rfl)
    n_tuple := He.free_ok X G (c.t.d.fact 65 (f := .free "tuple") rfl)
    n_zip := He.free_ok X G (c.t.d.fact 66 (f := .free "zip") rfl)
    g_LONGEST := He.int_ok X G (c.t.d.fact 67 (f := .int "LONGEST" 8) rfl)
    g_GREATEST := He.int_ok X G (c.t.d.fact 68 (f := .int "GREATEST" 9999) rfl)
    g_ALL := He.int_ok X G (c.t.d.fact 69 (f := .int "ALL" (-1)) rfl)
    g_MOST_ECHOES := He.int_ok X G (c.t.d.fact 70 (f := .int "MOST_ECHOES" 3) rfl)
    g_LETTERS := He.str_ok X G (c.t.d.fact 71 (f := .str "LETTERS" "abcdefghijklmnopqrstuvwxyz") rfl)
    g_PARTS := ⟨_, _, He.glo_ok X G (c.t.d.fact 72 (f := .glo "PARTS") rfl), fun H => Cw.tupSB_ok x0 H, fun st => parts_rep st⟩
    g_REST := ⟨_, _, He.glo_ok X G (c.t.d.fact 73 (f := .glo "AT_REST") rfl), Cw.kdk_of (c.dic 0 (t := ((fun K => He.ga K "AT_REST"), restKeys)) rfl) x1 (by decide +kernel), Nat.le_of_ble_eq_true rfl, fun st => rest_rep (fun H => Cw.tupSB_ok x2 H) (fun H => Cw.tupSB_ok x3 H) st⟩ }
theorem dfl {w : World} {K : PySem.W.Frag} (c : Cw.SaysC fa fn ts ex w K) : (∀ H, TupS K H (Cw.kwAt "plan_of" "refused" K) []) ∧ ∀ H, TupS K H (Cw.kwAt "written" "pairs" K) [] := by
  have e0 := c.exo
  obtain ⟨x0, y0⟩ := He.ba e0
  obtain ⟨x1, y1⟩ := He.ba y0
  obtain ⟨x2, y2⟩ := He.ba y1
  obtain ⟨x3, y3⟩ := He.ba y2
  obtain ⟨x4, y4⟩ := He.ba y3
  exact ⟨fun H => Cw.tupSB_ok x4 H, fun H => Cw.tupSB_ok y4 H⟩
theorem c_law_pen {P : Program} {w : World} {K : PySem.W.Frag} {h : Heap} {mg : Str → Option Value} {base : Heap} (X : K.In h) (G : h.Ns mainGlobals mg) (c : Cw.SaysC fa fn ts ex w K)  : Callee P w K mg base "_law_pen" 1 [] 1 m_law_pen := by
  obtain ⟨fd, F⟩ := c.t.d.def_ 0 (d := d_law_pen) rfl
  have hm := He.glo_ok X G (c.t.d.fact 0 (f := .glo "_law_pen") rfl)
  obtain ⟨k1, k2⟩ := dfl c
  have ok := ok_law_pen (base := base) (txt P X G c) F
  exact ⟨_, fd, ["_law_script"], [], [], hm, F.kp, ok, FunD.bindsN (ps := ["_law_script"]) F (fun _ _ _ _ _ _ us hl => match us, hl with | [_], _ => rfl), .nil, fun _ => .nil⟩
theorem c_law_draw {P : Program} {w : World} {K : PySem.W.Frag} {h : Heap} {mg : Str → Option Value} {base : Heap} (X : K.In h) (G : h.Ns mainGlobals mg) (c : Cw.SaysC fa fn ts ex w K)  : Callee P w K mg base "_law_draw" 1 [] 2 m_law_draw := by
  obtain ⟨fd, F⟩ := c.t.d.def_ 1 (d := d_law_draw) rfl
  have hm := He.glo_ok X G (c.t.d.fact 1 (f := .glo "_law_draw") rfl)
  obtain ⟨k1, k2⟩ := dfl c
  have ok := ok_law_draw (base := base) (txt P X G c) F
  exact ⟨_, fd, ["_law_pen_here", "_law_many"], [], [], hm, F.kp, ok, FunD.bindsN (ps := ["_law_pen_here", "_law_many"]) F (fun _ _ _ _ _ _ us hl => match us, hl with | [_, _], _ => rfl), .nil, fun _ => .nil⟩
theorem c_law_kinds {P : Program} {w : World} {K : PySem.W.Frag} {h : Heap} {mg : Str → Option Value} {base : Heap} (X : K.In h) (G : h.Ns mainGlobals mg) (c : Cw.SaysC fa fn ts ex w K) (c_law_draw : Callee P w K mg base "_law_draw" 1 [] 2 m_law_draw) : Callee P w K mg base "_law_kinds" 2 [] 2 m_law_kinds := by
  obtain ⟨fd, F⟩ := c.t.d.def_ 2 (d := d_law_kinds) rfl
  have hm := He.glo_ok X G (c.t.d.fact 2 (f := .glo "_law_kinds") rfl)
  obtain ⟨k1, k2⟩ := dfl c
  have ok := ok_law_kinds (base := base) (txt P X G c) F c_law_draw
  exact ⟨_, fd, ["_law_pen_here", "_law_many"], [], [], hm, F.kp, ok, FunD.bindsN (ps := ["_law_pen_here", "_law_many"]) F (fun _ _ _ _ _ _ us hl => match us, hl with | [_, _], _ => rfl), .nil, fun _ => .nil⟩
theorem c_law_worths {P : Program} {w : World} {K : PySem.W.Frag} {h : Heap} {mg : Str → Option Value} {base : Heap} (X : K.In h) (G : h.Ns mainGlobals mg) (c : Cw.SaysC fa fn ts ex w K) (c_law_draw : Callee P w K mg base "_law_draw" 1 [] 2 m_law_draw) : Callee P w K mg base "_law_worths" 2 [] 2 m_law_worths := by
  obtain ⟨fd, F⟩ := c.t.d.def_ 3 (d := d_law_worths) rfl
  have hm := He.glo_ok X G (c.t.d.fact 3 (f := .glo "_law_worths") rfl)
  obtain ⟨k1, k2⟩ := dfl c
  have ok := ok_law_worths (base := base) (txt P X G c) F c_law_draw
  exact ⟨_, fd, ["_law_pen_here", "_law_most"], [], [], hm, F.kp, ok, FunD.bindsN (ps := ["_law_pen_here", "_law_most"]) F (fun _ _ _ _ _ _ us hl => match us, hl with | [_, _], _ => rfl), .nil, fun _ => .nil⟩
theorem c_law_wishes {P : Program} {w : World} {K : PySem.W.Frag} {h : Heap} {mg : Str → Option Value} {base : Heap} (X : K.In h) (G : h.Ns mainGlobals mg) (c : Cw.SaysC fa fn ts ex w K) (c_law_draw : Callee P w K mg base "_law_draw" 1 [] 2 m_law_draw) (c_law_worths : Callee P w K mg base "_law_worths" 2 [] 2 m_law_worths) : Callee P w K mg base "_law_wishes" 3 [] 3 m_law_wishes := by
  obtain ⟨fd, F⟩ := c.t.d.def_ 4 (d := d_law_wishes) rfl
  have hm := He.glo_ok X G (c.t.d.fact 4 (f := .glo "_law_wishes") rfl)
  obtain ⟨k1, k2⟩ := dfl c
  have ok := ok_law_wishes (base := base) (txt P X G c) F c_law_draw c_law_worths
  exact ⟨_, fd, ["_law_pen_here", "_law_kinds_here", "_law_most"], [], [], hm, F.kp, ok, FunD.bindsN (ps := ["_law_pen_here", "_law_kinds_here", "_law_most"]) F (fun _ _ _ _ _ _ us hl => match us, hl with | [_, _, _], _ => rfl), .nil, fun _ => .nil⟩
theorem c_law_bounds {P : Program} {w : World} {K : PySem.W.Frag} {h : Heap} {mg : Str → Option Value} {base : Heap} (X : K.In h) (G : h.Ns mainGlobals mg) (c : Cw.SaysC fa fn ts ex w K) (c_law_draw : Callee P w K mg base "_law_draw" 1 [] 2 m_law_draw) (c_law_worths : Callee P w K mg base "_law_worths" 2 [] 2 m_law_worths) : Callee P w K mg base "_law_bounds" 3 [] 3 m_law_bounds := by
  obtain ⟨fd, F⟩ := c.t.d.def_ 5 (d := d_law_bounds) rfl
  have hm := He.glo_ok X G (c.t.d.fact 5 (f := .glo "_law_bounds") rfl)
  obtain ⟨k1, k2⟩ := dfl c
  have ok := ok_law_bounds (base := base) (txt P X G c) F c_law_draw c_law_worths
  exact ⟨_, fd, ["_law_pen_here", "_law_kinds_here", "_law_most"], [], [], hm, F.kp, ok, FunD.bindsN (ps := ["_law_pen_here", "_law_kinds_here", "_law_most"]) F (fun _ _ _ _ _ _ us hl => match us, hl with | [_, _, _], _ => rfl), .nil, fun _ => .nil⟩
theorem c_law_books {P : Program} {w : World} {K : PySem.W.Frag} {h : Heap} {mg : Str → Option Value} {base : Heap} (X : K.In h) (G : h.Ns mainGlobals mg) (c : Cw.SaysC fa fn ts ex w K) (c_law_kinds : Callee P w K mg base "_law_kinds" 2 [] 2 m_law_kinds) (c_law_draw : Callee P w K mg base "_law_draw" 1 [] 2 m_law_draw) (c_law_wishes : Callee P w K mg base "_law_wishes" 3 [] 3 m_law_wishes) (c_law_bounds : Callee P w K mg base "_law_bounds" 3 [] 3 m_law_bounds) : Callee P w K mg base "_law_books" 4 [] 3 m_law_books := by
  obtain ⟨fd, F⟩ := c.t.d.def_ 6 (d := d_law_books) rfl
  have hm := He.glo_ok X G (c.t.d.fact 6 (f := .glo "_law_books") rfl)
  obtain ⟨k1, k2⟩ := dfl c
  have ok := ok_law_books (base := base) (txt P X G c) F c_law_kinds c_law_draw c_law_wishes c_law_bounds
  exact ⟨_, fd, ["_law_pen_here", "_law_many", "_law_most"], [], [], hm, F.kp, ok, FunD.bindsN (ps := ["_law_pen_here", "_law_many", "_law_most"]) F (fun _ _ _ _ _ _ us hl => match us, hl with | [_, _, _], _ => rfl), .nil, fun _ => .nil⟩
theorem c_as_end {P : Program} {w : World} {K : PySem.W.Frag} {h : Heap} {mg : Str → Option Value} {base : Heap} (X : K.In h) (G : h.Ns mainGlobals mg) (c : Cw.SaysC fa fn ts ex w K)  : Callee P w K mg base "as_end" 1 [] 1 m_as_end := by
  obtain ⟨fd, F⟩ := c.t.d.def_ 7 (d := d_as_end) rfl
  have hm := He.glo_ok X G (c.t.d.fact 7 (f := .glo "as_end") rfl)
  obtain ⟨k1, k2⟩ := dfl c
  have ok := ok_as_end (base := base) (txt P X G c) F
  exact ⟨_, fd, ["known"], [], [], hm, F.kp, ok, FunD.bindsN (ps := ["known"]) F (fun _ _ _ _ _ _ us hl => match us, hl with | [_], _ => rfl), .nil, fun _ => .nil⟩
theorem c_new_end {P : Program} {w : World} {K : PySem.W.Frag} {h : Heap} {mg : Str → Option Value} {base : Heap} (X : K.In h) (G : h.Ns mainGlobals mg) (c : Cw.SaysC fa fn ts ex w K) (c_as_end : Callee P w K mg base "as_end" 1 [] 1 m_as_end) : Callee P w K mg base "new_end" 2 [] 2 m_new_end := by
  obtain ⟨fd, F⟩ := c.t.d.def_ 8 (d := d_new_end) rfl
  have hm := He.glo_ok X G (c.t.d.fact 8 (f := .glo "new_end") rfl)
  obtain ⟨k1, k2⟩ := dfl c
  have ok := ok_new_end (base := base) (txt P X G c) F c_as_end
  exact ⟨_, fd, ["name", "wishes"], [], [], hm, F.kp, ok, FunD.bindsN (ps := ["name", "wishes"]) F (fun _ _ _ _ _ _ us hl => match us, hl with | [_, _], _ => rfl), .nil, fun _ => .nil⟩
theorem c_law_two {P : Program} {w : World} {K : PySem.W.Frag} {h : Heap} {mg : Str → Option Value} {base : Heap} (X : K.In h) (G : h.Ns mainGlobals mg) (c : Cw.SaysC fa fn ts ex w K) (c_law_kinds : Callee P w K mg base "_law_kinds" 2 [] 2 m_law_kinds) (c_law_books : Callee P w K mg base "_law_books" 4 [] 3 m_law_books) (c_law_draw : Callee P w K mg base "_law_draw" 1 [] 2 m_law_draw) (c_new_end : Callee P w K mg base "new_end" 2 [] 2 m_new_end) : Callee P w K mg base "_law_two" 5 [] 1 m_law_two := by
  obtain ⟨fd, F⟩ := c.t.d.def_ 9 (d := d_law_two) rfl
  have hm := He.glo_ok X G (c.t.d.fact 9 (f := .glo "_law_two") rfl)
  obtain ⟨k1, k2⟩ := dfl c
  have ok := ok_law_two (base := base) (txt P X G c) F c_law_kinds c_law_books c_law_draw c_new_end
  exact ⟨_, fd, ["_law_pen_here"], [], [], hm, F.kp, ok, FunD.bindsN (ps := ["_law_pen_here"]) F (fun _ _ _ _ _ _ us hl => match us, hl with | [_], _ => rfl), .nil, fun _ => .nil⟩
theorem c_law_done {P : Program} {w : World} {K : PySem.W.Frag} {h : Heap} {mg : Str → Option Value} {base : Heap} (X : K.In h) (G : h.Ns mainGlobals mg) (c : Cw.SaysC fa fn ts ex w K)  : Callee P w K mg base "_law_done" 1 [] 3 m_law_done := by
  obtain ⟨fd, F⟩ := c.t.d.def_ 10 (d := d_law_done) rfl
  have hm := He.glo_ok X G (c.t.d.fact 10 (f := .glo "_law_done") rfl)
  obtain ⟨k1, k2⟩ := dfl c
  have ok := ok_law_done (base := base) (txt P X G c) F
  exact ⟨_, fd, ["_law_pair", "_law_at", "_law_told"], [], [], hm, F.kp, ok, FunD.bindsN (ps := ["_law_pair", "_law_at", "_law_told"]) F (fun _ _ _ _ _ _ us hl => match us, hl with | [_, _, _], _ => rfl), .nil, fun _ => .nil⟩
theorem c_known_of {P : Program} {w : World} {K : PySem.W.Frag} {h : Heap} {mg : Str → Option Value} {base : Heap} (X : K.In h) (G : h.Ns mainGlobals mg) (c : Cw.SaysC fa fn ts ex w K)  : Callee P w K mg base "known_of" 1 [] 1 m_known_of := by
  obtain ⟨fd, F⟩ := c.t.d.def_ 11 (d := d_known_of) rfl
  have hm := He.glo_ok X G (c.t.d.fact 11 (f := .glo "known_of") rfl)
  obtain ⟨k1, k2⟩ := dfl c
  have ok := ok_known_of (base := base) (txt P X G c) F
  exact ⟨_, fd, ["end"], [], [], hm, F.kp, ok, FunD.bindsN (ps := ["end"]) F (fun _ _ _ _ _ _ us hl => match us, hl with | [_], _ => rfl), .nil, fun _ => .nil⟩
theorem c_written_number_pairs {P : Program} {w : World} {K : PySem.W.Frag} {h : Heap} {mg : Str → Option Value} {base : Heap} (X : K.In h) (G : h.Ns mainGlobals mg) (c : Cw.SaysC fa fn ts ex w K)  : CalleeK P w K mg base "written" 1 2 ["number", "pairs"] (fun as bs => as ++ bs) 4 m_written := by
  obtain ⟨fd, F⟩ := c.t.d.def_ 12 (d := d_written) rfl
  have hm := He.glo_ok X G (c.t.d.fact 12 (f := .glo "written") rfl)
  obtain ⟨k1, k2⟩ := dfl c
  have ok := ok_written (base := base) (txt P X G c) F
  obtain ⟨mv, hb⟩ := FunD.kbinds0 (ps := ["known", "word", "number", "pairs"]) F 2 ["number", "pairs"] [] (fun {α} a m z => a ++ (z ++ m)) (by intro z; cases z) (by intro q hq; simp at hq; try (first | (rcases hq with rfl) | skip); simp [He.DefD.kws, d_written]) (fun r1 r2 r3 => r1.append (r3.append r2)) (fun D doc pm an cdv ct us mv ws h1 h2 h3 => match us, mv, ws, h1, h2, h3 with | [_, _], [], [_, _], _, _, _ => by first | rfl | exact ⟨_, _, _, _, _, _, rfl, rfl, rfl⟩ | exact ⟨_, _, _, _, _, _, rfl, rfl, _, _, _, _, _, _, rfl, rfl, rfl⟩)
  exact ⟨_, fd, ["known", "word", "number", "pairs"], _, _, hm, F.kp, ok, hb, fun st vs zs as bs a b => (by simpa using a.append b)⟩
theorem c_written {P : Program} {w : World} {K : PySem.W.Frag} {h : Heap} {mg : Str → Option Value} {base : Heap} (X : K.In h) (G : h.Ns mainGlobals mg) (c : Cw.SaysC fa fn ts ex w K)  : Callee P w K mg base "written" 1 [.int 0, .tup []] 4 m_written := by
  obtain ⟨fd, F⟩ := c.t.d.def_ 12 (d := d_written) rfl
  have hm := He.glo_ok X G (c.t.d.fact 12 (f := .glo "written") rfl)
  obtain ⟨k1, k2⟩ := dfl c
  have ok := ok_written (base := base) (txt P X G c) F
  obtain ⟨ds, hv, hb⟩ := FunD.binds0 (ps := ["known", "word", "number", "pairs"]) F 2 (by intro z; cases z) rfl (fun D doc pm an cdv ct us ks h1 h2 => match us, ks, h1, h2 with | [_, _], [_, _], _, _ => by first | rfl | exact ⟨_, _, _, _, _, _, rfl, rfl, rfl⟩ | exact ⟨_, _, _, _, _, _, rfl, rfl, _, _, _, _, _, _, rfl, rfl, rfl⟩)
  exact ⟨_, fd, ["known", "word", "number", "pairs"], _, ds, hm, F.kp, ok, hb, hv, fun st => .cons (.int _) (.cons (.tup (k2 _) .nil) (.nil))⟩
theorem c_ask_of {P : Program} {w : World} {K : PySem.W.Frag} {h : Heap} {mg : Str → Option Value} {base : Heap} (X : K.In h) (G : h.Ns mainGlobals mg) (c : Cw.SaysC fa fn ts ex w K)  : Callee P w K mg base "ask_of" 1 [] 2 m_ask_of := by
  obtain ⟨fd, F⟩ := c.t.d.def_ 13 (d := d_ask_of) rfl
  have hm := He.glo_ok X G (c.t.d.fact 13 (f := .glo "ask_of") rfl)
  obtain ⟨k1, k2⟩ := dfl c
  have ok := ok_ask_of (base := base) (txt P X G c) F
  exact ⟨_, fd, ["wishes", "plan"], [], [], hm, F.kp, ok, FunD.bindsN (ps := ["wishes", "plan"]) F (fun _ _ _ _ _ _ us hl => match us, hl with | [_, _], _ => rfl), .nil, fun _ => .nil⟩
theorem c_ask_written {P : Program} {w : World} {K : PySem.W.Frag} {h : Heap} {mg : Str → Option Value} {base : Heap} (X : K.In h) (G : h.Ns mainGlobals mg) (c : Cw.SaysC fa fn ts ex w K) (c_written_number_pairs : CalleeK P w K mg base "written" 1 2 ["number", "pairs"] (fun as bs => as ++ bs) 4 m_written) (c_ask_of : Callee P w K mg base "ask_of" 1 [] 2 m_ask_of) : Callee P w K mg base "ask_written" 2 [] 1 m_ask_written := by
  obtain ⟨fd, F⟩ := c.t.d.def_ 14 (d := d_ask_written) rfl
  have hm := He.glo_ok X G (c.t.d.fact 14 (f := .glo "ask_written") rfl)
  obtain ⟨k1, k2⟩ := dfl c
  have ok := ok_ask_written (base := base) (txt P X G c) F c_written_number_pairs c_ask_of
  exact ⟨_, fd, ["known"], [], [], hm, F.kp, ok, FunD.bindsN (ps := ["known"]) F (fun _ _ _ _ _ _ us hl => match us, hl with | [_], _ => rfl), .nil, fun _ => .nil⟩
theorem c_left_of {P : Program} {w : World} {K : PySem.W.Frag} {h : Heap} {mg : Str → Option Value} {base : Heap} (X : K.In h) (G : h.Ns mainGlobals mg) (c : Cw.SaysC fa fn ts ex w K)  : Callee P w K mg base "left_of" 1 [] 3 m_left_of := by
  obtain ⟨fd, F⟩ := c.t.d.def_ 15 (d := d_left_of) rfl
  have hm := He.glo_ok X G (c.t.d.fact 15 (f := .glo "left_of") rfl)
  obtain ⟨k1, k2⟩ := dfl c
  have ok := ok_left_of (base := base) (txt P X G c) F
  exact ⟨_, fd, ["kind", "worths", "refused"], [], [], hm, F.kp, ok, FunD.bindsN (ps := ["kind", "worths", "refused"]) F (fun _ _ _ _ _ _ us hl => match us, hl with | [_, _, _], _ => rfl), .nil, fun _ => .nil⟩
theorem c_plan_of {P : Program} {w : World} {K : PySem.W.Frag} {h : Heap} {mg : Str → Option Value} {base : Heap} (X : K.In h) (G : h.Ns mainGlobals mg) (c : Cw.SaysC fa fn ts ex w K) (c_left_of : Callee P w K mg base "left_of" 1 [] 3 m_left_of) : Callee P w K mg base "plan_of" 2 [.tup []] 2 m_plan_of := by
  obtain ⟨fd, F⟩ := c.t.d.def_ 16 (d := d_plan_of) rfl
  have hm := He.glo_ok X G (c.t.d.fact 16 (f := .glo "plan_of") rfl)
  obtain ⟨k1, k2⟩ := dfl c
  have ok := ok_plan_of (base := base) (txt P X G c) F c_left_of
  obtain ⟨ds, hv, hb⟩ := FunD.binds0 (ps := ["wishes", "refused"]) F 1 (by intro z; cases z) rfl (fun D doc pm an cdv ct us ks h1 h2 => match us, ks, h1, h2 with | [_], [_], _, _ => by first | rfl | exact ⟨_, _, _, _, _, _, rfl, rfl, rfl⟩ | exact ⟨_, _, _, _, _, _, rfl, rfl, _, _, _, _, _, _, rfl, rfl, rfl⟩)
  exact ⟨_, fd, ["wishes", "refused"], _, ds, hm, F.kp, ok, hb, hv, fun st => .cons (.tup (k1 _) .nil) (.nil)⟩
theorem c_plan_of_refused {P : Program} {w : World} {K : PySem.W.Frag} {h : Heap} {mg : Str → Option Value} {base : Heap} (X : K.In h) (G : h.Ns mainGlobals mg) (c : Cw.SaysC fa fn ts ex w K) (c_left_of : Callee P w K mg base "left_of" 1 [] 3 m_left_of) : CalleeK P w K mg base "plan_of" 2 1 ["refused"] (fun as bs => as ++ bs) 2 m_plan_of := by
  obtain ⟨fd, F⟩ := c.t.d.def_ 16 (d := d_plan_of) rfl
  have hm := He.glo_ok X G (c.t.d.fact 16 (f := .glo "plan_of") rfl)
  obtain ⟨k1, k2⟩ := dfl c
  have ok := ok_plan_of (base := base) (txt P X G c) F c_left_of
  obtain ⟨mv, hb⟩ := FunD.kbinds0 (ps := ["wishes", "refused"]) F 1 ["refused"] [] (fun {α} a m z => a ++ (z ++ m)) (by intro z; cases z) (by intro q hq; simp at hq; try (first | (rcases hq with rfl) | skip); simp [He.DefD.kws, d_plan_of]) (fun r1 r2 r3 => r1.append (r3.append r2)) (fun D doc pm an cdv ct us mv ws h1 h2 h3 => match us, mv, ws, h1, h2, h3 with | [_], [], [_], _, _, _ => by first | rfl | exact ⟨_, _, _, _, _, _, rfl, rfl, rfl⟩ | exact ⟨_, _, _, _, _, _, rfl, rfl, _, _, _, _, _, _, rfl, rfl, rfl⟩)
  exact ⟨_, fd, ["wishes", "refused"], _, _, hm, F.kp, ok, hb, fun st vs zs as bs a b => (by simpa using a.append b)⟩
theorem c_begin {P : Program} {w : World} {K : PySem.W.Frag} {h : Heap} {mg : Str → Option Value} {base : Heap} (X : K.In h) (G : h.Ns mainGlobals mg) (c : Cw.SaysC fa fn ts ex w K) (c_plan_of : Callee P w K mg base "plan_of" 2 [.tup []] 2 m_plan_of) (c_ask_written : Callee P w K mg base "ask_written" 2 [] 1 m_ask_written) : Callee P w K mg base "begin" 3 [] 2 m_begin := by
  obtain ⟨fd, F⟩ := c.t.d.def_ 17 (d := d_begin) rfl
  have hm := He.glo_ok X G (c.t.d.fact 17 (f := .glo "begin") rfl)
  obtain ⟨k1, k2⟩ := dfl c
  have ok := ok_begin (base := base) (txt P X G c) F c_plan_of c_ask_written
  exact ⟨_, fd, ["known", "tries"], [], [], hm, F.kp, ok, FunD.bindsN (ps := ["known", "tries"]) F (fun _ _ _ _ _ _ us hl => match us, hl with | [_, _], _ => rfl), .nil, fun _ => .nil⟩
theorem c_opened_tries {P : Program} {w : World} {K : PySem.W.Frag} {h : Heap} {mg : Str → Option Value} {base : Heap} (X : K.In h) (G : h.Ns mainGlobals mg) (c : Cw.SaysC fa fn ts ex w K) (c_known_of : Callee P w K mg base "known_of" 1 [] 1 m_known_of) (c_begin : Callee P w K mg base "begin" 3 [] 2 m_begin) (c_as_end : Callee P w K mg base "as_end" 1 [] 1 m_as_end) : CalleeK P w K mg base "opened" 4 1 ["tries"] (fun as bs => as ++ bs) 2 m_opened := by
  obtain ⟨fd, F⟩ := c.t.d.def_ 18 (d := d_opened) rfl
  have hm := He.glo_ok X G (c.t.d.fact 18 (f := .glo "opened") rfl)
  obtain ⟨k1, k2⟩ := dfl c
  have ok := ok_opened (base := base) (txt P X G c) F c_known_of c_begin c_as_end
  obtain ⟨mv, hb⟩ := FunD.kbinds0 (ps := ["end", "tries"]) F 1 ["tries"] [] (fun {α} a m z => a ++ (z ++ m)) (by intro z; cases z) (by intro q hq; simp at hq; try (first | (rcases hq with rfl) | skip); simp [He.DefD.kws, d_opened]) (fun r1 r2 r3 => r1.append (r3.append r2)) (fun D doc pm an cdv ct us mv ws h1 h2 h3 => match us, mv, ws, h1, h2, h3 with | [_], [], [_], _, _, _ => by first | rfl | exact ⟨_, _, _, _, _, _, rfl, rfl, rfl⟩ | exact ⟨_, _, _, _, _, _, rfl, rfl, _, _, _, _, _, _, rfl, rfl, rfl⟩)
  exact ⟨_, fd, ["end", "tries"], _, _, hm, F.kp, ok, hb, fun st vs zs as bs a b => (by simpa using a.append b)⟩
theorem c_shut {P : Program} {w : World} {K : PySem.W.Frag} {h : Heap} {mg : Str → Option Value} {base : Heap} (X : K.In h) (G : h.Ns mainGlobals mg) (c : Cw.SaysC fa fn ts ex w K) (c_written : Callee P w K mg base "written" 1 [.int 0, .tup []] 4 m_written) : Callee P w K mg base "shut" 2 [.bl true] 3 m_shut := by
  obtain ⟨fd, F⟩ := c.t.d.def_ 19 (d := d_shut) rfl
  have hm := He.glo_ok X G (c.t.d.fact 19 (f := .glo "shut") rfl)
  obtain ⟨k1, k2⟩ := dfl c
  have ok := ok_shut (base := base) (txt P X G c) F c_written
  obtain ⟨ds, hv, hb⟩ := FunD.binds0 (ps := ["known", "why", "is_told"]) F 2 (by intro z; cases z) rfl (fun D doc pm an cdv ct us ks h1 h2 => match us, ks, h1, h2 with | [_, _], [_], _, _ => by first | rfl | exact ⟨_, _, _, _, _, _, rfl, rfl, rfl⟩ | exact ⟨_, _, _, _, _, _, rfl, rfl, _, _, _, _, _, _, rfl, rfl, rfl⟩)
  exact ⟨_, fd, ["known", "why", "is_told"], _, ds, hm, F.kp, ok, hb, hv, fun st => .cons (.bl _) (.nil)⟩
theorem c_shut_is_told {P : Program} {w : World} {K : PySem.W.Frag} {h : Heap} {mg : Str → Option Value} {base : Heap} (X : K.In h) (G : h.Ns mainGlobals mg) (c : Cw.SaysC fa fn ts ex w K) (c_written : Callee P w K mg base "written" 1 [.int 0, .tup []] 4 m_written) : CalleeK P w K mg base "shut" 2 2 ["is_told"] (fun as bs => as ++ bs) 3 m_shut := by
  obtain ⟨fd, F⟩ := c.t.d.def_ 19 (d := d_shut) rfl
  have hm := He.glo_ok X G (c.t.d.fact 19 (f := .glo "shut") rfl)
  obtain ⟨k1, k2⟩ := dfl c
  have ok := ok_shut (base := base) (txt P X G c) F c_written
  obtain ⟨mv, hb⟩ := FunD.kbinds0 (ps := ["known", "why", "is_told"]) F 2 ["is_told"] [] (fun {α} a m z => a ++ (z ++ m)) (by intro z; cases z) (by intro q hq; simp at hq; try (first | (rcases hq with rfl) | skip); simp [He.DefD.kws, d_shut]) (fun r1 r2 r3 => r1.append (r3.append r2)) (fun D doc pm an cdv ct us mv ws h1 h2 h3 => match us, mv, ws, h1, h2, h3 with | [_, _], [], [_], _, _, _ => by first | rfl | exact ⟨_, _, _, _, _, _, rfl, rfl, rfl⟩ | exact ⟨_, _, _, _, _, _, rfl, rfl, _, _, _, _, _, _, rfl, rfl, rfl⟩)
  exact ⟨_, fd, ["known", "why", "is_told"], _, _, hm, F.kp, ok, hb, fun st vs zs as bs a b => (by simpa using a.append b)⟩
theorem c_closing {P : Program} {w : World} {K : PySem.W.Frag} {h : Heap} {mg : Str → Option Value} {base : Heap} (X : K.In h) (G : h.Ns mainGlobals mg) (c : Cw.SaysC fa fn ts ex w K) (c_known_of : Callee P w K mg base "known_of" 1 [] 1 m_known_of) (c_shut : Callee P w K mg base "shut" 2 [.bl true] 3 m_shut) (c_as_end : Callee P w K mg base "as_end" 1 [] 1 m_as_end) : Callee P w K mg base "closing" 3 [] 1 m_closing := by
  obtain ⟨fd, F⟩ := c.t.d.def_ 20 (d := d_closing) rfl
  have hm := He.glo_ok X G (c.t.d.fact 20 (f := .glo "closing") rfl)
  obtain ⟨k1, k2⟩ := dfl c
  have ok := ok_closing (base := base) (txt P X G c) F c_known_of c_shut c_as_end
  exact ⟨_, fd, ["end"], [], [], hm, F.kp, ok, FunD.bindsN (ps := ["end"]) F (fun _ _ _ _ _ _ us hl => match us, hl with | [_], _ => rfl), .nil, fun _ => .nil⟩
theorem c_has_failed {P : Program} {w : World} {K : PySem.W.Frag} {h : Heap} {mg : Str → Option Value} {base : Heap} (X : K.In h) (G : h.Ns mainGlobals mg) (c : Cw.SaysC fa fn ts ex w K)  : Callee P w K mg base "has_failed" 1 [] 2 m_has_failed := by
  obtain ⟨fd, F⟩ := c.t.d.def_ 21 (d := d_has_failed) rfl
  have hm := He.glo_ok X G (c.t.d.fact 21 (f := .glo "has_failed") rfl)
  obtain ⟨k1, k2⟩ := dfl c
  have ok := ok_has_failed (base := base) (txt P X G c) F
  exact ⟨_, fd, ["wishes", "plan"], [], [], hm, F.kp, ok, FunD.bindsN (ps := ["wishes", "plan"]) F (fun _ _ _ _ _ _ us hl => match us, hl with | [_, _], _ => rfl), .nil, fun _ => .nil⟩
theorem c_wished_tries {P : Program} {w : World} {K : PySem.W.Frag} {h : Heap} {mg : Str → Option Value} {base : Heap} (X : K.In h) (G : h.Ns mainGlobals mg) (c : Cw.SaysC fa fn ts ex w K) (c_known_of : Callee P w K mg base "known_of" 1 [] 1 m_known_of) (c_as_end : Callee P w K mg base "as_end" 1 [] 1 m_as_end) (c_plan_of_refused : CalleeK P w K mg base "plan_of" 2 1 ["refused"] (fun as bs => as ++ bs) 2 m_plan_of) (c_has_failed : Callee P w K mg base "has_failed" 1 [] 2 m_has_failed) (c_shut : Callee P w K mg base "shut" 2 [.bl true] 3 m_shut) (c_ask_written : Callee P w K mg base "ask_written" 2 [] 1 m_ask_written) : CalleeK P w K mg base "wished" 3 2 ["tries"] (fun as bs => as ++ bs) 3 m_wished := by
  obtain ⟨fd, F⟩ := c.t.d.def_ 22 (d := d_wished) rfl
  have hm := He.glo_ok X G (c.t.d.fact 22 (f := .glo "wished") rfl)
  obtain ⟨k1, k2⟩ := dfl c
  have ok := ok_wished (base := base) (txt P X G c) F c_known_of c_as_end c_plan_of_refused c_has_failed c_shut c_ask_written
  obtain ⟨mv, hb⟩ := FunD.kbinds0 (ps := ["end", "wishes", "tries"]) F 2 ["tries"] [] (fun {α} a m z => a ++ (z ++ m)) (by intro z; cases z) (by intro q hq; simp at hq; try (first | (rcases hq with rfl) | skip); simp [He.DefD.kws, d_wished]) (fun r1 r2 r3 => r1.append (r3.append r2)) (fun D doc pm an cdv ct us mv ws h1 h2 h3 => match us, mv, ws, h1, h2, h3 with | [_, _], [], [_], _, _, _ => by first | rfl | exact ⟨_, _, _, _, _, _, rfl, rfl, rfl⟩ | exact ⟨_, _, _, _, _, _, rfl, rfl, _, _, _, _, _, _, rfl, rfl, rfl⟩)
  exact ⟨_, fd, ["end", "wishes", "tries"], _, _, hm, F.kp, ok, hb, fun st vs zs as bs a b => (by simpa using a.append b)⟩
theorem c_ticked {P : Program} {w : World} {K : PySem.W.Frag} {h : Heap} {mg : Str → Option Value} {base : Heap} (X : K.In h) (G : h.Ns mainGlobals mg) (c : Cw.SaysC fa fn ts ex w K) (c_known_of : Callee P w K mg base "known_of" 1 [] 1 m_known_of) (c_shut : Callee P w K mg base "shut" 2 [.bl true] 3 m_shut) (c_as_end : Callee P w K mg base "as_end" 1 [] 1 m_as_end) (c_ask_written : Callee P w K mg base "ask_written" 2 [] 1 m_ask_written) (c_written : Callee P w K mg base "written" 1 [.int 0, .tup []] 4 m_written) : Callee P w K mg base "ticked" 3 [] 1 m_ticked := by
  obtain ⟨fd, F⟩ := c.t.d.def_ 23 (d := d_ticked) rfl
  have hm := He.glo_ok X G (c.t.d.fact 23 (f := .glo "ticked") rfl)
  obtain ⟨k1, k2⟩ := dfl c
  have ok := ok_ticked (base := base) (txt P X G c) F c_known_of c_shut c_as_end c_ask_written c_written
  exact ⟨_, fd, ["end"], [], [], hm, F.kp, ok, FunD.bindsN (ps := ["end"]) F (fun _ _ _ _ _ _ us hl => match us, hl with | [_], _ => rfl), .nil, fun _ => .nil⟩
theorem c_law_of_itself {P : Program} {w : World} {K : PySem.W.Frag} {h : Heap} {mg : Str → Option Value} {base : Heap} (X : K.In h) (G : h.Ns mainGlobals mg) (c : Cw.SaysC fa fn ts ex w K) (c_law_done : Callee P w K mg base "_law_done" 1 [] 3 m_law_done) (c_opened_tries : CalleeK P w K mg base "opened" 4 1 ["tries"] (fun as bs => as ++ bs) 2 m_opened) (c_closing : Callee P w K mg base "closing" 3 [] 1 m_closing) (c_law_wishes : Callee P w K mg base "_law_wishes" 3 [] 3 m_law_wishes) (c_law_draw : Callee P w K mg base "_law_draw" 1 [] 2 m_law_draw) (c_wished_tries : CalleeK P w K mg base "wished" 3 2 ["tries"] (fun as bs => as ++ bs) 3 m_wished) (c_ticked : Callee P w K mg base "ticked" 3 [] 1 m_ticked) : Callee P w K mg base "_law_of_itself" 5 [] 4 m_law_of_itself := by
  obtain ⟨fd, F⟩ := c.t.d.def_ 24 (d := d_law_of_itself) rfl
  have hm := He.glo_ok X G (c.t.d.fact 24 (f := .glo "_law_of_itself") rfl)
  obtain ⟨k1, k2⟩ := dfl c
  have ok := ok_law_of_itself (base := base) (txt P X G c) F c_law_done c_opened_tries c_closing c_law_wishes c_law_draw c_wished_tries c_ticked
  exact ⟨_, fd, ["_law_pen_here", "_law_pair", "_law_at", "_law_way"], [], [], hm, F.kp, ok, FunD.bindsN (ps := ["_law_pen_here", "_law_pair", "_law_at", "_law_way"]) F (fun _ _ _ _ _ _ us hl => match us, hl with | [_, _, _, _], _ => rfl), .nil, fun _ => .nil⟩
theorem c_heard_echo {P : Program} {w : World} {K : PySem.W.Frag} {h : Heap} {mg : Str → Option Value} {base : Heap} (X : K.In h) (G : h.Ns mainGlobals mg) (c : Cw.SaysC fa fn ts ex w K) (c_shut_is_told : CalleeK P w K mg base "shut" 2 2 ["is_told"] (fun as bs => as ++ bs) 3 m_shut) : Callee P w K mg base "heard_echo" 3 [] 1 m_heard_echo := by
  obtain ⟨fd, F⟩ := c.t.d.def_ 25 (d := d_heard_echo) rfl
  have hm := He.glo_ok X G (c.t.d.fact 25 (f := .glo "heard_echo") rfl)
  obtain ⟨k1, k2⟩ := dfl c
  have ok := ok_heard_echo (base := base) (txt P X G c) F c_shut_is_told
  exact ⟨_, fd, ["known"], [], [], hm, F.kp, ok, FunD.bindsN (ps := ["known"]) F (fun _ _ _ _ _ _ us hl => match us, hl with | [_], _ => rfl), .nil, fun _ => .nil⟩
theorem c_letter_back {P : Program} {w : World} {K : PySem.W.Frag} {h : Heap} {mg : Str → Option Value} {base : Heap} (X : K.In h) (G : h.Ns mainGlobals mg) (c : Cw.SaysC fa fn ts ex w K)  : Callee P w K mg base "letter_back" 1 [] 2 m_letter_back := by
  obtain ⟨fd, F⟩ := c.t.d.def_ 26 (d := d_letter_back) rfl
  have hm := He.glo_ok X G (c.t.d.fact 26 (f := .glo "letter_back") rfl)
  obtain ⟨k1, k2⟩ := dfl c
  have ok := ok_letter_back (base := base) (txt P X G c) F
  exact ⟨_, fd, ["letter", "other"], [], [], hm, F.kp, ok, FunD.bindsN (ps := ["letter", "other"]) F (fun _ _ _ _ _ _ us hl => match us, hl with | [_, _], _ => rfl), .nil, fun _ => .nil⟩
theorem c_heard_closed {P : Program} {w : World} {K : PySem.W.Frag} {h : Heap} {mg : Str → Option Value} {base : Heap} (X : K.In h) (G : h.Ns mainGlobals mg) (c : Cw.SaysC fa fn ts ex w K) (c_letter_back : Callee P w K mg base "letter_back" 1 [] 2 m_letter_back) : Callee P w K mg base "heard_closed" 2 [] 2 m_heard_closed := by
  obtain ⟨fd, F⟩ := c.t.d.def_ 27 (d := d_heard_closed) rfl
  have hm := He.glo_ok X G (c.t.d.fact 27 (f := .glo "heard_closed") rfl)
  obtain ⟨k1, k2⟩ := dfl c
  have ok := ok_heard_closed (base := base) (txt P X G c) F c_letter_back
  exact ⟨_, fd, ["known", "letter"], [], [], hm, F.kp, ok, FunD.bindsN (ps := ["known", "letter"]) F (fun _ _ _ _ _ _ us hl => match us, hl with | [_, _], _ => rfl), .nil, fun _ => .nil⟩
theorem c_is_tuple {P : Program} {w : World} {K : PySem.W.Frag} {h : Heap} {mg : Str → Option Value} {base : Heap} (X : K.In h) (G : h.Ns mainGlobals mg) (c : Cw.SaysC fa fn ts ex w K)  : Callee P w K mg base "is_tuple" 1 [] 3 m_is_tuple := by
  obtain ⟨fd, F⟩ := c.t.d.def_ 28 (d := d_is_tuple) rfl
  have hm := He.glo_ok X G (c.t.d.fact 28 (f := .glo "is_tuple") rfl)
  obtain ⟨k1, k2⟩ := dfl c
  have ok := ok_is_tuple (base := base) (txt P X G c) F
  exact ⟨_, fd, ["thing", "least", "most"], [], [], hm, F.kp, ok, FunD.bindsN (ps := ["thing", "least", "most"]) F (fun _ _ _ _ _ _ us hl => match us, hl with | [_, _, _], _ => rfl), .nil, fun _ => .nil⟩
theorem c_is_name {P : Program} {w : World} {K : PySem.W.Frag} {h : Heap} {mg : Str → Option Value} {base : Heap} (X : K.In h) (G : h.Ns mainGlobals mg) (c : Cw.SaysC fa fn ts ex w K)  : Callee P w K mg base "is_name" 1 [] 1 m_is_name := by
  obtain ⟨fd, F⟩ := c.t.d.def_ 29 (d := d_is_name) rfl
  have hm := He.glo_ok X G (c.t.d.fact 29 (f := .glo "is_name") rfl)
  obtain ⟨k1, k2⟩ := dfl c
  have ok := ok_is_name (base := base) (txt P X G c) F
  exact ⟨_, fd, ["thing"], [], [], hm, F.kp, ok, FunD.bindsN (ps := ["thing"]) F (fun _ _ _ _ _ _ us hl => match us, hl with | [_], _ => rfl), .nil, fun _ => .nil⟩
theorem c_is_worth {P : Program} {w : World} {K : PySem.W.Frag} {h : Heap} {mg : Str → Option Value} {base : Heap} (X : K.In h) (G : h.Ns mainGlobals mg) (c : Cw.SaysC fa fn ts ex w K)  : Callee P w K mg base "is_worth" 1 [] 1 m_is_worth := by
  obtain ⟨fd, F⟩ := c.t.d.def_ 30 (d := d_is_worth) rfl
  have hm := He.glo_ok X G (c.t.d.fact 30 (f := .glo "is_worth") rfl)
  obtain ⟨k1, k2⟩ := dfl c
  have ok := ok_is_worth (base := base) (txt P X G c) F
  exact ⟨_, fd, ["thing"], [], [], hm, F.kp, ok, FunD.bindsN (ps := ["thing"]) F (fun _ _ _ _ _ _ us hl => match us, hl with | [_], _ => rfl), .nil, fun _ => .nil⟩
theorem c_is_pair {P : Program} {w : World} {K : PySem.W.Frag} {h : Heap} {mg : Str → Option Value} {base : Heap} (X : K.In h) (G : h.Ns mainGlobals mg) (c : Cw.SaysC fa fn ts ex w K) (c_is_tuple : Callee P w K mg base "is_tuple" 1 [] 3 m_is_tuple) (c_is_name : Callee P w K mg base "is_name" 1 [] 1 m_is_name) (c_is_worth : Callee P w K mg base "is_worth" 1 [] 1 m_is_worth) : Callee P w K mg base "is_pair" 2 [] 1 m_is_pair := by
  obtain ⟨fd, F⟩ := c.t.d.def_ 31 (d := d_is_pair) rfl
  have hm := He.glo_ok X G (c.t.d.fact 31 (f := .glo "is_pair") rfl)
  obtain ⟨k1, k2⟩ := dfl c
  have ok := ok_is_pair (base := base) (txt P X G c) F c_is_tuple c_is_name c_is_worth
  exact ⟨_, fd, ["thing"], [], [], hm, F.kp, ok, FunD.bindsN (ps := ["thing"]) F (fun _ _ _ _ _ _ us hl => match us, hl with | [_], _ => rfl), .nil, fun _ => .nil⟩
theorem c_are_pairs {P : Program} {w : World} {K : PySem.W.Frag} {h : Heap} {mg : Str → Option Value} {base : Heap} (X : K.In h) (G : h.Ns mainGlobals mg) (c : Cw.SaysC fa fn ts ex w K) (c_is_pair : Callee P w K mg base "is_pair" 2 [] 1 m_is_pair) : Callee P w K mg base "are_pairs" 3 [] 1 m_are_pairs := by
  obtain ⟨fd, F⟩ := c.t.d.def_ 32 (d := d_are_pairs) rfl
  have hm := He.glo_ok X G (c.t.d.fact 32 (f := .glo "are_pairs") rfl)
  obtain ⟨k1, k2⟩ := dfl c
  have ok := ok_are_pairs (base := base) (txt P X G c) F c_is_pair
  exact ⟨_, fd, ["thing"], [], [], hm, F.kp, ok, FunD.bindsN (ps := ["thing"]) F (fun _ _ _ _ _ _ us hl => match us, hl with | [_], _ => rfl), .nil, fun _ => .nil⟩
theorem c_is_said {P : Program} {w : World} {K : PySem.W.Frag} {h : Heap} {mg : Str → Option Value} {base : Heap} (X : K.In h) (G : h.Ns mainGlobals mg) (c : Cw.SaysC fa fn ts ex w K) (c_is_tuple : Callee P w K mg base "is_tuple" 1 [] 3 m_is_tuple) (c_are_pairs : Callee P w K mg base "are_pairs" 3 [] 1 m_are_pairs) : Callee P w K mg base "is_said" 4 [] 1 m_is_said := by
  obtain ⟨fd, F⟩ := c.t.d.def_ 33 (d := d_is_said) rfl
  have hm := He.glo_ok X G (c.t.d.fact 33 (f := .glo "is_said") rfl)
  obtain ⟨k1, k2⟩ := dfl c
  have ok := ok_is_said (base := base) (txt P X G c) F c_is_tuple c_are_pairs
  exact ⟨_, fd, ["thing"], [], [], hm, F.kp, ok, FunD.bindsN (ps := ["thing"]) F (fun _ _ _ _ _ _ us hl => match us, hl with | [_], _ => rfl), .nil, fun _ => .nil⟩
theorem c_kinds_in {P : Program} {w : World} {K : PySem.W.Frag} {h : Heap} {mg : Str → Option Value} {base : Heap} (X : K.In h) (G : h.Ns mainGlobals mg) (c : Cw.SaysC fa fn ts ex w K)  : Callee P w K mg base "kinds_in" 1 [] 1 m_kinds_in := by
  obtain ⟨fd, F⟩ := c.t.d.def_ 34 (d := d_kinds_in) rfl
  have hm := He.glo_ok X G (c.t.d.fact 34 (f := .glo "kinds_in") rfl)
  obtain ⟨k1, k2⟩ := dfl c
  have ok := ok_kinds_in (base := base) (txt P X G c) F
  exact ⟨_, fd, ["pairs"], [], [], hm, F.kp, ok, FunD.bindsN (ps := ["pairs"]) F (fun _ _ _ _ _ _ us hl => match us, hl with | [_], _ => rfl), .nil, fun _ => .nil⟩
theorem c_are_refusals {P : Program} {w : World} {K : PySem.W.Frag} {h : Heap} {mg : Str → Option Value} {base : Heap} (X : K.In h) (G : h.Ns mainGlobals mg) (c : Cw.SaysC fa fn ts ex w K) (c_kinds_in : Callee P w K mg base "kinds_in" 1 [] 1 m_kinds_in) : Callee P w K mg base "are_refusals" 2 [] 3 m_are_refusals := by
  obtain ⟨fd, F⟩ := c.t.d.def_ 35 (d := d_are_refusals) rfl
  have hm := He.glo_ok X G (c.t.d.fact 35 (f := .glo "are_refusals") rfl)
  obtain ⟨k1, k2⟩ := dfl c
  have ok := ok_are_refusals (base := base) (txt P X G c) F c_kinds_in
  exact ⟨_, fd, ["word", "pairs", "ask"], [], [], hm, F.kp, ok, FunD.bindsN (ps := ["word", "pairs", "ask"]) F (fun _ _ _ _ _ _ us hl => match us, hl with | [_, _, _], _ => rfl), .nil, fun _ => .nil⟩
theorem c_left_behind {P : Program} {w : World} {K : PySem.W.Frag} {h : Heap} {mg : Str → Option Value} {base : Heap} (X : K.In h) (G : h.Ns mainGlobals mg) (c : Cw.SaysC fa fn ts ex w K)  : Callee P w K mg base "left_behind" 1 [] 3 m_left_behind := by
  obtain ⟨fd, F⟩ := c.t.d.def_ 36 (d := d_left_behind) rfl
  have hm := He.glo_ok X G (c.t.d.fact 36 (f := .glo "left_behind") rfl)
  obtain ⟨k1, k2⟩ := dfl c
  have ok := ok_left_behind (base := base) (txt P X G c) F
  exact ⟨_, fd, ["word", "worth", "left"], [], [], hm, F.kp, ok, FunD.bindsN (ps := ["word", "worth", "left"]) F (fun _ _ _ _ _ _ us hl => match us, hl with | [_, _, _], _ => rfl), .nil, fun _ => .nil⟩
theorem c_behind {P : Program} {w : World} {K : PySem.W.Frag} {h : Heap} {mg : Str → Option Value} {base : Heap} (X : K.In h) (G : h.Ns mainGlobals mg) (c : Cw.SaysC fa fn ts ex w K) (c_is_said : Callee P w K mg base "is_said" 4 [] 1 m_is_said) (c_ask_of : Callee P w K mg base "ask_of" 1 [] 2 m_ask_of) (c_are_refusals : Callee P w K mg base "are_refusals" 2 [] 3 m_are_refusals) (c_left_behind : Callee P w K mg base "left_behind" 1 [] 3 m_left_behind) : Callee P w K mg base "behind" 5 [] 3 m_behind := by
  obtain ⟨fd, F⟩ := c.t.d.def_ 37 (d := d_behind) rfl
  have hm := He.glo_ok X G (c.t.d.fact 37 (f := .glo "behind") rfl)
  obtain ⟨k1, k2⟩ := dfl c
  have ok := ok_behind (base := base) (txt P X G c) F c_is_said c_ask_of c_are_refusals c_left_behind
  exact ⟨_, fd, ["wishes", "plan", "thing"], [], [], hm, F.kp, ok, FunD.bindsN (ps := ["wishes", "plan", "thing"]) F (fun _ _ _ _ _ _ us hl => match us, hl with | [_, _, _], _ => rfl), .nil, fun _ => .nil⟩
theorem c_heard_answer {P : Program} {w : World} {K : PySem.W.Frag} {h : Heap} {mg : Str → Option Value} {base : Heap} (X : K.In h) (G : h.Ns mainGlobals mg) (c : Cw.SaysC fa fn ts ex w K) (c_behind : Callee P w K mg base "behind" 5 [] 3 m_behind) (c_shut : Callee P w K mg base "shut" 2 [.bl true] 3 m_shut) (c_ask_written : Callee P w K mg base "ask_written" 2 [] 1 m_ask_written) : Callee P w K mg base "heard_answer" 6 [] 3 m_heard_answer := by
  obtain ⟨fd, F⟩ := c.t.d.def_ 38 (d := d_heard_answer) rfl
  have hm := He.glo_ok X G (c.t.d.fact 38 (f := .glo "heard_answer") rfl)
  obtain ⟨k1, k2⟩ := dfl c
  have ok := ok_heard_answer (base := base) (txt P X G c) F c_behind c_shut c_ask_written
  exact ⟨_, fd, ["known", "letter", "tries"], [], [], hm, F.kp, ok, FunD.bindsN (ps := ["known", "letter", "tries"]) F (fun _ _ _ _ _ _ us hl => match us, hl with | [_, _, _], _ => rfl), .nil, fun _ => .nil⟩
theorem c_answer {P : Program} {w : World} {K : PySem.W.Frag} {h : Heap} {mg : Str → Option Value} {base : Heap} (X : K.In h) (G : h.Ns mainGlobals mg) (c : Cw.SaysC fa fn ts ex w K)  : Callee P w K mg base "answer" 1 [] 2 m_answer := by
  obtain ⟨fd, F⟩ := c.t.d.def_ 39 (d := d_answer) rfl
  have hm := He.glo_ok X G (c.t.d.fact 39 (f := .glo "answer") rfl)
  obtain ⟨k1, k2⟩ := dfl c
  have ok := ok_answer (base := base) (txt P X G c) F
  exact ⟨_, fd, ["bounds", "ask"], [], [], hm, F.kp, ok, FunD.bindsN (ps := ["bounds", "ask"]) F (fun _ _ _ _ _ _ us hl => match us, hl with | [_, _], _ => rfl), .nil, fun _ => .nil⟩
theorem c_heard_ask {P : Program} {w : World} {K : PySem.W.Frag} {h : Heap} {mg : Str → Option Value} {base : Heap} (X : K.In h) (G : h.Ns mainGlobals mg) (c : Cw.SaysC fa fn ts ex w K) (c_answer : Callee P w K mg base "answer" 1 [] 2 m_answer) (c_written_number_pairs : CalleeK P w K mg base "written" 1 2 ["number", "pairs"] (fun as bs => as ++ bs) 4 m_written) : Callee P w K mg base "heard_ask" 2 [] 3 m_heard_ask := by
  obtain ⟨fd, F⟩ := c.t.d.def_ 40 (d := d_heard_ask) rfl
  have hm := He.glo_ok X G (c.t.d.fact 40 (f := .glo "heard_ask") rfl)
  obtain ⟨k1, k2⟩ := dfl c
  have ok := ok_heard_ask (base := base) (txt P X G c) F c_answer c_written_number_pairs
  exact ⟨_, fd, ["known", "letter", "bounds"], [], [], hm, F.kp, ok, FunD.bindsN (ps := ["known", "letter", "bounds"]) F (fun _ _ _ _ _ _ us hl => match us, hl with | [_, _, _], _ => rfl), .nil, fun _ => .nil⟩
theorem c_heard_word {P : Program} {w : World} {K : PySem.W.Frag} {h : Heap} {mg : Str → Option Value} {base : Heap} (X : K.In h) (G : h.Ns mainGlobals mg) (c : Cw.SaysC fa fn ts ex w K) (c_heard_ask : Callee P w K mg base "heard_ask" 2 [] 3 m_heard_ask) (c_shut_is_told : CalleeK P w K mg base "shut" 2 2 ["is_told"] (fun as bs => as ++ bs) 3 m_shut) (c_written : Callee P w K mg base "written" 1 [.int 0, .tup []] 4 m_written) (c_heard_answer : Callee P w K mg base "heard_answer" 6 [] 3 m_heard_answer) : Callee P w K mg base "heard_word" 7 [] 4 m_heard_word := by
  obtain ⟨fd, F⟩ := c.t.d.def_ 41 (d := d_heard_word) rfl
  have hm := He.glo_ok X G (c.t.d.fact 41 (f := .glo "heard_word") rfl)
  obtain ⟨k1, k2⟩ := dfl c
  have ok := ok_heard_word (base := base) (txt P X G c) F c_heard_ask c_shut_is_told c_written c_heard_answer
  exact ⟨_, fd, ["known", "letter", "bounds", "tries"], [], [], hm, F.kp, ok, FunD.bindsN (ps := ["known", "letter", "bounds", "tries"]) F (fun _ _ _ _ _ _ us hl => match us, hl with | [_, _, _, _], _ => rfl), .nil, fun _ => .nil⟩
theorem c_heard_tries {P : Program} {w : World} {K : PySem.W.Frag} {h : Heap} {mg : Str → Option Value} {base : Heap} (X : K.In h) (G : h.Ns mainGlobals mg) (c : Cw.SaysC fa fn ts ex w K) (c_known_of : Callee P w K mg base "known_of" 1 [] 1 m_known_of) (c_heard_echo : Callee P w K mg base "heard_echo" 3 [] 1 m_heard_echo) (c_as_end : Callee P w K mg base "as_end" 1 [] 1 m_as_end) (c_heard_closed : Callee P w K mg base "heard_closed" 2 [] 2 m_heard_closed) (c_begin : Callee P w K mg base "begin" 3 [] 2 m_begin) (c_heard_word : Callee P w K mg base "heard_word" 7 [] 4 m_heard_word) : CalleeK P w K mg base "heard" 8 3 ["tries"] (fun as bs => as ++ bs) 4 m_heard := by
  obtain ⟨fd, F⟩ := c.t.d.def_ 42 (d := d_heard) rfl
  have hm := He.glo_ok X G (c.t.d.fact 42 (f := .glo "heard") rfl)
  obtain ⟨k1, k2⟩ := dfl c
  have ok := ok_heard (base := base) (txt P X G c) F c_known_of c_heard_echo c_as_end c_heard_closed c_begin c_heard_word
  obtain ⟨mv, hb⟩ := FunD.kbinds0 (ps := ["end", "letter", "bounds", "tries"]) F 3 ["tries"] [] (fun {α} a m z => a ++ (z ++ m)) (by intro z; cases z) (by intro q hq; simp at hq; try (first | (rcases hq with rfl) | skip); simp [He.DefD.kws, d_heard]) (fun r1 r2 r3 => r1.append (r3.append r2)) (fun D doc pm an cdv ct us mv ws h1 h2 h3 => match us, mv, ws, h1, h2, h3 with | [_, _, _], [], [_], _, _, _ => by first | rfl | exact ⟨_, _, _, _, _, _, rfl, rfl, rfl⟩ | exact ⟨_, _, _, _, _, _, rfl, rfl, _, _, _, _, _, _, rfl, rfl, rfl⟩)
  exact ⟨_, fd, ["end", "letter", "bounds", "tries"], _, _, hm, F.kp, ok, hb, fun st vs zs as bs a b => (by simpa using a.append b)⟩
theorem c_law_comes {P : Program} {w : World} {K : PySem.W.Frag} {h : Heap} {mg : Str → Option Value} {base : Heap} (X : K.In h) (G : h.Ns mainGlobals mg) (c : Cw.SaysC fa fn ts ex w K) (c_law_done : Callee P w K mg base "_law_done" 1 [] 3 m_law_done) (c_heard_tries : CalleeK P w K mg base "heard" 8 3 ["tries"] (fun as bs => as ++ bs) 4 m_heard) : Callee P w K mg base "_law_comes" 9 [] 2 m_law_comes := by
  obtain ⟨fd, F⟩ := c.t.d.def_ 43 (d := d_law_comes) rfl
  have hm := He.glo_ok X G (c.t.d.fact 43 (f := .glo "_law_comes") rfl)
  obtain ⟨k1, k2⟩ := dfl c
  have ok := ok_law_comes (base := base) (txt P X G c) F c_law_done c_heard_tries
  exact ⟨_, fd, ["_law_pair", "_law_spot"], [], [], hm, F.kp, ok, FunD.bindsN (ps := ["_law_pair", "_law_spot"]) F (fun _ _ _ _ _ _ us hl => match us, hl with | [_, _], _ => rfl), .nil, fun _ => .nil⟩
theorem c_law_led {P : Program} {w : World} {K : PySem.W.Frag} {h : Heap} {mg : Str → Option Value} {base : Heap} (X : K.In h) (G : h.Ns mainGlobals mg) (c : Cw.SaysC fa fn ts ex w K) (c_law_draw : Callee P w K mg base "_law_draw" 1 [] 2 m_law_draw) (c_law_of_itself : Callee P w K mg base "_law_of_itself" 5 [] 4 m_law_of_itself) (c_law_comes : Callee P w K mg base "_law_comes" 9 [] 2 m_law_comes) : Callee P w K mg base "_law_led" 10 [] 2 m_law_led := by
  obtain ⟨fd, F⟩ := c.t.d.def_ 44 (d := d_law_led) rfl
  have hm := He.glo_ok X G (c.t.d.fact 44 (f := .glo "_law_led") rfl)
  obtain ⟨k1, k2⟩ := dfl c
  have ok := ok_law_led (base := base) (txt P X G c) F c_law_draw c_law_of_itself c_law_comes
  exact ⟨_, fd, ["_law_pen_here", "_law_pair"], [], [], hm, F.kp, ok, FunD.bindsN (ps := ["_law_pen_here", "_law_pair"]) F (fun _ _ _ _ _ _ us hl => match us, hl with | [_, _], _ => rfl), .nil, fun _ => .nil⟩
theorem c_law_asks_right {P : Program} {w : World} {K : PySem.W.Frag} {h : Heap} {mg : Str → Option Value} {base : Heap} (X : K.In h) (G : h.Ns mainGlobals mg) (c : Cw.SaysC fa fn ts ex w K)  : Callee P w K mg base "_law_asks_right" 1 [] 4 m_law_asks_right := by
  obtain ⟨fd, F⟩ := c.t.d.def_ 45 (d := d_law_asks_right) rfl
  have hm := He.glo_ok X G (c.t.d.fact 45 (f := .glo "_law_asks_right") rfl)
  obtain ⟨k1, k2⟩ := dfl c
  have ok := ok_law_asks_right (base := base) (txt P X G c) F
  exact ⟨_, fd, ["_law_seen", "_law_end", "_law_letters", "_law_is_altered"], [], [], hm, F.kp, ok, FunD.bindsN (ps := ["_law_seen", "_law_end", "_law_letters", "_law_is_altered"]) F (fun _ _ _ _ _ _ us hl => match us, hl with | [_, _, _, _], _ => rfl), .nil, fun _ => .nil⟩
theorem c_law_both_right {P : Program} {w : World} {K : PySem.W.Frag} {h : Heap} {mg : Str → Option Value} {base : Heap} (X : K.In h) (G : h.Ns mainGlobals mg) (c : Cw.SaysC fa fn ts ex w K) (c_law_asks_right : Callee P w K mg base "_law_asks_right" 1 [] 4 m_law_asks_right) : Callee P w K mg base "_law_both_right" 2 [] 2 m_law_both_right := by
  obtain ⟨fd, F⟩ := c.t.d.def_ 46 (d := d_law_both_right) rfl
  have hm := He.glo_ok X G (c.t.d.fact 46 (f := .glo "_law_both_right") rfl)
  obtain ⟨k1, k2⟩ := dfl c
  have ok := ok_law_both_right (base := base) (txt P X G c) F c_law_asks_right
  exact ⟨_, fd, ["_law_seen", "_law_pair"], [], [], hm, F.kp, ok, FunD.bindsN (ps := ["_law_seen", "_law_pair"]) F (fun _ _ _ _ _ _ us hl => match us, hl with | [_, _], _ => rfl), .nil, fun _ => .nil⟩
theorem c_law_ticks_right {P : Program} {w : World} {K : PySem.W.Frag} {h : Heap} {mg : Str → Option Value} {base : Heap} (X : K.In h) (G : h.Ns mainGlobals mg) (c : Cw.SaysC fa fn ts ex w K) (c_ticked : Callee P w K mg base "ticked" 3 [] 1 m_ticked) : Callee P w K mg base "_law_ticks_right" 4 [] 1 m_law_ticks_right := by
  obtain ⟨fd, F⟩ := c.t.d.def_ 47 (d := d_law_ticks_right) rfl
  have hm := He.glo_ok X G (c.t.d.fact 47 (f := .glo "_law_ticks_right") rfl)
  obtain ⟨k1, k2⟩ := dfl c
  have ok := ok_law_ticks_right (base := base) (txt P X G c) F c_ticked
  exact ⟨_, fd, ["_law_end"], [], [], hm, F.kp, ok, FunD.bindsN (ps := ["_law_end"]) F (fun _ _ _ _ _ _ us hl => match us, hl with | [_], _ => rfl), .nil, fun _ => .nil⟩
end CwHead
end
section
/-! CwH4: the law's def keeps its promise; the row, from the plain law (printed by genh.py). -/
namespace CwHead
open PySem PySem.Spec PyProof.Rows L2 Cw
theorem facts {P : Program} {w : World} {K : PySem.W.Frag} {h : Heap} {mg : Str → Option Value} {f : Addr} (X : K.In h) (G : h.Ns mainGlobals mg) (hfa : mg ("law" : Str) = some (.ref f)) (c : Cw.SaysC fa fn ts ex w K) :
    ∃ fd : FuncData, (∀ (s : Shared) (v : Value), BindsTo s fd ⟨[v], []⟩ [("_law_script", v)]) ∧ ∀ base : Heap, K.In base → base.Ns mainGlobals mg → FnOk P w K mg base CX0 11 f fd ["_law_script"] (spM K 1 m_law) := by
  obtain ⟨fd, F⟩ := c.t.d.def_ 48 (d := d_law) rfl
  have e := hfa.symm.trans (He.glo_ok X G (c.t.d.fact 48 (f := .glo "law") rfl))
  cases e
  have b := FunD.bindsA (ps := ["_law_script"]) F fun _ _ _ _ _ _ us hl => match us, hl with | [_], _ => rfl
  refine ⟨fd, fun s v => b s [v] rfl, fun base _ _ => ?_⟩
  have hc_law_pen := c_law_pen (P := P) (base := base) X G c
  have hc_law_draw := c_law_draw (P := P) (base := base) X G c
  have hc_law_kinds := c_law_kinds (P := P) (base := base) X G c hc_law_draw
  have hc_law_worths := c_law_worths (P := P) (base := base) X G c hc_law_draw
  have hc_law_wishes := c_law_wishes (P := P) (base := base) X G c hc_law_draw hc_law_worths
  have hc_law_bounds := c_law_bounds (P := P) (base := base) X G c hc_law_draw hc_law_worths
  have hc_law_books := c_law_books (P := P) (base := base) X G c hc_law_kinds hc_law_draw hc_law_wishes hc_law_bounds
  have hc_as_end := c_as_end (P := P) (base := base) X G c
  have hc_new_end := c_new_end (P := P) (base := base) X G c hc_as_end
  have hc_law_two := c_law_two (P := P) (base := base) X G c hc_law_kinds hc_law_books hc_law_draw hc_new_end
  have hc_law_done := c_law_done (P := P) (base := base) X G c
  have hc_known_of := c_known_of (P := P) (base := base) X G c
  have hc_written_number_pairs := c_written_number_pairs (P := P) (base := base) X G c
  have hc_written := c_written (P := P) (base := base) X G c
  have hc_ask_of := c_ask_of (P := P) (base := base) X G c
  have hc_ask_written := c_ask_written (P := P) (base := base) X G c hc_written_number_pairs hc_ask_of
  have hc_left_of := c_left_of (P := P) (base := base) X G c
  have hc_plan_of := c_plan_of (P := P) (base := base) X G c hc_left_of
  have hc_plan_of_refused := c_plan_of_refused (P := P) (base := base) X G c hc_left_of
  have hc_begin := c_begin (P := P) (base := base) X G c hc_plan_of hc_ask_written
  have hc_opened_tries := c_opened_tries (P := P) (base := base) X G c hc_known_of hc_begin hc_as_end
  have hc_shut := c_shut (P := P) (base := base) X G c hc_written
  have hc_shut_is_told := c_shut_is_told (P := P) (base := base) X G c hc_written
  have hc_closing := c_closing (P := P) (base := base) X G c hc_known_of hc_shut hc_as_end
  have hc_has_failed := c_has_failed (P := P) (base := base) X G c
  have hc_wished_tries := c_wished_tries (P := P) (base := base) X G c hc_known_of hc_as_end hc_plan_of_refused hc_has_failed hc_shut hc_ask_written
  have hc_ticked := c_ticked (P := P) (base := base) X G c hc_known_of hc_shut hc_as_end hc_ask_written hc_written
  have hc_law_of_itself := c_law_of_itself (P := P) (base := base) X G c hc_law_done hc_opened_tries hc_closing hc_law_wishes hc_law_draw hc_wished_tries hc_ticked
  have hc_heard_echo := c_heard_echo (P := P) (base := base) X G c hc_shut_is_told
  have hc_letter_back := c_letter_back (P := P) (base := base) X G c
  have hc_heard_closed := c_heard_closed (P := P) (base := base) X G c hc_letter_back
  have hc_is_tuple := c_is_tuple (P := P) (base := base) X G c
  have hc_is_name := c_is_name (P := P) (base := base) X G c
  have hc_is_worth := c_is_worth (P := P) (base := base) X G c
  have hc_is_pair := c_is_pair (P := P) (base := base) X G c hc_is_tuple hc_is_name hc_is_worth
  have hc_are_pairs := c_are_pairs (P := P) (base := base) X G c hc_is_pair
  have hc_is_said := c_is_said (P := P) (base := base) X G c hc_is_tuple hc_are_pairs
  have hc_kinds_in := c_kinds_in (P := P) (base := base) X G c
  have hc_are_refusals := c_are_refusals (P := P) (base := base) X G c hc_kinds_in
  have hc_left_behind := c_left_behind (P := P) (base := base) X G c
  have hc_behind := c_behind (P := P) (base := base) X G c hc_is_said hc_ask_of hc_are_refusals hc_left_behind
  have hc_heard_answer := c_heard_answer (P := P) (base := base) X G c hc_behind hc_shut hc_ask_written
  have hc_answer := c_answer (P := P) (base := base) X G c
  have hc_heard_ask := c_heard_ask (P := P) (base := base) X G c hc_answer hc_written_number_pairs
  have hc_heard_word := c_heard_word (P := P) (base := base) X G c hc_heard_ask hc_shut_is_told hc_written hc_heard_answer
  have hc_heard_tries := c_heard_tries (P := P) (base := base) X G c hc_known_of hc_heard_echo hc_as_end hc_heard_closed hc_begin hc_heard_word
  have hc_law_comes := c_law_comes (P := P) (base := base) X G c hc_law_done hc_heard_tries
  have hc_law_led := c_law_led (P := P) (base := base) X G c hc_law_draw hc_law_of_itself hc_law_comes
  have hc_law_asks_right := c_law_asks_right (P := P) (base := base) X G c
  have hc_law_both_right := c_law_both_right (P := P) (base := base) X G c hc_law_asks_right
  have hc_law_ticks_right := c_law_ticks_right (P := P) (base := base) X G c hc_ticked
  exact ok_law (txt P X G c) F hc_law_pen hc_law_two hc_law_of_itself hc_law_both_right hc_law_draw hc_law_led hc_law_ticks_right
end CwHead
open PySem PySem.W PySem.Calls PyProof.Rows
theorem CwHead.holds_of (plain : ∀ ns : List Int, ns.length ≤ 63 → ∃ S', Cw.m_law [.scr ns] [] = some (.bl true, S')) : PySem.Challenge.rw_crossedwishes_k39_whole_nothing_refused.Holds := by
  w_on; o_law
  refine HandSHeadRun.head_any (r := OpenLaw.row PySem.Challenge.rw_crossedwishes_k39_whole_nothing_refused) (q := CwHead.qv) (H := CwHead.hk) (ob := CwHead.ob) (M := 4000) (loose := CwHead.loose) (d := HandSHeadRun.topDef (OpenLaw.row PySem.Challenge.rw_crossedwishes_k39_whole_nothing_refused).prog 65) (kwd := []) CwHead.ob_eq
    (by kernel_rfl) (fun s => by kernel_rfl) CwHead.run (by kernel_rfl) (by kernel_rfl) (by kernel_rfl) (by rfl) (by first | assumption | decide +kernel) (by decide +kernel) ⟨rfl, rfl, rfl, rfl, rfl, by decide +kernel⟩ ?hw ?hc
  case hw => w_witness2
  case hc =>
    refine L2.walk_ofE (l := PySem.Challenge.rw_crossedwishes_k39_whole_nothing_refused) (n := 63) (k := 11) (x := "_law_script") (CX := L2.CX0) rfl (by decide) (by kernel_rfl) ⟨rfl, by decide, by decide⟩ ?F (fun _ _ _ _ z => z)
    intro w mg fa h Y G hmg0
    obtain ⟨K, KX, c⟩ := Y
    have hmg : mg ("law" : PySem.Str) = some (.ref fa) := by
      have e : (HandSHeadRun.topDef (OpenLaw.row PySem.Challenge.rw_crossedwishes_k39_whole_nothing_refused).prog 65).name = ("law" : PySem.Str) := by kernel_rfl
      rw [← e]
      exact hmg0
    obtain ⟨fd, hb, hF⟩ := CwHead.facts (P := (PySem.Challenge.rw_crossedwishes_k39_whole_nothing_refused).prog) (w := w) KX G hmg c
    refine ⟨K, fd, Cw.spM K 1 Cw.m_law, KX, hb, fun H a ns hl hO hS => ?_, hF⟩
    obtain ⟨S', hm⟩ := plain ns hl
    have hscr : Cw.ScrAt K H a (ns.map L2.V.int) := by
      rcases hS with (h1 | h1) | h1
      · rcases hO a with z | ⟨o, xs, z⟩
        · rw [z] at h1; cases h1
        · rw [z] at h1; cases h1
      · exact .inl h1
      · exact .inr h1
    refine ⟨⟨[], H, [], []⟩, [.scr ns], .bl true, S', rfl, ⟨rfl, .nil, fun n a o z => by simp at z, fun b z => by cases z⟩, .cons (.scr hscr) .nil, rfl, hm, fun x st' e1 l1 r1 x1 => ?_⟩
    cases x1
    rfl
end
section
/-! CwP0: the data of the law, by types; equality and shape of what encodes them. -/
namespace Cw
open PySem PySem.Spec PyProof.Rows L2

/-! ### shape -/
def OkN (n : Nat) (v : Val) : Prop := pureV v = true ∧ (toD v).canLay0 = true ∧ (toD v).depth ≤ n
theorem OkN.mono {n m : Nat} {v : Val} (h : OkN n v) (e : n ≤ m) : OkN m v := ⟨h.1, h.2.1, Nat.le_trans h.2.2 e⟩
theorem OkN.ok {n : Nat} {v : Val} (h : OkN n v) (e : n ≤ 64 := by decide) : okV v = true := by
  unfold okV SeqAt.shaped
  rw [h.1, h.2.1, decide_eq_true (Nat.le_trans h.2.2 e)]
  rfl
theorem okN_non : OkN 0 .non := ⟨rfl, rfl, Nat.le_refl _⟩
theorem okN_bl (b : Bool) : OkN 0 (.bl b) := ⟨rfl, rfl, Nat.le_refl _⟩
theorem okN_int (i : Int) : OkN 0 (.int i) := ⟨rfl, rfl, Nat.le_refl _⟩
theorem okN_str {x : Str} (h : PyData.strOk x = true) : OkN 0 (.str x) := ⟨rfl, by simpa [toD, PyData.canLay0] using h, Nat.le_refl _⟩
theorem okNs {n : Nat} : ∀ {vs : List Val}, (∀ v, v ∈ vs → OkN n v) → pureVs vs = true ∧ PyData.canLayAll0 (toDs vs) = true ∧ PyData.depthAll (toDs vs) ≤ n
  | [], _ => ⟨rfl, rfl, Nat.zero_le _⟩
  | v :: vs, h => by
    have h1 := h v List.mem_cons_self
    have h2 := okNs (vs := vs) fun w hw => h w (List.mem_cons_of_mem _ hw)
    refine ⟨by simp [pureVs, h1.1, h2.1], by simp [toDs, PyData.canLayAll0, h1.2.1, h2.2.1], ?_⟩
    have a := h1.2.2
    have b := h2.2.2
    simp only [toDs, PyData.depthAll]
    omega
theorem okN_tup {n : Nat} {vs : List Val} (h : ∀ v, v ∈ vs → OkN n v) : OkN (n + 1) (.tup vs) := by
  obtain ⟨a, b, c⟩ := okNs h
  exact ⟨by simpa [pureV] using a, by simpa [toD, PyData.canLay0] using b, by simp only [toD, PyData.depth]; omega⟩
theorem okN_lst {n : Nat} {vs : List Val} (h : ∀ v, v ∈ vs → OkN n v) : OkN (n + 1) (.lst vs) := by
  obtain ⟨a, b, c⟩ := okNs h
  exact ⟨by simpa [pureV] using a, by simpa [toD, PyData.canLay0] using b, by simp only [toD, PyData.depth]; omega⟩
theorem okN_map {α : Type} {n : Nat} {f : α → Val} (h : ∀ a, OkN n (f a)) (l : List α) : OkN (n + 1) (.tup (l.map f)) := okN_tup fun v hv => by
  obtain ⟨a, _, rfl⟩ := List.mem_map.mp hv
  exact h a
theorem okN_mapL {α : Type} {n : Nat} {f : α → Val} (h : ∀ a, OkN n (f a)) (l : List α) : OkN (n + 1) (.lst (l.map f)) := okN_lst fun v hv => by
  obtain ⟨a, _, rfl⟩ := List.mem_map.mp hv
  exact h a

/-! ### equality -/
def Faith {α : Type} [DecidableEq α] (f : α → Val) : Prop := ∀ a b, vEq (f a) (f b) = decide (a = b)
theorem eqs_map {α : Type} [DecidableEq α] {f : α → Val} (h : Faith f) : ∀ (l m : List α), PyData.eqvAll (toDs (l.map f)) (toDs (m.map f)) = decide (l = m)
  | [], [] => rfl
  | [], b :: m => by simp [toDs, PyData.eqvAll]
  | a :: l, [] => by simp [toDs, PyData.eqvAll]
  | a :: l, b :: m => by
    have h1 : PyData.eqv (toD (f a)) (toD (f b)) = decide (a = b) := h a b
    simp only [List.map_cons, toDs, PyData.eqvAll, h1, eqs_map h l m]
    by_cases e : a = b <;> by_cases e2 : l = m <;> simp [e, e2]
theorem faith_tup {α : Type} [DecidableEq α] {f : α → Val} (h : Faith f) : Faith (fun l : List α => .tup (l.map f)) := fun l m => by
  show PyData.eqv (toD (.tup (l.map f))) (toD (.tup (m.map f))) = _
  simp only [toD, PyData.eqv]
  exact eqs_map h l m
theorem faith_lst {α : Type} [DecidableEq α] {f : α → Val} (h : Faith f) : Faith (fun l : List α => .lst (l.map f)) := fun l m => by
  show PyData.eqv (toD (.lst (l.map f))) (toD (.lst (m.map f))) = _
  simp only [toD, PyData.eqv]
  exact eqs_map h l m
theorem faith_int : Faith Val.int := fun a b => by
  show (a == b) = _
  rw [Bool.eq_iff_iff]; simp
theorem faith_str : Faith Val.str := fun a b => by
  show (a == b) = _
  rw [Bool.eq_iff_iff]; simp
theorem faith_bl : Faith Val.bl := fun a b => by
  show (a == b) = _
  rw [Bool.eq_iff_iff]; simp
theorem faith_two {α β : Type} [DecidableEq α] [DecidableEq β] {f : α → Val} {g : β → Val} (hf : Faith f) (hg : Faith g) : Faith (fun p : α × β => .tup [f p.1, g p.2]) := fun p q => by
  have h1 : PyData.eqv (toD (f p.1)) (toD (f q.1)) = decide (p.1 = q.1) := hf _ _
  have h2 : PyData.eqv (toD (g p.2)) (toD (g q.2)) = decide (p.2 = q.2) := hg _ _
  show PyData.eqv (toD (.tup [f p.1, g p.2])) (toD (.tup [f q.1, g q.2])) = _
  simp only [toD, toDs, PyData.eqv, PyData.eqvAll, h1, h2]
  obtain ⟨a, b⟩ := p
  obtain ⟨c, d⟩ := q
  by_cases e : a = c <;> by_cases e2 : b = d <;> simp [e, e2]
theorem any_map {α : Type} [DecidableEq α] {f : α → Val} (h : Faith f) (l : List α) (a : α) : ((l.map f).any fun z => vEq z (f a)) = decide (a ∈ l) := by
  rw [List.any_map, Bool.eq_iff_iff]
  simp only [List.any_eq_true, Function.comp_apply, decide_eq_true_eq]
  refine ⟨fun ⟨x, hx, e⟩ => ?_, fun hx => ⟨a, hx, by rw [h]; simp⟩⟩
  rw [h] at e
  have e' : x = a := of_decide_eq_true e
  exact e' ▸ hx
theorem tup_nil (xs : List Val) : vEq (.tup xs) (.tup []) = xs.isEmpty := by
  cases xs <;> simp [vEq, toD, toDs, PyData.eqv, PyData.eqvAll]
theorem lst_nil (xs : List Val) : vEq (.lst xs) (.lst []) = xs.isEmpty := by
  cases xs <;> simp [vEq, toD, toDs, PyData.eqv, PyData.eqvAll]

/-! ### kinds and names -/
abbrev Kd := Fin 13
def kstr (k : Kd) : Str := match k with
  | 0 => "a" | 1 => "aa" | 2 => "b" | 3 => "ba" | 4 => "c" | 5 => "k" | 6 => "l" | 7 => "o" | 8 => "zz" | 9 => "zzzzzzzz" | 10 => "m" | 11 => "ma" | 12 => "qq"
theorem kstr_inj : ∀ a b : Kd, kstr a = kstr b → a = b := by decide +kernel
theorem kstr_ok : ∀ a : Kd, PyData.strOk (kstr a) = true := by decide +kernel
def sK (k : Kd) : Val := .str (kstr k)
theorem faith_sK : Faith sK := fun a b => by
  show vEq (.str (kstr a)) (.str (kstr b)) = _
  rw [faith_str]
  by_cases e : a = b
  · simp [e]
  · have e2 : ¬ kstr a = kstr b := fun z => e (kstr_inj a b z)
    simp [e, e2]
theorem okN_sK (k : Kd) : OkN 0 (sK k) := okN_str (kstr_ok k)
abbrev Pk := Kd × Int
def prE (p : Pk) : Val := .tup [sK p.1, .int p.2]
theorem faith_prE : Faith prE := faith_two faith_sK faith_int
theorem okN_prE (p : Pk) : OkN 1 (prE p) := okN_tup fun v hv => by
  have : v = sK p.1 ∨ v = .int p.2 := by simpa using hv
  rcases this with rfl | rfl
  · exact okN_sK _
  · exact okN_int _
def prsE (l : List Pk) : Val := .tup (l.map prE)
theorem faith_prsE : Faith prsE := faith_tup faith_prE
theorem okN_prsE (l : List Pk) : OkN 2 (prsE l) := okN_map okN_prE l
def itsE (l : List Int) : Val := .tup (l.map .int)
theorem faith_itsE : Faith itsE := faith_tup faith_int
theorem okN_itsE (l : List Int) : OkN 1 (itsE l) := okN_map okN_int l
abbrev Pl := Kd × List Int
def plE (q : Pl) : Val := .tup [sK q.1, itsE q.2]
theorem faith_plE : Faith plE := faith_two faith_sK faith_itsE
theorem okN_plE (p : Pl) : OkN 2 (plE p) := okN_tup fun v hv => by
  have : v = sK p.1 ∨ v = itsE p.2 := by simpa using hv
  rcases this with rfl | rfl
  · exact (okN_sK _).mono (by decide)
  · exact okN_itsE _
def planE (l : List Pl) : Val := .tup (l.map plE)
theorem okN_planE (l : List Pl) : OkN 3 (planE l) := okN_map okN_plE l
structure Wish where
  k : Kd
  ws : List Int
  must : Bool
  needs : Option Pk
def ndE : Option Pk → Val
  | none => .non
  | some p => prE p
def wishE (w : Wish) : Val := .tup [sK w.k, itsE w.ws, .bl w.must, ndE w.needs]
def wishesE (l : List Wish) : Val := .tup (l.map wishE)

/-! ### running programs over the store -/
theorem lcGo_map {α : Type} {mg : MT} {mt : MG Bool} {me : M} {ρ : Env'} {f : α → Val} {p : α → Bool} {g : α → Val} {S : Sto} : ∀ (l : List α),
    (∀ a, a ∈ l → ∃ ρ1, mg (f a) ρ S = some (ρ1, S) ∧ mt ρ1 S = some (p a, S) ∧ (p a = true → me ρ1 S = some (g a, S))) → lcGo mg mt me ρ (l.map f) S = some ((l.filter p).map g, S)
  | [], _ => rfl
  | a :: l, h => by
    obtain ⟨ρ1, h1, h2, h3⟩ := h a List.mem_cons_self
    have ih := lcGo_map (mg := mg) (mt := mt) (me := me) (ρ := ρ) l fun b hb => h b (List.mem_cons_of_mem _ hb)
    simp only [List.map_cons, lcGo, h1, h2, Option.bind_some]
    by_cases e : p a = true
    · rw [if_pos e, h3 e, List.filter_cons_of_pos e]
      simp [ih]
    · rw [if_neg e, List.filter_cons_of_neg e]
      exact ih
@[simp] theorem s_mBody (N : Nat) (ms : MS) (as : List Val) (S : Sto) : mBody N ms as S = (ms (startE N as) S).map fun r => match r with
  | .nx _ S' => (.non, S')
  | .rt v S' => (v, S') := rfl
@[simp] theorem s_startE (N : Nat) (as : List Val) : startE N as = as.map some ++ List.replicate (N - as.length) none := rfl
@[simp] theorem s_mThen (a b : MS) (ρ : Env') (S : Sto) : mThen a b ρ S = (a ρ S).bind fun r => match r with
  | .nx ρ' S' => b ρ' S'
  | .rt v S' => some (.rt v S') := rfl
@[simp] theorem s_mAsg (m : M) (g : MT) (ρ : Env') (S : Sto) : mAsg m g ρ S = (m ρ S).bind fun p => (g p.1 ρ p.2).map fun q => .nx q.1 q.2 := rfl
@[simp] theorem s_mDrop (m : M) (ρ : Env') (S : Sto) : mDrop m ρ S = (m ρ S).map fun p => .nx ρ p.2 := rfl
@[simp] theorem s_mRet (m : M) (ρ : Env') (S : Sto) : mRet m ρ S = (m ρ S).map fun p => .rt p.1 p.2 := rfl
@[simp] theorem s_mIfS (c : MG Bool) (a b : MS) (ρ : Env') (S : Sto) : mIfS c a b ρ S = (c ρ S).bind fun p => if p.1 = true then a ρ p.2 else b ρ p.2 := rfl
@[simp] theorem s_mNext (ρ : Env') (S : Sto) : mNext ρ S = some (.nx ρ S) := rfl
@[simp] theorem s_mVar (i : Nat) (ρ : Env') (S : Sto) : mVar i ρ S = match ρ[i]? with
  | some (some v) => some (v, S)
  | _ => none := rfl
@[simp] theorem s_mC (v : Val) (ρ : Env') (S : Sto) : mC v ρ S = some (v, S) := rfl
@[simp] theorem s_mUn (f : F1) (a : M) (ρ : Env') (S : Sto) : mUn f a ρ S = (a ρ S).bind fun p => f p.2 p.1 := rfl
@[simp] theorem s_mBin (f : F2) (a b : M) (ρ : Env') (S : Sto) : mBin f a b ρ S = (a ρ S).bind fun p => (b ρ p.2).bind fun q => f q.2 p.1 q.1 := rfl
@[simp] theorem s_mNil (ρ : Env') (S : Sto) : mNil ρ S = some ([], S) := rfl
@[simp] theorem s_mCons (a : M) (r : MG (List Val)) (ρ : Env') (S : Sto) : mCons a r ρ S = (a ρ S).bind fun p => (r ρ p.2).bind fun q => some (p.1 :: q.1, q.2) := rfl
@[simp] theorem s_mCall (f : FL) (a : MG (List Val)) (ρ : Env') (S : Sto) : mCall f a ρ S = (a ρ S).bind fun p => f p.2 p.1 := rfl
@[simp] theorem s_mTup (a : MG (List Val)) (ρ : Env') (S : Sto) : mTup a ρ S = (a ρ S).bind fun p => if p.1.length ≤ 1000 then some (.tup p.1, p.2) else none := rfl
@[simp] theorem s_mLst (a : MG (List Val)) (ρ : Env') (S : Sto) : mLst a ρ S = (a ρ S).bind fun p => if p.1.length ≤ 1000 then some (.lst p.1, p.2) else none := rfl
@[simp] theorem s_mLstN (a : MG (List Val)) (ρ : Env') (S : Sto) : mLstN a ρ S = (a ρ S).bind fun p => if p.1.length ≤ 1000 then some (.loc p.2.length, p.2 ++ [.lst p.1]) else none := rfl
@[simp] theorem s_mT (a : M) (ρ : Env') (S : Sto) : mT a ρ S = (a ρ S).bind fun p => match p.1 with
  | .bl b => some (b, p.2)
  | _ => none := rfl
@[simp] theorem s_mAndT (a b : MG Bool) (ρ : Env') (S : Sto) : mAndT a b ρ S = (a ρ S).bind fun p => if p.1 = true then b ρ p.2 else some (false, p.2) := rfl
@[simp] theorem s_mOrT (a b : MG Bool) (ρ : Env') (S : Sto) : mOrT a b ρ S = (a ρ S).bind fun p => if p.1 = true then some (true, p.2) else b ρ p.2 := rfl
@[simp] theorem s_mNotT (a : MG Bool) (ρ : Env') (S : Sto) : mNotT a ρ S = (a ρ S).bind fun p => some (!p.1, p.2) := rfl
@[simp] theorem s_mAndV (a b : M) (ρ : Env') (S : Sto) : mAndV a b ρ S = (a ρ S).bind fun p => match p.1 with
  | .bl true => b ρ p.2
  | .bl false => some (.bl false, p.2)
  | _ => none := rfl
@[simp] theorem s_mOrV (a b : M) (ρ : Env') (S : Sto) : mOrV a b ρ S = (a ρ S).bind fun p => match p.1 with
  | .bl false => b ρ p.2
  | .bl true => some (.bl true, p.2)
  | _ => none := rfl
@[simp] theorem s_mNotV (a : M) (ρ : Env') (S : Sto) : mNotV a ρ S = (a ρ S).bind fun p => match p.1 with
  | .bl c => some (.bl (!c), p.2)
  | _ => none := rfl
@[simp] theorem s_mIf (c : MG Bool) (a b : M) (ρ : Env') (S : Sto) : mIf c a b ρ S = (c ρ S).bind fun p => if p.1 = true then a ρ p.2 else b ρ p.2 := rfl
@[simp] theorem s_mChain (f g : F2) (a b c : M) (ρ : Env') (S : Sto) : mChain f g a b c ρ S = (a ρ S).bind fun p => (b ρ p.2).bind fun q => (f q.2 p.1 q.1).bind fun z => match z.1 with
  | .bl true => (c ρ z.2).bind fun w => g w.2 q.1 w.1
  | .bl false => some (.bl false, z.2)
  | _ => none := rfl
@[simp] theorem s_mName (i : Nat) (v : Val) (ρ : Env') (S : Sto) : mName i v ρ S = some (ρ.set i (some v), S) := rfl
@[simp] theorem s_mTNil (ρ : Env') (S : Sto) : mTNil [] ρ S = some (ρ, S) := rfl
@[simp] theorem s_mTCons (m : MT) (r : MTs) (v : Val) (vs : List Val) (ρ : Env') (S : Sto) : mTCons m r (v :: vs) ρ S = (m v ρ S).bind fun p => r vs p.1 p.2 := rfl
@[simp] theorem s_mTTup (n : Nat) (m : MTs) (vs : List Val) (ρ : Env') (S : Sto) : mTTup n m (.tup vs) ρ S = if vs.length = n then m vs ρ S else none := rfl
@[simp] theorem s_mTLst (n : Nat) (m : MTs) (vs : List Val) (ρ : Env') (S : Sto) : mTLst n m (.lst vs) ρ S = if vs.length = n then m vs ρ S else none := rfl
@[simp] theorem s_mTStar (n i : Nat) (m : MTs) (vs : List Val) (ρ : Env') (S : Sto) : mTStar n i m (.tup vs) ρ S = if n ≤ vs.length + 1 ∧ vs.length ≤ 1000 then m (vs.take i ++ [.lst ((vs.drop i).take (vs.length + 1 - n))] ++ (vs.drop i).drop (vs.length + 1 - n)) ρ S else none := rfl
@[simp] theorem s_mYes (ρ : Env') (S : Sto) : mYes ρ S = some (true, S) := rfl
@[simp] theorem s_wipe0 (ρ : Env') : wipeE ρ [] = ρ := rfl
@[simp] theorem s_wipe1 (ρ : Env') (i : Nat) (vs : List Nat) : wipeE ρ (i :: vs) = (wipeE ρ vs).set i none := rfl
@[simp] theorem s_mLc (mi : MG (List Val)) (mg : MT) (mt : MG Bool) (me : M) (own : List Nat) (ρ : Env') (S : Sto) : mLc mi mg mt me own ρ S = (mi ρ S).bind fun p => if p.1.length ≤ 100000 then (lcGo mg mt me (wipeE ρ own) p.1 p.2).map fun q => (.lst q.1, q.2) else none := rfl
@[simp] theorem s_mCallF (n : Nat) (F : FV) (dv : List Val) (a : MG (List Val)) (ρ : Env') (S : Sto) : mCallF n F dv a ρ S = (a ρ S).bind fun p => if (p.1 ++ dv).length = n then F (p.1 ++ dv) p.2 else none := rfl
@[simp] theorem s_mCallK (n np nk : Nat) (F : FV) (g : List Val → List Val → List Val) (a b : MG (List Val)) (ρ : Env') (S : Sto) : mCallK n np nk F g a b ρ S = (a ρ S).bind fun p => (b ρ p.2).bind fun q => if p.1.length = np ∧ q.1.length = nk ∧ (g p.1 q.1).length = n then F (g p.1 q.1) q.2 else none := rfl
@[simp] theorem s_mSeqT (a : M) (ρ : Env') (S : Sto) : mSeq a ρ S = (a ρ S).bind fun p => match p.1 with
  | .tup xs => some (xs, p.2)
  | .lst xs => some (xs, p.2)
  | _ => none := rfl
@[simp] theorem s_mFor (mi : MG (List Val)) (g : MT) (b : MS) (ρ : Env') (S : Sto) : mFor mi g b ρ S = (mi ρ S).bind fun p => forGo g b p.1 ρ p.2 := rfl
@[simp] theorem s_mZip (sf t1 t2 : Bool) (a : MG (List Val)) (ρ : Env') (S : Sto) : mZip sf t1 t2 a ρ S = (a ρ S).bind fun p => match p.1 with
  | [x, y] => match itOf x, itOf y with
    | some (u1, xs), some (u2, ys) => if u1 = t1 ∧ u2 = t2 ∧ (xs.length = ys.length ∨ (sf = false ∧ ys.length ≤ xs.length)) then some (zipV xs ys, p.2) else none
    | _, _ => none
  | _ => none := rfl
@[simp] theorem s_mMeth (f : Sto → Val → List Val → Option (Val × Sto)) (o : M) (a : MG (List Val)) (ρ : Env') (S : Sto) : mMeth f o a ρ S = (o ρ S).bind fun p => if isL p.2 p.1 = true then (a ρ p.2).bind fun q => f q.2 p.1 q.1 else none := rfl
@[simp] theorem s_mFree (m : M) (ρ : Env') (S : Sto) : mFree m ρ S = (m ρ S).bind fun p => match p.1 with
  | .loc n => match p.2[n]? with
    | some (.lst xs) => some (.lst xs, p.2.set n .dead)
    | _ => none
  | .lst xs => some (.lst xs, p.2)
  | _ => none := rfl
@[simp] theorem s_mPut (o i v : M) (ρ : Env') (S : Sto) : mPut o i v ρ S = (v ρ S).bind fun p => (o ρ p.2).bind fun q => (i ρ q.2).bind fun r => (fPut r.2 q.1 r.1 p.1).map fun S' => .nx ρ S' := rfl
@[simp] theorem s_mUpd (o e : M) (ρ : Env') (S : Sto) : mUpd o e ρ S = (o ρ S).bind fun p => if isDc p.2 p.1 = true then (e ρ p.2).bind fun q => fUpd q.2 p.1 q.1 else none := rfl
@[simp] theorem s_mPairs0 (ρ : Env') (S : Sto) : mPairs [] ρ S = some ([], S) := rfl
@[simp] theorem s_mPairs1 (q : Key × M) (r : List (Key × M)) (ρ : Env') (S : Sto) : mPairs (q :: r) ρ S = (q.2 ρ S).bind fun p => (mPairs r ρ p.2).bind fun t => some ((q.1, p.1) :: t.1, t.2) := rfl
@[simp] theorem s_mDisp (ms : List (Key × M)) (ρ : Env') (S : Sto) : mDisp ms ρ S = (mPairs ms ρ S).bind fun p => if p.1.length ≤ 15 then some (.loc p.2.length, p.2 ++ [.dct (uK [] p.1)]) else none := rfl
/-! ### the store's places -/
@[simp] theorem s_get_mid (S J : Sto) (o : Ob) : (S ++ o :: J)[S.length]? = some o := by simp
@[simp] theorem s_set_mid (S J : Sto) (o o' : Ob) : (S ++ o :: J).set S.length o' = S ++ o' :: J := by simp

/-! ### left_of, plan_of -/
def leftOf (k : Kd) (ws : List Int) (rf : List Pk) : List Int := if (k, -1) ∈ rf then [] else ws.filter fun w => decide ((k, w) ∉ rf)
def planOf (ws : List Wish) (rf : List Pk) : List Pl := ws.map fun w => (w.k, leftOf w.k w.ws rf)
theorem inB_prs (S : Sto) (p : Pk) (l : List Pk) : inB S (prE p) (prsE l) = some (decide (p ∈ l)) := by
  unfold inB prsE
  simp only
  rw [if_pos ⟨(okN_prE p).ok, (okN_prsE l).ok⟩, any_map faith_prE]
  exact congrArg some (decide_eq_decide.mpr Iff.rfl)
theorem left_of_eq (k : Kd) (ws : List Int) (rf : List Pk) (S : Sto) (h : ws.length ≤ 1000) : m_left_of [sK k, itsE ws, prsE rf] S = some (itsE (leftOf k ws rf), S) := by
  have e : ∀ w, Val.tup [sK k, .int w] = prE (k, w) := fun w => rfl
  have hl : ws.length ≤ 100000 := Nat.le_trans h (by decide)
  unfold m_left_of s_left_of leftOf
  simp [fIn, e, inB_prs]
  by_cases hk : (k, -1) ∈ rf
  · simp [hk, itsE]
  · have q := lcGo_map (mg := mName 3) (mt := mT (mBin fNotIn (mTup (mCons (mVar 0) (mCons (mVar 3) mNil))) (mVar 2))) (me := mVar 3) (ρ := [some (sK k), some (itsE ws), some (prsE rf), none]) (f := Val.int) (p := fun w => decide ((k, w) ∉ rf)) (g := Val.int) (S := S) ws
      (fun w _ => ⟨_, rfl, by simp [fNotIn, e, inB_prs], fun _ => by simp⟩)
    simp [hk, itsE] at q ⊢
    simp [hl, q, fTuple, lstOf]
end Cw
end
section
/-! CwP1: plan_of, ask_of. -/
namespace Cw
open PySem PySem.Spec PyProof.Rows L2
def Small (ws : List Wish) : Prop := ws.length ≤ 100 ∧ ∀ w, w ∈ ws → w.ws.length ≤ 100
theorem plan_of_eq (ws : List Wish) (rf : List Pk) (S : Sto) (h : Small ws) : m_plan_of [wishesE ws, prsE rf] S = some (planE (planOf ws rf), S) := by
  have hl : ws.length ≤ 100000 := Nat.le_trans h.1 (by decide)
  unfold m_plan_of s_plan_of planOf
  have q := lcGo_map (mg := (mTTup 4 (mTCons (mName 2) (mTCons (mName 3) (mTCons (mName 4) (mTCons (mName 5) (mTNil))))))) (mt := mYes) (me := (mTup (mCons (mVar 2) (mCons (mCallF 3 m_left_of [] (mCons (mVar 2) (mCons (mVar 3) (mCons (mVar 1) (mNil))))) (mNil)))))
    (ρ := [some (wishesE ws), some (prsE rf), none, none, none, none]) (f := wishE) (p := fun _ => true) (g := fun w => plE (w.k, leftOf w.k w.ws rf)) (S := S) ws
    (fun w hw => ⟨_, rfl, rfl, fun _ => by
      have hs := h.2 w hw
      simp [left_of_eq w.k w.ws rf S (Nat.le_trans hs (by decide)), plE]⟩)
  simp [wishesE] at q ⊢
  rw [List.filter_eq_self.mpr (fun _ _ => rfl)] at q
  simp [hl, q, fTuple, lstOf, planE, Function.comp_def]
def needOk : Option Pk → List Pk → Bool
  | none, _ => true
  | some p, found => decide (p ∈ found)
def askGo : List Wish → List Pl → List Pk → List Pk
  | w :: ws, q :: pl, found => askGo ws pl (match q.2 with
    | [] => found
    | x :: _ => if needOk w.needs found = true then found ++ [(w.k, x)] else found)
  | _, _, found => found
def askOf (ws : List Wish) (pl : List Pl) : List Pk := askGo ws pl []
theorem inB_loc {S : Sto} {n : Nat} {l : List Pk} (p : Pk) (h : S[n]? = some (.lst (l.map prE))) : inB S (prE p) (.loc n) = some (decide (p ∈ l)) := by
  unfold inB
  simp only [h]
  rw [if_pos ⟨(okN_prE p).ok, (okN_mapL okN_prE l).ok⟩, any_map faith_prE]
  exact congrArg some (decide_eq_decide.mpr Iff.rfl)
theorem itsE_nil (l : List Int) : vEq (itsE l) (.tup []) = l.isEmpty := by
  unfold itsE
  rw [tup_nil]
  cases l <;> rfl
theorem atI_zero (x : Val) (xs : List Val) : atI (x :: xs) 0 = some x := atI_nat (xs := x :: xs) (j := 0) rfl
abbrev askBody : MS := (mIfS (mAndT (mT (mBin fNe (mVar 8) (mTup (mNil)))) (mOrT (mT (mBin fIs (mVar 6) (mC .non))) (mT (mBin fIn (mVar 6) (mVar 2))))) (mDrop (mMeth fAppend (mVar 2) (mCons (mTup (mCons (mVar 3) (mCons (mBin fSub (mVar 8) (mC (.int 0))) (mNil)))) (mNil)))) (mNext))
abbrev askTg : MT := (mTTup 2 (mTCons (mTTup 4 (mTCons (mName 3) (mTCons (mName 4) (mTCons (mName 5) (mTCons (mName 6) (mTNil)))))) (mTCons (mTTup 2 (mTCons (mName 7) (mTCons (mName 8) (mTNil)))) (mTNil))))
theorem ask_go (S : Sto) (v0 v1 : Val) : ∀ (ws : List Wish) (pl : List Pl) (found : List Pk) (a b c d e f : Option Val), found.length + ws.length ≤ 1000 →
    ∃ a' b' c' d' e' f', forGo askTg askBody (zipV (ws.map wishE) (pl.map plE)) [some v0, some v1, some (.loc S.length), a, b, c, d, e, f] (S ++ [.lst (found.map prE)]) =
      some (.nx [some v0, some v1, some (.loc S.length), a', b', c', d', e', f'] (S ++ [.lst ((askGo ws pl found).map prE)]))
  | [], pl, found, a, b, c, d, e, f, h => ⟨a, b, c, d, e, f, by simp [zipV, forGo, askGo]⟩
  | w :: ws, [], found, a, b, c, d, e, f, h => ⟨a, b, c, d, e, f, by simp [zipV, forGo, askGo]⟩
  | w :: ws, (k, l) :: pl, found, a, b, c, d, e, f, h => by
    have h1 : found.length + ws.length ≤ 1000 := by simp at h; omega
    have h2 : (found.map prE).length < 100000 := by simp at h ⊢; omega
    have hok : okV (dr (S ++ [.lst (found.map prE)]) (itsE l)) = true := (okN_itsE l).ok
    have hok2 : okV (.tup []) = true := by decide
    have mid : (S ++ [Ob.lst (found.map prE)])[S.length]? = some (.lst (found.map prE)) := s_get_mid S [] _
    cases l with
    | nil =>
      obtain ⟨a', b', c', d', e', f', ih⟩ := ask_go S v0 v1 ws pl found (some (sK w.k)) (some (itsE w.ws)) (some (.bl w.must)) (some (ndE w.needs)) (some (sK k)) (some (itsE [])) h1
      refine ⟨a', b', c', d', e', f', ?_⟩
      have ea : askGo (w :: ws) ((k, []) :: pl) found = askGo ws pl found := rfl
      rw [ea, ← ih]
      simp [zipV, forGo, wishE, plE, fNe, dr, itsE_nil, hok2, itsE] at hok ⊢
      simp [tup_nil]
    | cons x l =>
      have hx : atI ((x :: l).map Val.int) 0 = some (.int x) := atI_zero _ _
      have hn0 : ∀ v, isNon (prE v) = false := fun _ => rfl
      cases hn : needOk w.needs found with
      | true =>
        obtain ⟨a', b', c', d', e', f', ih⟩ := ask_go S v0 v1 ws pl (found ++ [(w.k, x)]) (some (sK w.k)) (some (itsE w.ws)) (some (.bl w.must)) (some (ndE w.needs)) (some (sK k)) (some (itsE (x :: l))) (by simp at h ⊢; omega)
        refine ⟨a', b', c', d', e', f', ?_⟩
        have ea : askGo (w :: ws) ((k, x :: l) :: pl) found = askGo ws pl (found ++ [(w.k, x)]) := by simp only [askGo, hn, if_true]
        rw [ea, ← ih]
        cases hw : w.needs with
        | none =>
          simp [zipV, forGo, wishE, plE, fNe, dr, hok, hok2, itsE_nil, fIs, hw, ndE, isNon, isL, lstOf, fSub, fIxSeq, seqOf, itsE, fAppend] at hok hx h2 ⊢
          simp [hok, hok2, tup_nil, hx, h2, prE]
        | some p =>
          have hp : p ∈ found := by rw [hw] at hn; simpa [needOk] using hn
          have hi := inB_loc p mid
          rw [decide_eq_true hp] at hi
          simp [zipV, forGo, wishE, plE, fNe, dr, hok, hok2, itsE_nil, fIs, hw, ndE, isL, lstOf, fSub, fIxSeq, seqOf, itsE, fAppend, fIn, hn0] at hok hx h2 hi ⊢
          simp [hok, hok2, tup_nil, hx, h2, hi]
          simp [prE]
      | false =>
        obtain ⟨a', b', c', d', e', f', ih⟩ := ask_go S v0 v1 ws pl found (some (sK w.k)) (some (itsE w.ws)) (some (.bl w.must)) (some (ndE w.needs)) (some (sK k)) (some (itsE (x :: l))) h1
        refine ⟨a', b', c', d', e', f', ?_⟩
        have ea : askGo (w :: ws) ((k, x :: l) :: pl) found = askGo ws pl found := by simp [askGo, hn]
        rw [ea, ← ih]
        cases hw : w.needs with
        | none => rw [hw] at hn; cases hn
        | some p =>
          have hp : ¬ p ∈ found := by rw [hw] at hn; simpa [needOk] using hn
          have hi := inB_loc p mid
          rw [decide_eq_false hp] at hi
          simp [zipV, forGo, wishE, plE, fNe, dr, hok, hok2, itsE_nil, fIs, hw, ndE, itsE, fIn, hn0] at hok hi ⊢
          simp [hok, hok2, tup_nil, hi]
theorem ask_of_eq (ws : List Wish) (pl : List Pl) (S : Sto) (h : Small ws) (hl : pl.length = ws.length) : m_ask_of [wishesE ws, planE pl] S = some (prsE (askOf ws pl), S ++ [.lst ((askOf ws pl).map prE)]) := by
  have h1 := h.1
  obtain ⟨a', b', c', d', e', f', q⟩ := ask_go S (wishesE ws) (planE pl) ws pl [] none none none none none none (by simp; omega)
  unfold m_ask_of s_ask_of
  simp [wishesE, planE, itOf, hl] at q ⊢
  simp [q, fTuple, lstOf, prsE, askOf]
end Cw
end
section
/-! CwP2: an end's dictionary, field by field (printed by genp2.py). -/
namespace Cw
open PySem PySem.Spec PyProof.Rows L2

@[simp] theorem ofS_inj (a b : String) : Str.ofString a = Str.ofString b ↔ a = b := by
  refine ⟨fun h => ?_, fun h => by rw [h]⟩
  rw [Str.ofString_eq_toList, Str.ofString_eq_toList] at h
  injection h with h
  have h2 : a.toList.map Char.toNat = b.toList.map Char.toNat := by simpa using h
  have h3 : a.toList = b.toList := (List.map_inj_right fun x y e => Char.ext (UInt32.toNat_inj.mp e)).mp h2
  exact String.toList_inj.mp h3
def kdV (a0 a1 a2 a3 a4 a5 a6 a7 a8 a9 a10 a11 a12 a13 a14 : Val) : List (Key × Val) := [(.inr "name", a0), (.inr "wishes", a1), (.inr "stand", a2), (.inr "turn", a3), (.inr "yours", a4), (.inr "number", a5), (.inr "plan", a6), (.inr "refused", a7), (.inr "given", a8), (.inr "heard", a9), (.inr "took", a10), (.inr "last", a11), (.inr "tries", a12), (.inr "echoes", a13), (.inr "why", a14)]
section
variable (a0 a1 a2 a3 a4 a5 a6 a7 a8 a9 a10 a11 a12 a13 a14 v : Val)
@[simp] theorem g_name : gK (kdV a0 a1 a2 a3 a4 a5 a6 a7 a8 a9 a10 a11 a12 a13 a14) (.inr "name") = some a0 := by simp [gK, kdV]
@[simp] theorem g_wishes : gK (kdV a0 a1 a2 a3 a4 a5 a6 a7 a8 a9 a10 a11 a12 a13 a14) (.inr "wishes") = some a1 := by simp [gK, kdV]
@[simp] theorem g_stand : gK (kdV a0 a1 a2 a3 a4 a5 a6 a7 a8 a9 a10 a11 a12 a13 a14) (.inr "stand") = some a2 := by simp [gK, kdV]
@[simp] theorem g_turn : gK (kdV a0 a1 a2 a3 a4 a5 a6 a7 a8 a9 a10 a11 a12 a13 a14) (.inr "turn") = some a3 := by simp [gK, kdV]
@[simp] theorem g_yours : gK (kdV a0 a1 a2 a3 a4 a5 a6 a7 a8 a9 a10 a11 a12 a13 a14) (.inr "yours") = some a4 := by simp [gK, kdV]
@[simp] theorem g_number : gK (kdV a0 a1 a2 a3 a4 a5 a6 a7 a8 a9 a10 a11 a12 a13 a14) (.inr "number") = some a5 := by simp [gK, kdV]
@[simp] theorem g_plan : gK (kdV a0 a1 a2 a3 a4 a5 a6 a7 a8 a9 a10 a11 a12 a13 a14) (.inr "plan") = some a6 := by simp [gK, kdV]
@[simp] theorem g_refused : gK (kdV a0 a1 a2 a3 a4 a5 a6 a7 a8 a9 a10 a11 a12 a13 a14) (.inr "refused") = some a7 := by simp [gK, kdV]
@[simp] theorem g_given : gK (kdV a0 a1 a2 a3 a4 a5 a6 a7 a8 a9 a10 a11 a12 a13 a14) (.inr "given") = some a8 := by simp [gK, kdV]
@[simp] theorem g_heard : gK (kdV a0 a1 a2 a3 a4 a5 a6 a7 a8 a9 a10 a11 a12 a13 a14) (.inr "heard") = some a9 := by simp [gK, kdV]
@[simp] theorem g_took : gK (kdV a0 a1 a2 a3 a4 a5 a6 a7 a8 a9 a10 a11 a12 a13 a14) (.inr "took") = some a10 := by simp [gK, kdV]
@[simp] theorem g_last : gK (kdV a0 a1 a2 a3 a4 a5 a6 a7 a8 a9 a10 a11 a12 a13 a14) (.inr "last") = some a11 := by simp [gK, kdV]
@[simp] theorem g_tries : gK (kdV a0 a1 a2 a3 a4 a5 a6 a7 a8 a9 a10 a11 a12 a13 a14) (.inr "tries") = some a12 := by simp [gK, kdV]
@[simp] theorem g_echoes : gK (kdV a0 a1 a2 a3 a4 a5 a6 a7 a8 a9 a10 a11 a12 a13 a14) (.inr "echoes") = some a13 := by simp [gK, kdV]
@[simp] theorem g_why : gK (kdV a0 a1 a2 a3 a4 a5 a6 a7 a8 a9 a10 a11 a12 a13 a14) (.inr "why") = some a14 := by simp [gK, kdV]
@[simp] theorem p_name : pK (kdV a0 a1 a2 a3 a4 a5 a6 a7 a8 a9 a10 a11 a12 a13 a14) (.inr "name") v = kdV v a1 a2 a3 a4 a5 a6 a7 a8 a9 a10 a11 a12 a13 a14 := by simp [pK, kdV]
@[simp] theorem p_wishes : pK (kdV a0 a1 a2 a3 a4 a5 a6 a7 a8 a9 a10 a11 a12 a13 a14) (.inr "wishes") v = kdV a0 v a2 a3 a4 a5 a6 a7 a8 a9 a10 a11 a12 a13 a14 := by simp [pK, kdV]
@[simp] theorem p_stand : pK (kdV a0 a1 a2 a3 a4 a5 a6 a7 a8 a9 a10 a11 a12 a13 a14) (.inr "stand") v = kdV a0 a1 v a3 a4 a5 a6 a7 a8 a9 a10 a11 a12 a13 a14 := by simp [pK, kdV]
@[simp] theorem p_turn : pK (kdV a0 a1 a2 a3 a4 a5 a6 a7 a8 a9 a10 a11 a12 a13 a14) (.inr "turn") v = kdV a0 a1 a2 v a4 a5 a6 a7 a8 a9 a10 a11 a12 a13 a14 := by simp [pK, kdV]
@[simp] theorem p_yours : pK (kdV a0 a1 a2 a3 a4 a5 a6 a7 a8 a9 a10 a11 a12 a13 a14) (.inr "yours") v = kdV a0 a1 a2 a3 v a5 a6 a7 a8 a9 a10 a11 a12 a13 a14 := by simp [pK, kdV]
@[simp] theorem p_number : pK (kdV a0 a1 a2 a3 a4 a5 a6 a7 a8 a9 a10 a11 a12 a13 a14) (.inr "number") v = kdV a0 a1 a2 a3 a4 v a6 a7 a8 a9 a10 a11 a12 a13 a14 := by simp [pK, kdV]
@[simp] theorem p_plan : pK (kdV a0 a1 a2 a3 a4 a5 a6 a7 a8 a9 a10 a11 a12 a13 a14) (.inr "plan") v = kdV a0 a1 a2 a3 a4 a5 v a7 a8 a9 a10 a11 a12 a13 a14 := by simp [pK, kdV]
@[simp] theorem p_refused : pK (kdV a0 a1 a2 a3 a4 a5 a6 a7 a8 a9 a10 a11 a12 a13 a14) (.inr "refused") v = kdV a0 a1 a2 a3 a4 a5 a6 v a8 a9 a10 a11 a12 a13 a14 := by simp [pK, kdV]
@[simp] theorem p_given : pK (kdV a0 a1 a2 a3 a4 a5 a6 a7 a8 a9 a10 a11 a12 a13 a14) (.inr "given") v = kdV a0 a1 a2 a3 a4 a5 a6 a7 v a9 a10 a11 a12 a13 a14 := by simp [pK, kdV]
@[simp] theorem p_heard : pK (kdV a0 a1 a2 a3 a4 a5 a6 a7 a8 a9 a10 a11 a12 a13 a14) (.inr "heard") v = kdV a0 a1 a2 a3 a4 a5 a6 a7 a8 v a10 a11 a12 a13 a14 := by simp [pK, kdV]
@[simp] theorem p_took : pK (kdV a0 a1 a2 a3 a4 a5 a6 a7 a8 a9 a10 a11 a12 a13 a14) (.inr "took") v = kdV a0 a1 a2 a3 a4 a5 a6 a7 a8 a9 v a11 a12 a13 a14 := by simp [pK, kdV]
@[simp] theorem p_last : pK (kdV a0 a1 a2 a3 a4 a5 a6 a7 a8 a9 a10 a11 a12 a13 a14) (.inr "last") v = kdV a0 a1 a2 a3 a4 a5 a6 a7 a8 a9 a10 v a12 a13 a14 := by simp [pK, kdV]
@[simp] theorem p_tries : pK (kdV a0 a1 a2 a3 a4 a5 a6 a7 a8 a9 a10 a11 a12 a13 a14) (.inr "tries") v = kdV a0 a1 a2 a3 a4 a5 a6 a7 a8 a9 a10 a11 v a13 a14 := by simp [pK, kdV]
@[simp] theorem p_echoes : pK (kdV a0 a1 a2 a3 a4 a5 a6 a7 a8 a9 a10 a11 a12 a13 a14) (.inr "echoes") v = kdV a0 a1 a2 a3 a4 a5 a6 a7 a8 a9 a10 a11 a12 v a14 := by simp [pK, kdV]
@[simp] theorem p_why : pK (kdV a0 a1 a2 a3 a4 a5 a6 a7 a8 a9 a10 a11 a12 a13 a14) (.inr "why") v = kdV a0 a1 a2 a3 a4 a5 a6 a7 a8 a9 a10 a11 a12 a13 v := by simp [pK, kdV]
@[simp] theorem kdV_len : (kdV a0 a1 a2 a3 a4 a5 a6 a7 a8 a9 a10 a11 a12 a13 a14).length = 15 := rfl
@[simp] theorem u_rest : uK (kdV a0 a1 a2 a3 a4 a5 a6 a7 a8 a9 a10 a11 a12 a13 a14) restK = kdV a0 a1 (.str "closed") a3 a4 (.int 0) (.tup []) (.tup []) .non (.int 0) .non .non (.int 0) a13 a14 := by simp [uK, restK]
theorem zip_parts : zipK partsV [a0, a1, a2, a3, a4, a5, a6, a7, a8, a9, a10, a11, a12, a13, a14] = some (kdV a0 a1 a2 a3 a4 a5 a6 a7 a8 a9 a10 a11 a12 a13 a14) := by simp [partsV, zipK, keyOf, kdV]
theorem u_parts : uK [] (kdV a0 a1 a2 a3 a4 a5 a6 a7 a8 a9 a10 a11 a12 a13 a14) = kdV a0 a1 a2 a3 a4 a5 a6 a7 a8 a9 a10 a11 a12 a13 a14 := by simp [uK, pK, kdV]
theorem known_of_V (S : Sto) : m_known_of [.tup [a0, a1, a2, a3, a4, a5, a6, a7, a8, a9, a10, a11, a12, a13, a14]] S = some (.loc S.length, S ++ [.dct (kdV a0 a1 a2 a3 a4 a5 a6 a7 a8 a9 a10 a11 a12 a13 a14)]) := by
  unfold m_known_of s_known_of
  simp [fDictZip, zip_parts, u_parts]
  decide
end
@[simp] theorem so_0 : PyData.strOk "name" = true := by decide +kernel
@[simp] theorem so_1 : PyData.strOk "wishes" = true := by decide +kernel
@[simp] theorem so_2 : PyData.strOk "stand" = true := by decide +kernel
@[simp] theorem so_3 : PyData.strOk "turn" = true := by decide +kernel
@[simp] theorem so_4 : PyData.strOk "yours" = true := by decide +kernel
@[simp] theorem so_5 : PyData.strOk "number" = true := by decide +kernel
@[simp] theorem so_6 : PyData.strOk "plan" = true := by decide +kernel
@[simp] theorem so_7 : PyData.strOk "refused" = true := by decide +kernel
@[simp] theorem so_8 : PyData.strOk "given" = true := by decide +kernel
@[simp] theorem so_9 : PyData.strOk "heard" = true := by decide +kernel
@[simp] theorem so_10 : PyData.strOk "took" = true := by decide +kernel
@[simp] theorem so_11 : PyData.strOk "last" = true := by decide +kernel
@[simp] theorem so_12 : PyData.strOk "tries" = true := by decide +kernel
@[simp] theorem so_13 : PyData.strOk "echoes" = true := by decide +kernel
@[simp] theorem so_14 : PyData.strOk "why" = true := by decide +kernel
@[simp] theorem so_15 : PyData.strOk "closed" = true := by decide +kernel
@[simp] theorem so_16 : PyData.strOk "open" = true := by decide +kernel
@[simp] theorem so_17 : PyData.strOk "asking" = true := by decide +kernel
@[simp] theorem so_18 : PyData.strOk "new" = true := by decide +kernel
@[simp] theorem so_19 : PyData.strOk "" = true := by decide +kernel
@[simp] theorem so_20 : PyData.strOk "failed" = true := by decide +kernel
@[simp] theorem so_21 : PyData.strOk "bye" = true := by decide +kernel
@[simp] theorem so_22 : PyData.strOk "echo" = true := by decide +kernel
@[simp] theorem so_23 : PyData.strOk "ask" = true := by decide +kernel
@[simp] theorem so_24 : PyData.strOk "here" = true := by decide +kernel
@[simp] theorem so_25 : PyData.strOk "there" = true := by decide +kernel
@[simp] theorem so_26 : PyData.strOk "yes" = true := by decide +kernel
@[simp] theorem so_27 : PyData.strOk "no" = true := by decide +kernel
@[simp] theorem so_28 : PyData.strOk "rather" = true := by decide +kernel
@[simp] theorem so_29 : PyData.strOk "agreed" = true := by decide +kernel
@[simp] theorem dr_str (S : Sto) (x : Str) : dr S (.str x) = .str x := rfl
@[simp] theorem dr_int (S : Sto) (x : Int) : dr S (.int x) = .int x := rfl
@[simp] theorem dr_tup (S : Sto) (x : List Val) : dr S (.tup x) = .tup x := rfl
@[simp] theorem dr_lst (S : Sto) (x : List Val) : dr S (.lst x) = .lst x := rfl
@[simp] theorem dr_sK (S : Sto) (x : Kd) : dr S (sK x) = sK x := rfl
@[simp] theorem dr_prE (S : Sto) (x : Pk) : dr S (prE x) = prE x := rfl
@[simp] theorem dr_prsE (S : Sto) (x : List Pk) : dr S (prsE x) = prsE x := rfl
@[simp] theorem dr_itsE (S : Sto) (x : List Int) : dr S (itsE x) = itsE x := rfl
@[simp] theorem fEq_str (S : Sto) (x y : Str) (h : PyData.strOk x = true) (g : PyData.strOk y = true) : fEq S (.str x) (.str y) = some (.bl (decide (x = y)), S) := by
  unfold fEq
  rw [if_pos ⟨(okN_str h).ok, (okN_str g).ok⟩]
  simp [faith_str x y]
@[simp] theorem fNe_str (S : Sto) (x y : Str) (h : PyData.strOk x = true) (g : PyData.strOk y = true) : fNe S (.str x) (.str y) = some (.bl (!decide (x = y)), S) := by
  unfold fNe
  rw [if_pos ⟨(okN_str h).ok, (okN_str g).ok⟩]
  simp [faith_str x y]
@[simp] theorem fEq_int (S : Sto) (x y : Int) : fEq S (.int x) (.int y) = some (.bl (decide (x = y)), S) := by
  unfold fEq
  rw [if_pos ⟨(okN_int x).ok, (okN_int y).ok⟩]
  simp [faith_int x y]
@[simp] theorem fNe_int (S : Sto) (x y : Int) : fNe S (.int x) (.int y) = some (.bl (!decide (x = y)), S) := by
  unfold fNe
  rw [if_pos ⟨(okN_int x).ok, (okN_int y).ok⟩]
  simp [faith_int x y]
@[simp] theorem fEq_sK (S : Sto) (x y : Kd) : fEq S (sK x) (sK y) = some (.bl (decide (x = y)), S) := by
  unfold fEq
  rw [dr_sK, dr_sK, if_pos ⟨(okN_sK x).ok, (okN_sK y).ok⟩, faith_sK]
@[simp] theorem fNe_sK (S : Sto) (x y : Kd) : fNe S (sK x) (sK y) = some (.bl (!decide (x = y)), S) := by
  unfold fNe
  rw [dr_sK, dr_sK, if_pos ⟨(okN_sK x).ok, (okN_sK y).ok⟩, faith_sK]
@[simp] theorem fEq_prs (S : Sto) (x y : List Pk) : fEq S (prsE x) (prsE y) = some (.bl (decide (x = y)), S) := by
  unfold fEq
  rw [dr_prsE, dr_prsE, if_pos ⟨(okN_prsE x).ok, (okN_prsE y).ok⟩]
  have e : vEq (prsE x) (prsE y) = decide (x = y) := faith_prsE x y
  rw [e]
@[simp] theorem fNe_prs (S : Sto) (x y : List Pk) : fNe S (prsE x) (prsE y) = some (.bl (!decide (x = y)), S) := by
  unfold fNe
  rw [dr_prsE, dr_prsE, if_pos ⟨(okN_prsE x).ok, (okN_prsE y).ok⟩]
  have e : vEq (prsE x) (prsE y) = decide (x = y) := faith_prsE x y
  rw [e]
/-! ### letters and ends -/
inductive Wd where
  | ask | bye | here | there | yes | no | rather
deriving DecidableEq
def wS : Wd → Str
  | .ask => "ask" | .bye => "bye" | .here => "here" | .there => "there" | .yes => "yes" | .no => "no" | .rather => "rather"
@[simp] theorem wS_ok (w : Wd) : PyData.strOk (wS w) = true := by cases w <;> exact (by decide +kernel)
inductive Sd where
  | closed | asking | opn
deriving DecidableEq
def sdS : Sd → Str
  | .closed => "closed" | .asking => "asking" | .opn => "open"
@[simp] theorem sdS_ok (w : Sd) : PyData.strOk (sdS w) = true := by cases w <;> exact (by decide +kernel)
inductive Wy where
  | new | blank | closed | tries | failed | bye | echo
deriving DecidableEq
def wyS : Wy → Str
  | .new => "new" | .blank => "" | .closed => "closed" | .tries => "tries" | .failed => "failed" | .bye => "bye" | .echo => "echo"
@[simp] theorem wyS_ok (w : Wy) : PyData.strOk (wyS w) = true := by cases w <;> exact (by decide +kernel)
structure Lt where
  who : Kd
  w : Wd
  mine : Int
  yours : Int
  number : Int
  pairs : List Pk
deriving DecidableEq
def ltE (l : Lt) : Val := .tup [sK l.who, .str (wS l.w), .int l.mine, .int l.yours, .int l.number, prsE l.pairs]
def opE {α : Type} (f : α → Val) : Option α → Val
  | none => .non
  | some a => f a
structure En where
  name : Kd
  wishes : List Wish
  stand : Sd
  turn : Int
  yours : Int
  number : Int
  plan : List Pl
  refused : List Pk
  given : Option (List Pk)
  heard : Int
  took : Option (List Pk)
  last : Option Lt
  tries : Int
  echoes : Int
  why : Wy
def enE (e : En) : Val := .tup [sK e.name, wishesE e.wishes, .str (sdS e.stand), .int e.turn, .int e.yours, .int e.number, planE e.plan, prsE e.refused, opE prsE e.given, .int e.heard, opE prsE e.took, opE ltE e.last, .int e.tries, .int e.echoes, .str (wyS e.why)]
def kd (e : En) : List (Key × Val) := kdV (sK e.name) (wishesE e.wishes) (.str (sdS e.stand)) (.int e.turn) (.int e.yours) (.int e.number) (planE e.plan) (prsE e.refused) (opE prsE e.given) (.int e.heard) (opE prsE e.took) (opE ltE e.last) (.int e.tries) (.int e.echoes) (.str (wyS e.why))
@[simp] theorem isNon_op {α : Type} {f : α → Val} (h : ∀ a, isNon (f a) = false) (o : Option α) : isNon (opE f o) = o.isNone := by
  cases o
  · rfl
  · exact h _
@[simp] theorem isNon_prs (o : Option (List Pk)) : isNon (opE prsE o) = o.isNone := isNon_op (fun _ => rfl) o
theorem known_of_eq (e : En) (S : Sto) : m_known_of [enE e] S = some (.loc S.length, S ++ [.dct (kd e)]) := known_of_V ..
def settled (e : En) : En := if e.stand = .closed then e else { e with stand := if e.given.isSome = true ∧ e.took.isSome = true then .opn else .asking }
theorem parts_run (S : Sto) (n : Nat) (st now : Val) (a0 a1 a2 a3 a4 a5 a6 a7 a8 a9 a10 a11 a12 a13 a14 : Val) (h : S[n]? = some (.dct (kdV a0 a1 a2 a3 a4 a5 a6 a7 a8 a9 a10 a11 a12 a13 a14))) :
    lcGo (mName 3) mYes (mIf (mT (mBin fEq (mVar 3) (mC (.str "stand")))) (mVar 2) (mBin fSub (mVar 0) (mVar 3))) [some (.loc n), some st, some now, none] partsV S = some ([a0, a1, now, a3, a4, a5, a6, a7, a8, a9, a10, a11, a12, a13, a14], S) := by
  have q := lcGo_map (mg := mName 3) (mt := mYes) (me := mIf (mT (mBin fEq (mVar 3) (mC (.str "stand")))) (mVar 2) (mBin fSub (mVar 0) (mVar 3))) (ρ := [some (.loc n), some st, some now, none])
    (f := fun p : Str × Val => .str p.1) (p := fun _ => true) (g := fun p => p.2) (S := S) [("name", a0), ("wishes", a1), ("stand", now), ("turn", a3), ("yours", a4), ("number", a5), ("plan", a6), ("refused", a7), ("given", a8), ("heard", a9), ("took", a10), ("last", a11), ("tries", a12), ("echoes", a13), ("why", a14)] (fun a ha => ⟨_, rfl, rfl, fun _ => by
      simp only [List.mem_cons, List.not_mem_nil, or_false] at ha
      rcases ha with rfl | rfl | rfl | rfl | rfl | rfl | rfl | rfl | rfl | rfl | rfl | rfl | rfl | rfl | rfl <;> simp [fSub, h, keyOf]⟩)
  simpa [partsV] using q
theorem as_end_eq (e : En) (S : Sto) (n : Nat) (h : S[n]? = some (.dct (kd e))) : m_as_end [.loc n] S = some (enE (settled e), S) := by
  have h2 : S[n]? = some (.dct (kdV _ _ _ _ _ _ _ _ _ _ _ _ _ _ _)) := h
  have q := fun st now => parts_run S n st now _ _ _ _ _ _ _ _ _ _ _ _ _ _ _ h
  have e1 : partsV.length = 15 := rfl
  unfold m_as_end s_as_end settled
  cases hs : e.stand <;> cases hg : e.given <;> cases ht : e.took <;> simp [fSub, h2, keyOf, fIsNot, fTuple, lstOf, hs, hg, ht, q, e1, enE, sdS]
@[simp] theorem get_app (S l : Sto) (k : Nat) : (S ++ l)[S.length + k]? = l[k]? := by
  rw [List.getElem?_append_right (by omega)]
  congr 1
  omega
@[simp] theorem set_app (S l : Sto) (k : Nat) (o : Ob) : (S ++ l).set (S.length + k) o = S ++ l.set k o := by
  rw [List.set_append_right _ _ (by omega)]
  congr 2
  omega
end Cw
end
section
/-! CwP3: letters written, an end opened, closed, ticked. -/
namespace Cw
open PySem PySem.Spec PyProof.Rows L2
@[simp] theorem uK_nil (kvs : List (Key × Val)) : uK kvs [] = kvs := rfl
@[simp] theorem uK_cons (kvs : List (Key × Val)) (k : Key) (v : Val) (m : List (Key × Val)) : uK kvs ((k, v) :: m) = uK (pK kvs k v) m := rfl
@[simp] theorem pK_nil (k : Key) (v : Val) : pK ([] : List (Key × Val)) k v = [(k, v)] := rfl
@[simp] theorem pK_ne (k k' : Key) (v v' : Val) (r : List (Key × Val)) (h : ¬ k = k') : pK ((k, v) :: r) k' v' = (k, v) :: pK r k' v' := by
  unfold pK
  simp only [List.any_cons, h, decide_false, Bool.false_or, List.map_cons, if_false]
  split <;> rfl
@[simp] theorem r_add (S : Sto) (i j : Int) : fAddI S (.int i) (.int j) = some (.int (i + j), S) := by simp [fAddI, fI, yes2]
@[simp] theorem r_sub (S : Sto) (i j : Int) : fSubI S (.int i) (.int j) = some (.int (i - j), S) := by simp [fSubI, fI, yes2]
@[simp] theorem r_lt (S : Sto) (i j : Int) : fLt S (.int i) (.int j) = some (.bl (decide (i < j)), S) := by simp [fLt, fI, yes2]
@[simp] theorem r_le (S : Sto) (i j : Int) : fLe S (.int i) (.int j) = some (.bl (decide (i ≤ j)), S) := by simp [fLe, fI, yes2]
@[simp] theorem r_gt (S : Sto) (i j : Int) : fGt S (.int i) (.int j) = some (.bl (decide (j < i)), S) := by simp [fGt, fI, yes2]
@[simp] theorem r_ge (S : Sto) (i j : Int) : fGe S (.int i) (.int j) = some (.bl (decide (j ≤ i)), S) := by simp [fGe, fI, yes2]
@[simp] theorem gk_name (e : En) : gK (kd e) (.inr "name") = some (sK e.name) := g_name ..
@[simp] theorem gk_wishes (e : En) : gK (kd e) (.inr "wishes") = some (wishesE e.wishes) := g_wishes ..
@[simp] theorem pk_wishes (e : En) (x : List Wish) : pK (kd e) (.inr "wishes") (wishesE x) = kd { e with wishes := x } := p_wishes ..
@[simp] theorem gk_stand (e : En) : gK (kd e) (.inr "stand") = some (.str (sdS e.stand)) := g_stand ..
@[simp] theorem pk_stand (e : En) (x : Sd) : pK (kd e) (.inr "stand") (.str (sdS x)) = kd { e with stand := x } := p_stand ..
@[simp] theorem gk_turn (e : En) : gK (kd e) (.inr "turn") = some (.int e.turn) := g_turn ..
@[simp] theorem pk_turn (e : En) (x : Int) : pK (kd e) (.inr "turn") (.int x) = kd { e with turn := x } := p_turn ..
@[simp] theorem gk_yours (e : En) : gK (kd e) (.inr "yours") = some (.int e.yours) := g_yours ..
@[simp] theorem pk_yours (e : En) (x : Int) : pK (kd e) (.inr "yours") (.int x) = kd { e with yours := x } := p_yours ..
@[simp] theorem gk_number (e : En) : gK (kd e) (.inr "number") = some (.int e.number) := g_number ..
@[simp] theorem pk_number (e : En) (x : Int) : pK (kd e) (.inr "number") (.int x) = kd { e with number := x } := p_number ..
@[simp] theorem gk_plan (e : En) : gK (kd e) (.inr "plan") = some (planE e.plan) := g_plan ..
@[simp] theorem pk_plan (e : En) (x : List Pl) : pK (kd e) (.inr "plan") (planE x) = kd { e with plan := x } := p_plan ..
@[simp] theorem gk_refused (e : En) : gK (kd e) (.inr "refused") = some (prsE e.refused) := g_refused ..
@[simp] theorem pk_refused (e : En) (x : List Pk) : pK (kd e) (.inr "refused") (prsE x) = kd { e with refused := x } := p_refused ..
@[simp] theorem gk_given (e : En) : gK (kd e) (.inr "given") = some (opE prsE e.given) := g_given ..
@[simp] theorem pk_given0 (e : En) : pK (kd e) (.inr "given") .non = kd { e with given := none } := p_given ..
@[simp] theorem pk_given1 (e : En) (x : List Pk) : pK (kd e) (.inr "given") (prsE x) = kd { e with given := some x } := p_given ..
@[simp] theorem gk_heard (e : En) : gK (kd e) (.inr "heard") = some (.int e.heard) := g_heard ..
@[simp] theorem pk_heard (e : En) (x : Int) : pK (kd e) (.inr "heard") (.int x) = kd { e with heard := x } := p_heard ..
@[simp] theorem gk_took (e : En) : gK (kd e) (.inr "took") = some (opE prsE e.took) := g_took ..
@[simp] theorem pk_took0 (e : En) : pK (kd e) (.inr "took") .non = kd { e with took := none } := p_took ..
@[simp] theorem pk_took1 (e : En) (x : List Pk) : pK (kd e) (.inr "took") (prsE x) = kd { e with took := some x } := p_took ..
@[simp] theorem gk_last (e : En) : gK (kd e) (.inr "last") = some (opE ltE e.last) := g_last ..
@[simp] theorem pk_last1 (e : En) (x : Lt) : pK (kd e) (.inr "last") (ltE x) = kd { e with last := some x } := p_last ..
@[simp] theorem gk_tries (e : En) : gK (kd e) (.inr "tries") = some (.int e.tries) := g_tries ..
@[simp] theorem pk_tries (e : En) (x : Int) : pK (kd e) (.inr "tries") (.int x) = kd { e with tries := x } := p_tries ..
@[simp] theorem gk_echoes (e : En) : gK (kd e) (.inr "echoes") = some (.int e.echoes) := g_echoes ..
@[simp] theorem pk_echoes (e : En) (x : Int) : pK (kd e) (.inr "echoes") (.int x) = kd { e with echoes := x } := p_echoes ..
@[simp] theorem gk_why (e : En) : gK (kd e) (.inr "why") = some (.str (wyS e.why)) := g_why ..
@[simp] theorem pk_why (e : En) (x : Wy) : pK (kd e) (.inr "why") (.str (wyS x)) = kd { e with why := x } := p_why ..
@[simp] theorem pk_asking (e : En) : pK (kd e) (.inr "stand") (.str "asking") = kd { e with stand := .asking } := p_stand ..
@[simp] theorem pk_blank (e : En) : pK (kd e) (.inr "why") (.str "") = kd { e with why := .blank } := p_why ..
@[simp] theorem kd_len (e : En) : (kd e).length = 15 := rfl
@[simp] theorem uk_rest (e : En) : uK (kd e) restK = kd { e with stand := .closed, number := 0, plan := [], refused := [], given := none, heard := 0, took := none, last := none, tries := 0 } := u_rest ..
@[simp] theorem isNon_prsE (l : List Pk) : isNon (prsE l) = false := rfl
@[simp] theorem isNon_ltE (l : Lt) : isNon (ltE l) = false := rfl
@[simp] theorem isNon_non : isNon .non = true := rfl
theorem placed {S : Sto} {n : Nat} {o : Ob} (h : S[n]? = some o) : (∀ l, (S ++ l)[n]? = some o) ∧ (∀ o' l, (S.set n o' ++ l)[n]? = some o') ∧ (∀ l o', (S ++ l).set n o' = S.set n o' ++ l) ∧
    (∀ o' l o'', (S.set n o' ++ l).set n o'' = S.set n o'' ++ l) ∧ (∀ o', (S.set n o')[n]? = some o') ∧ (∀ k, n ≠ S.length + k) ∧ n ≠ S.length := by
  have hn : n < S.length := (List.getElem?_eq_some_iff.mp h).1
  refine ⟨fun l => ?_, fun o' l => ?_, fun l o' => ?_, fun o' l o'' => ?_, fun o' => ?_, fun k => by omega, by omega⟩
  · rw [List.getElem?_append_left hn, h]
  · rw [List.getElem?_append_left (by simpa using hn), List.getElem?_set_self hn]
  · rw [List.set_append_left _ _ hn]
  · rw [List.set_append_left _ _ (by simpa using hn), List.set_set]
  · rw [List.getElem?_set_self hn]
@[simp] theorem get_app0 (S l : Sto) : (S ++ l)[S.length]? = l[0]? := get_app S l 0
@[simp] theorem get_sapp (S l : Sto) (n : Nat) (o : Ob) (k : Nat) : (S.set n o ++ l)[S.length + k]? = l[k]? := by
  have h := get_app (S.set n o) l k
  rwa [List.length_set] at h
@[simp] theorem get_sapp0 (S l : Sto) (n : Nat) (o : Ob) : (S.set n o ++ l)[S.length]? = l[0]? := get_sapp S l n o 0
@[simp] theorem restK_len : restK.length = 9 := rfl
theorem written_eq (e : En) (S : Sto) (n : Nat) (h : S[n]? = some (.dct (kd e))) (x : Str) (a b : Val) :
    m_written [.loc n, .str x, a, b] S = some (.tup [sK e.name, .str x, .int e.turn, .int e.yours, a, b], S) := by
  have h2 : S[n]? = some (.dct (kdV _ _ _ _ _ _ _ _ _ _ _ _ _ _ _)) := h
  unfold m_written s_written
  simp [fSub, h2, keyOf]
def En.Fit (e : En) : Prop := Small e.wishes ∧ e.plan.length = e.wishes.length
def askL (e : En) : Lt := ⟨e.name, .ask, e.turn, e.yours, e.number, askOf e.wishes e.plan⟩
theorem ask_written_eq (e : En) (S : Sto) (n : Nat) (h : S[n]? = some (.dct (kd e))) (g : e.Fit) :
    m_ask_written [.loc n] S = some (ltE (askL e), S ++ [.lst ((askOf e.wishes e.plan).map prE)]) := by
  have h2 : S[n]? = some (.dct (kdV _ _ _ _ _ _ _ _ _ _ _ _ _ _ _)) := h
  obtain ⟨k1, -⟩ := placed h
  have q := ask_of_eq e.wishes e.plan S g.1 g.2
  have q2 := written_eq e (S ++ [.lst ((askOf e.wishes e.plan).map prE)]) n (k1 _) "ask" (.int e.number) (prsE (askOf e.wishes e.plan))
  unfold m_ask_written s_ask_written
  simp [fSub, h2, keyOf, q, q2]
  rfl
def En.rest (e : En) (w : Wy) : En := { e with stand := .closed, number := 0, plan := [], refused := [], given := none, heard := 0, took := none, last := none, tries := 0, why := w }
def En.begun (e : En) (t : Int) : En := { e with stand := .asking, number := 1, plan := planOf e.wishes [], refused := [], given := none, heard := 0, took := none, last := none, tries := t, why := .blank }
def byeL (e : En) : Lt := ⟨e.name, .bye, e.turn, e.yours, 0, []⟩
theorem shut_eq (e : En) (S : Sto) (n : Nat) (h : S[n]? = some (.dct (kd e))) (w : Wy) (x : Str) (hx : x = wyS w) (b : Bool) :
    m_shut [.loc n, .str x, .bl b] S = some (.lst (if b = true then [ltE (byeL e)] else []), S.set n (.dct (kd (e.rest w))) ++ [.dct restK]) := by
  have h2 : S[n]? = some (.dct (kdV _ _ _ _ _ _ _ _ _ _ _ _ _ _ _)) := h
  obtain ⟨k1, k2, k3, k4, k5, k6, k7⟩ := placed h2
  have q2 := written_eq e S n h "bye" (.int 0) (.tup [])
  subst hx
  unfold m_shut s_shut
  cases b <;> simp [mDictC, isDc, fUpd, h2, k1, k2, k3, k4, k5, k6, k7, q2, fPut, keyOf, kd, sdS, planE, prsE, opE, ltE, wS, En.rest, byeL]
theorem planOf_len (ws : List Wish) (rf : List Pk) : (planOf ws rf).length = ws.length := by simp [planOf]
theorem begin_eq (e : En) (S : Sto) (n : Nat) (h : S[n]? = some (.dct (kd e))) (g : Small e.wishes) (t : Int) :
    m_begin [.loc n, .int t] S = some (.loc (S.length + 3), S.set n (.dct (kd (e.begun t))) ++ [.dct restK,
      .dct [(.inr "stand", .str "asking"), (.inr "number", .int 1), (.inr "plan", planE (planOf e.wishes [])), (.inr "tries", .int t), (.inr "why", .str "")],
      .lst ((askOf e.wishes (planOf e.wishes [])).map prE), .lst [ltE (askL (e.begun t))]]) := by
  have h2 : S[n]? = some (.dct (kdV _ _ _ _ _ _ _ _ _ _ _ _ _ _ _)) := h
  obtain ⟨k1, k2, k3, k4, k5, k6, k7⟩ := placed h2
  have q := fun S' => plan_of_eq e.wishes [] S' g
  have q3 := fun S' hh => ask_written_eq (e.begun t) S' n hh ⟨g, planOf_len _ _⟩
  simp only [prsE, List.map_nil] at q
  unfold m_begin s_begin
  simp [mDictC, isDc, fUpd, h2, k1, k2, k3, k4, k5, k6, k7, fSub, keyOf, q]
  rw [q3 _ (by rw [k2]; rfl)]
  simp
  rfl
def Gives (r : Option (Val × Sto)) (v : Val) (S : Sto) : Prop := ∃ J, r = some (v, S ++ J)
@[simp] theorem gives_app (v v' : Val) (S J : Sto) : Gives (some (v, S ++ J)) v' S ↔ v = v' := ⟨fun ⟨J', h⟩ => by simp at h; exact h.1, fun h => ⟨J, by rw [h]⟩⟩
@[simp] theorem gives_id (v v' : Val) (S : Sto) : Gives (some (v, S)) v' S ↔ v = v' := ⟨fun ⟨J', h⟩ => by simp at h; exact h.1, fun h => ⟨[], by rw [h]; simp⟩⟩
theorem opened_eq (e : En) (S : Sto) (g : Small e.wishes) (hc : e.stand = .closed) (t : Int) :
    Gives (m_opened [enE e, .int t] S) (.tup [enE (settled ({ e with turn := e.turn + 1, echoes := 0 }.begun t)), .lst [ltE (askL ({ e with turn := e.turn + 1, echoes := 0 }.begun t))]]) S := by
  have q1 := known_of_eq e S
  unfold m_opened s_opened
  simp [q1, fSub, keyOf, hc, sdS, isDc, fUpd]
  rw [begin_eq _ _ _ (get_app0 _ _) (by exact g)]
  simp
  rw [as_end_eq _ _ _ (get_app0 _ _)]
  simp [Nat.add_assoc]
theorem closing_eq (e : En) (S : Sto) (hc : e.stand ≠ .closed) : Gives (m_closing [enE e]  S) (.tup [enE (e.rest .closed), .lst [ltE (byeL e)]]) S := by
  have q1 := known_of_eq e S
  have hs : sdS e.stand ≠ "closed" := by cases h : e.stand <;> simp [sdS, h] at hc ⊢
  have hr : settled (e.rest .closed) = e.rest .closed := rfl
  unfold m_closing s_closing
  simp [q1, fSub, keyOf, hs]
  rw [shut_eq _ _ _ (get_app0 _ _) .closed "closed" rfl]
  simp
  rw [as_end_eq _ _ _ (get_app0 _ _)]
  simp [hr]
theorem Sd_str (s : Sd) : (sdS s = "closed") = (s = .closed) := by cases s <;> simp [sdS]
def En.low (e : En) : En := { e with tries := e.tries - 1 }
def hereL (e : En) : Lt := ⟨e.name, .here, e.turn, e.yours, 0, []⟩
theorem ticked_closed (e : En) (S : Sto) (hc : e.stand = .closed) : Gives (m_ticked [enE e] S) (.tup [enE e, .lst []]) S := by
  have q1 := known_of_eq e S
  unfold m_ticked s_ticked
  simp [q1, fSub, keyOf, Sd_str, hc]
theorem ticked_out (e : En) (S : Sto) (hc : e.stand ≠ .closed) (ht : e.tries = 0) : Gives (m_ticked [enE e] S) (.tup [enE (e.rest .tries), .lst [ltE (byeL e)]]) S := by
  have q1 := known_of_eq e S
  have hr : settled (e.rest .tries) = e.rest .tries := rfl
  unfold m_ticked s_ticked
  simp [q1, fSub, keyOf, Sd_str, hc, ht]
  rw [shut_eq _ _ _ (get_app0 _ _) .tries "tries" rfl]
  simp
  rw [as_end_eq _ _ _ (get_app0 _ _)]
  simp [hr]
theorem ticked_on (e : En) (S : Sto) (g : e.Fit) (hc : e.stand ≠ .closed) (ht : e.tries ≠ 0) :
    Gives (m_ticked [enE e] S) (.tup [enE (settled e.low), .lst [ltE (if e.given = none then askL e else hereL e)]]) S := by
  have q1 := known_of_eq e S
  unfold m_ticked s_ticked
  simp [q1, fSub, keyOf, Sd_str, hc, ht, mAugD, fPut]
  rw [as_end_eq _ _ _ (get_app0 _ _)]
  cases hg : e.given with
  | none =>
    simp [fIs, hg, opE]
    rw [ask_written_eq _ _ _ (get_app0 _ _) (by exact g)]
    simp [hg, En.low]
    rfl
  | some l =>
    simp [fIs, hg, opE]
    rw [written_eq _ _ _ (get_app0 _ _)]
    simp [hg, En.low]
    rfl
theorem zipV_map {α β : Type} (f : α → Val) (g : β → Val) : ∀ (l : List α) (m : List β), zipV (l.map f) (m.map g) = (l.zip m).map fun p => .tup [f p.1, g p.2]
  | [], _ => by simp [zipV]
  | a :: l, [] => by simp [zipV]
  | a :: l, b :: m => by simp [zipV, zipV_map f g l m]
theorem bools_map {α : Type} (f : α → Bool) : ∀ l : List α, boolsOf (l.map fun a => .bl (f a)) = some (l.map f)
  | [] => rfl
  | a :: l => by simp [boolsOf, bools_map f l]
theorem has_failed_eq (ws : List Wish) (pl : List Pl) (S : Sto) (hl : pl.length = ws.length) (h : ws.length ≤ 100) : ∃ b, m_has_failed [wishesE ws, planE pl] S = some (.bl b, S) := by
  have h2 : okV (.tup []) = true := by decide
  have q := lcGo_map (mg := (mTTup 2 (mTCons (mTTup 4 (mTCons (mName 2) (mTCons (mName 3) (mTCons (mName 4) (mTCons (mName 5) (mTNil)))))) (mTCons (mTTup 2 (mTCons (mName 6) (mTCons (mName 7) (mTNil)))) (mTNil)))))
    (mt := mYes) (me := (mAndV (mVar 4) (mBin fEq (mVar 7) (mTup (mNil))))) (ρ := [some (wishesE ws), some (planE pl), none, none, none, none, none, none])
    (f := fun p : Wish × Pl => .tup [wishE p.1, plE p.2]) (p := fun _ => true) (g := fun p => .bl (p.1.must && p.2.2.isEmpty)) (S := S) (ws.zip pl) (fun a ha => ⟨_, rfl, rfl, fun _ => by
      have h3 := (okN_itsE a.2.2).ok
      simp [wishE, plE]
      cases a.1.must <;> simp [fEq, h2, h3, itsE_nil]⟩)
  have hy : ws.length ≤ 100000 := by omega
  have hz : (ws.zip pl).length ≤ 100000 := by simp; omega
  rw [List.filter_eq_self.mpr (fun _ _ => rfl)] at q
  simp only [wishesE, planE] at q
  unfold m_has_failed s_has_failed
  simp [wishesE, planE, itOf, hl, zipV_map, hz, hy, q, fAny, lstOf, bools_map]
def En.wished (e : En) (ws : List Wish) (t : Int) : En := { e with wishes := ws, plan := planOf ws e.refused, number := e.number + 1, given := none, tries := t }
theorem wished_closed (e : En) (ws : List Wish) (S : Sto) (t : Int) (hc : e.stand = .closed) : Gives (m_wished [enE e, wishesE ws, .int t] S) (.tup [enE { e with wishes := ws }, .lst []]) S := by
  have q1 := known_of_eq e S
  unfold m_wished s_wished
  simp [q1, fSub, keyOf, Sd_str, hc, fPut]
  rw [as_end_eq _ _ _ (get_app0 _ _)]
  simp [settled]
theorem wished_on (e : En) (ws : List Wish) (S : Sto) (t : Int) (hc : e.stand ≠ .closed) (g : Small ws) :
    Gives (m_wished [enE e, wishesE ws, .int t] S) (.tup [enE ({ e with wishes := ws }.rest .failed), .lst [ltE (byeL e)]]) S ∨
    Gives (m_wished [enE e, wishesE ws, .int t] S) (.tup [enE (settled (e.wished ws t)), .lst [ltE (askL (e.wished ws t))]]) S := by
  have q1 := known_of_eq e S
  have hf := has_failed_eq ws (planOf ws e.refused)
  have q2 := fun S' => plan_of_eq ws e.refused S' g
  unfold m_wished s_wished
  simp [q1, fSub, keyOf, Sd_str, hc, fPut, q2]
  obtain ⟨b, hb⟩ := hf (S ++ [.dct (kd { e with wishes := ws, plan := planOf ws e.refused })]) (planOf_len _ _) g.1
  rw [hb]
  cases b with
  | true =>
    refine .inl ?_
    simp
    rw [shut_eq _ _ _ (get_app0 _ _) .failed "failed" rfl]
    simp
    rw [as_end_eq _ _ _ (get_app0 _ _)]
    simp
    exact ⟨rfl, rfl⟩
  | false =>
    refine .inr ?_
    simp [isDc, fUpd]
    rw [as_end_eq _ _ _ (get_app0 _ _)]
    simp
    rw [ask_written_eq _ _ _ (get_app0 _ _) (by exact ⟨g, planOf_len _ _⟩)]
    simp
    exact ⟨rfl, rfl⟩
end Cw
end
section
/-! CwP4: what was said, refusals, what is left behind. -/
namespace Cw
open PySem PySem.Spec PyProof.Rows L2
theorem is_tuple_eq (S : Sto) (xs : List Val) (i j : Int) : m_is_tuple [.tup xs, .int i, .int j] S = some (.bl (decide (i ≤ xs.length) && decide ((xs.length : Int) ≤ j)), S) := by
  unfold m_is_tuple s_is_tuple
  simp [fIsi, tyName, kitB, fLen, seqOf]
  by_cases h : i ≤ xs.length <;> simp [h]
theorem is_name_eq (S : Sto) (k : Kd) : ∃ b, m_is_name [sK k] S = some (.bl b, S) := by
  refine ⟨true, ?_⟩
  match k with
  | 0 => rfl
  | 1 => rfl
  | 2 => rfl
  | 3 => rfl
  | 4 => rfl
  | 5 => rfl
  | 6 => rfl
  | 7 => rfl
  | 8 => rfl
  | 9 => rfl
  | 10 => rfl
  | 11 => rfl
  | 12 => rfl
theorem kb_int : kitB "int" "int" = some true := rfl
theorem kb_boo : kitB "int" "bool" = some false := rfl
theorem kb_str : kitB "str" "str" = some true := rfl
theorem kb_tup : kitB "tuple" "tuple" = some true := rfl
theorem is_worth_eq (S : Sto) (i : Int) : ∃ b, m_is_worth [.int i] S = some (.bl b, S) := by
  refine ⟨decide (0 ≤ i) && decide (i ≤ 9999), ?_⟩
  unfold m_is_worth s_is_worth
  simp [fIsi, tyName, kb_int, kb_boo]
  by_cases h : 0 ≤ i <;> simp [h]
theorem is_pair_eq (S : Sto) (p : Pk) : ∃ b, m_is_pair [prE p] S = some (.bl b, S) := by
  obtain ⟨b1, h1⟩ := is_name_eq S p.1
  obtain ⟨b2, h2⟩ := is_worth_eq S p.2
  refine ⟨b1 && b2, ?_⟩
  unfold m_is_pair s_is_pair
  simp [prE, is_tuple_eq, fSub, fIxSeq, seqOf, atI, ixN, h1, h2]
  cases b1 <;> cases b2 <;> simp
/-- a list built from a body that answers somehow -/
theorem lcGo_some {α : Type} {mg : MT} {me : M} {ρ : Env'} {f : α → Val} {S : Sto} : ∀ (l : List α),
    (∀ a, a ∈ l → ∃ ρ1 b, mg (f a) ρ S = some (ρ1, S) ∧ me ρ1 S = some (.bl b, S)) → ∃ bs : List Bool, lcGo mg mYes me ρ (l.map f) S = some (bs.map .bl, S)
  | [], _ => ⟨[], rfl⟩
  | a :: l, h => by
    obtain ⟨ρ1, b, h1, h2⟩ := h a List.mem_cons_self
    obtain ⟨bs, ih⟩ := lcGo_some (mg := mg) (me := me) (ρ := ρ) l fun b hb => h b (List.mem_cons_of_mem _ hb)
    exact ⟨b :: bs, by simp [lcGo, h1, h2, ih]⟩
theorem are_pairs_eq (S : Sto) (ps : List Pk) (h : ps.length ≤ 100) : ∃ b, m_are_pairs [prsE ps] S = some (.bl b, S) := by
  have hl : ps.length ≤ 100000 := by omega
  obtain ⟨bs, q⟩ := lcGo_some (mg := mName 1) (me := mCallF 1 m_is_pair [] (mCons (mVar 1) mNil)) (ρ := [some (prsE ps), none]) (f := prE) (S := S) ps (fun p _ => by
    obtain ⟨b, hb⟩ := is_pair_eq S p
    exact ⟨_, b, rfl, by simp [hb]⟩)
  refine ⟨bs.all id, ?_⟩
  have e := bools_map id bs
  simp only [id, List.map_id'] at e
  unfold m_are_pairs s_are_pairs
  simp only [prsE] at q ⊢
  simp [fIsi, tyName, kb_tup, q, hl, fAll, lstOf, e]
theorem is_said_eq (S : Sto) (x : Str) (ps : List Pk) (h : ps.length ≤ 100) : ∃ b, m_is_said [.tup [.str x, prsE ps]] S = some (.bl b, S) := by
  obtain ⟨b, hb⟩ := are_pairs_eq S ps h
  refine ⟨b, ?_⟩
  unfold m_is_said s_is_said
  simp [is_tuple_eq, fSub, fIxSeq, seqOf, atI, ixN, hb, fIsi, tyName, kb_str]
theorem kinds_in_eq (S : Sto) (ps : List Pk) (h : ps.length ≤ 100) : m_kinds_in [prsE ps] S = some (.lst (ps.map fun p => sK p.1), S) := by
  have hl : ps.length ≤ 100000 := by omega
  have q := lcGo_map (mg := mTTup 2 (mTCons (mName 1) (mTCons (mName 2) mTNil))) (mt := mYes) (me := mVar 1) (ρ := [some (prsE ps), none, none]) (f := prE) (p := fun _ => true) (g := fun p => sK p.1) (S := S) ps
    (fun p _ => ⟨_, rfl, rfl, fun _ => by simp⟩)
  rw [List.filter_eq_self.mpr (fun _ _ => rfl)] at q
  unfold m_kinds_in s_kinds_in
  simp only [prsE] at q ⊢
  simp [q, hl]
def ksOf (ps : List Pk) : List Kd := ps.map (·.1)
theorem ksOf_map (ps : List Pk) : (ps.map fun p => sK p.1) = (ksOf ps).map sK := by simp [ksOf]
theorem inB_ks (S : Sto) (k : Kd) (l : List Kd) : inB S (sK k) (.lst (l.map sK)) = some (decide (k ∈ l)) := by
  unfold inB
  simp only
  rw [if_pos ⟨(okN_sK k).ok, (okN_mapL okN_sK l).ok⟩, any_map faith_sK]
theorem index_ks (S : Sto) (k : Kd) (l : List Kd) (h : k ∈ l) : ∃ j : Nat, fIndex S (.lst (l.map sK)) [sK k] = some (.int (j : Int), S) := by
  have e : ((l.map sK).findIdx? fun z => vEq z (sK k)).isSome = true := by
    rw [List.findIdx?_isSome, any_map faith_sK]
    simpa using h
  obtain ⟨j, hj⟩ := Option.isSome_iff_exists.mp e
  refine ⟨j, ?_⟩
  unfold fIndex
  simp only
  rw [if_pos ⟨(okN_sK k).ok, (okN_mapL okN_sK l).ok⟩, hj]
  rfl
@[simp] theorem fEq_bl (S : Sto) (x y : Bool) : fEq S (.bl x) (.bl y) = some (.bl (decide (x = y)), S) := by
  unfold fEq
  rw [if_pos ⟨(okN_bl x).ok, (okN_bl y).ok⟩]
  simp [dr, faith_bl x y]
theorem cut_tail {α : Type} (xs : List α) : cutG xs (some 1) none = xs.tail := by
  unfold cutG HT.sIx
  cases xs with
  | nil => simp
  | cons x xs =>
    simp
    try omega
theorem lcGo_ints {α : Type} {mg : MT} {me : M} {ρ : Env'} {f : α → Val} {S : Sto} : ∀ (l : List α),
    (∀ a, a ∈ l → ∃ ρ1, ∃ j : Nat, mg (f a) ρ S = some (ρ1, S) ∧ me ρ1 S = some (.int (j : Int), S)) → ∃ js : List Nat, js.length = l.length ∧ lcGo mg mYes me ρ (l.map f) S = some (js.map fun (j : Nat) => .int (j : Int), S)
  | [], _ => ⟨[], rfl, rfl⟩
  | a :: l, h => by
    obtain ⟨ρ1, b, h1, h2⟩ := h a List.mem_cons_self
    obtain ⟨bs, e, ih⟩ := lcGo_ints (mg := mg) (me := me) (ρ := ρ) l fun b hb => h b (List.mem_cons_of_mem _ hb)
    exact ⟨b :: bs, by simp [e], by simp [lcGo, h1, h2, ih]⟩
theorem are_refusals_eq (S : Sto) (w : Wd) (ps ask : List Pk) (h : ps.length ≤ 100) (h2 : ask.length ≤ 100) :
    ∃ b, m_are_refusals [.str (wS w), prsE ps, prsE ask] S = some (.bl b, S) ∧ (b = true → ps ≠ [] ∧ ∀ p, p ∈ ps → p.1 ∈ ksOf ask) := by
  have q1 := kinds_in_eq S ask h2
  have q2 := kinds_in_eq S ps h
  rw [ksOf_map] at q1 q2
  have hl : (ksOf ps).length ≤ 100000 := by simp [ksOf]; omega
  have hl2 : ps.length ≤ 100000 := by omega
  have e0 := fEq_prs S ps []
  have a1 := lcGo_map (mg := mName 5) (mt := mYes) (me := mBin fIn (mVar 5) (mVar 3)) (ρ := [some (.str (wS w)), some (prsE ps), some (prsE ask), some (.lst ((ksOf ask).map sK)), none, none, none, none, none]) (f := sK) (p := fun _ => true) (g := fun k => .bl (decide (k ∈ ksOf ask))) (S := S) (ksOf ps)
    (fun p _ => ⟨_, rfl, rfl, fun _ => by simp [fIn, inB_ks]⟩)
  rw [List.filter_eq_self.mpr (fun _ _ => rfl)] at a1
  by_cases hp : ps = []
  · refine ⟨false, ?_, fun h => by cases h⟩
    subst hp
    unfold m_are_refusals s_are_refusals
    simp only [prsE, List.map_nil] at *
    simp [q1, e0]
  by_cases hk : ∀ k, k ∈ ksOf ps → k ∈ ksOf ask
  · obtain ⟨js, hj, a2⟩ := lcGo_ints (mg := mName 5) (me := mMeth fIndex (mVar 3) (mCons (mVar 5) mNil)) (ρ := [some (.str (wS w)), some (prsE ps), some (prsE ask), some (.lst ((ksOf ask).map sK)), none, none, none, none, none]) (f := sK) (S := S) (ksOf ps)
      (fun k hk' => by
        obtain ⟨j, hj⟩ := index_ks S k _ (hk k hk')
        exact ⟨_, j, rfl, by simp [isL, lstOf, hj]⟩)
    obtain ⟨bs, a3⟩ := lcGo_some (mg := mTTup 2 (mTCons (mName 7) (mTCons (mName 8) mTNil))) (me := mBin fLt (mVar 7) (mVar 8)) (ρ := [some (.str (wS w)), some (prsE ps), some (prsE ask), some (.lst ((ksOf ask).map sK)), some (.lst (js.map fun (j : Nat) => .int (j : Int))), none, none, none, none])
      (f := fun p : Nat × Nat => .tup [.int (p.1 : Int), .int (p.2 : Int)]) (S := S) (js.zip js.tail) (fun a _ => ⟨_, decide (a.1 < a.2), rfl, by simp⟩)
    obtain ⟨bs2, a4⟩ := lcGo_some (mg := mName 6) (me := mBin fEq (mBin fIn (mVar 6) (mVar 2)) (mBin fEq (mVar 0) (mC (.str "no")))) (ρ := [some (.str (wS w)), some (prsE ps), some (prsE ask), some (.lst ((ksOf ask).map sK)), some (.lst (js.map fun (j : Nat) => .int (j : Int))), none, none, none, none])
      (f := prE) (S := S) ps (fun a _ => ⟨_, decide (a ∈ ask) == decide (wS w = "no"), rfl, by simp [fIn, inB_prs]⟩)
    have b1 := bools_map id bs
    have b2 := bools_map id bs2
    simp only [id, List.map_id'] at b1 b2
    have hz := zipV_map (fun (j : Nat) => Val.int (j : Int)) (fun (j : Nat) => Val.int (j : Int)) js js.tail
    have hz2 : (js.zip js.tail).length ≤ 100000 := by simp [ksOf] at hj ⊢; omega
    have hz3 : js.length ≤ 100001 := by simp [ksOf] at hj; omega
    have hall : (((ksOf ps).map fun k => decide (k ∈ ksOf ask)).all id) = true := by
      simp
      exact hk
    have hcut : cutG (js.map fun (j : Nat) => Val.int (j : Int)) (some 1) none = (js.map fun (j : Nat) => Val.int (j : Int)).tail := cut_tail _
    rw [List.map_tail] at hz
    refine ⟨bs.all id && bs2.all id, ?_, fun _ => ⟨hp, fun p hp' => hk _ (List.mem_map_of_mem hp')⟩⟩
    unfold m_are_refusals s_are_refusals
    simp only [prsE, List.map_nil] at *
    simp [q1, q2, e0, hp, hl, a1, fAll, lstOf, bools_map, hall, a2, hcut, fSlice, itOf, hz, hz3, a3, b1]
    by_cases hb : false ∈ bs <;> simp [hb, a4, b2, hl2, lstOf]
  · refine ⟨false, ?_, fun h => by cases h⟩
    have : (((ksOf ps).map fun k => decide (k ∈ ksOf ask)).all id) = false := by
      rw [Bool.eq_false_iff]
      intro h
      refine hk fun k hk => ?_
      simp at h
      exact h k hk
    unfold m_are_refusals s_are_refusals
    simp only [prsE, List.map_nil] at *
    simp [q1, q2, e0, hp, hl, a1, fAll, lstOf, bools_map, this]
def leftBehind (w : Wd) (x : Int) (l : List Int) : List Int := if w = .no then [] else if x ∈ l.tail then x :: l.tail.filter (fun y => decide (y ≠ x)) else l.tail
theorem inB_its (S : Sto) (x : Int) (l : List Int) : inB S (.int x) (itsE l) = some (decide (x ∈ l)) := by
  unfold inB itsE
  simp only
  rw [if_pos ⟨(okN_int x).ok, (okN_itsE l).ok⟩, any_map faith_int]
theorem left_behind_eq (S : Sto) (w : Wd) (x : Int) (l : List Int) (h : l.length ≤ 100) : m_left_behind [.str (wS w), .int x, itsE l] S = some (itsE (leftBehind w x l), S) := by
  have hw : (wS w = Str.ofString "no") = (w = .no) := by cases w <;> simp [wS]
  have hc : cutG (l.map Val.int) (some 1) none = (l.map Val.int).tail := cut_tail _
  have hi := inB_its S x l.tail
  have q := lcGo_map (mg := mName 4) (mt := mT (mBin fNe (mVar 4) (mVar 1))) (me := mVar 4) (ρ := [some (.str (wS w)), some (.int x), some (itsE l), some (itsE l.tail), none]) (f := Val.int) (p := fun y => decide (y ≠ x)) (g := Val.int) (S := S) l.tail
    (fun y _ => ⟨_, rfl, by simp, fun _ => by simp⟩)
  have hl : l.length ≤ 100001 := by omega
  unfold m_left_behind s_left_behind leftBehind
  simp only [itsE, List.map_tail] at *
  by_cases h1 : w = .no
  · subst h1
    simp [wS]
  by_cases h2 : x ∈ l.tail
  · simp at q
    simp [hw, fSlice, hc, fNotIn, hi, h1, h2, q, hl, fTuple, lstOf, fCatT]
    have := List.length_filter_le (fun y => !decide (y = x)) l.tail
    simp at this
    omega
  · simp [hw, fSlice, hc, fNotIn, hi, h1, h2]
end Cw
end
section
/-! CwP5: small dictionaries by kinds; sorting of pairs. -/
namespace Cw
open PySem PySem.Spec PyProof.Rows L2
section
variable {α : Type} {f : α → Val}
def dK (f : α → Val) (l : List (Kd × α)) : List (Key × Val) := l.map fun q => (.inr (kstr q.1), f q.2)
def dSet (l : List (Kd × α)) (k : Kd) (x : α) : List (Kd × α) := if k ∈ l.map (·.1) then l.map (fun q => if q.1 = k then (q.1, x) else q) else l ++ [(k, x)]
def dUp (l m : List (Kd × α)) : List (Kd × α) := m.foldl (fun acc q => dSet acc q.1 q.2) l
def dGet : List (Kd × α) → Kd → Option α
  | [], _ => none
  | q :: l, k => if q.1 = k then some q.2 else dGet l k
theorem key_eq (a b : Kd) : ((Sum.inr (kstr a) : Key) = Sum.inr (kstr b)) = (a = b) := by
  refine propext ⟨fun h => kstr_inj a b (Sum.inr.inj h), fun h => by rw [h]⟩
theorem any_dK (l : List (Kd × α)) (k : Kd) : ((dK f l).any fun kv => decide (kv.1 = (Sum.inr (kstr k) : Key))) = decide (k ∈ l.map (·.1)) := by
  rw [Bool.eq_iff_iff]
  simp only [dK, List.any_map, List.any_eq_true, Function.comp_apply, decide_eq_true_eq, key_eq, List.mem_map]
theorem pK_dK (l : List (Kd × α)) (k : Kd) (x : α) : pK (dK f l) (.inr (kstr k)) (f x) = dK f (dSet l k x) := by
  unfold pK dSet
  rw [any_dK]
  by_cases h : k ∈ l.map (·.1)
  · rw [if_pos (decide_eq_true h), if_pos h]
    simp only [dK, List.map_map]
    refine List.map_congr_left fun q _ => ?_
    simp only [Function.comp_apply, key_eq]
    by_cases e : q.1 = k <;> simp [e]
  · rw [if_neg (by simpa using h), if_neg h]
    simp [dK]
theorem uK_dK (l : List (Kd × α)) : ∀ m : List (Kd × α), uK (dK f l) (dK f m) = dK f (dUp l m) := fun m => by
  induction m generalizing l with
  | nil => rfl
  | cons q m ih =>
    show uK (pK (dK f l) (.inr (kstr q.1)) (f q.2)) (dK f m) = _
    rw [pK_dK, ih]
    rfl
theorem gK_dK (k : Kd) : ∀ l : List (Kd × α), gK (dK f l) (.inr (kstr k)) = (dGet l k).map f
  | [] => rfl
  | q :: l => by
    have ih := gK_dK k l
    unfold gK dK at ih ⊢
    unfold dGet
    simp only [List.map_cons, List.find?_cons, key_eq]
    by_cases e : q.1 = k
    · simp [e]
    · simp only [e, decide_false, if_false]
      exact ih
theorem dGet_mem {k : Kd} {x : α} : ∀ {l : List (Kd × α)}, dGet l k = some x → (k, x) ∈ l
  | [], h => by cases h
  | q :: l, h => by
    unfold dGet at h
    split at h
    · rename_i e
      obtain rfl := Option.some.inj h
      subst e
      exact List.mem_cons_self
    · exact List.mem_cons_of_mem _ (dGet_mem h)
theorem dGet_some {k : Kd} : ∀ {l : List (Kd × α)}, k ∈ l.map (·.1) → ∃ x, dGet l k = some x
  | [], h => by cases h
  | q :: l, h => by
    unfold dGet
    split
    · exact ⟨_, rfl⟩
    · rename_i e
      rcases List.mem_cons.mp (by simpa using h : k ∈ q.1 :: l.map (·.1)) with h | h
      · exact absurd h.symm e
      · exact dGet_some h
theorem dGet_none {k : Kd} : ∀ {l : List (Kd × α)}, ¬ k ∈ l.map (·.1) → dGet l k = none
  | [], h => rfl
  | q :: l, h => by
    unfold dGet
    rw [if_neg (fun e => h (by simp [e])), dGet_none (fun e => h (by simp at e ⊢; exact .inr e))]
theorem dGet_map (k j : Kd) (x : α) : ∀ l : List (Kd × α), dGet (l.map fun q => if q.1 = k then (q.1, x) else q) j = if j = k ∧ k ∈ l.map (·.1) then some x else dGet l j
  | [] => by simp [dGet]
  | q :: l => by
    have ih := dGet_map k j x l
    simp only [List.map_cons, dGet]
    by_cases e : q.1 = k
    · subst e
      rw [if_pos rfl]
      by_cases e2 : j = q.1
      · subst e2
        simp
      · have : ¬ q.1 = j := fun z => e2 z.symm
        simp [this, e2, ih]
    · rw [if_neg e]
      by_cases e2 : q.1 = j
      · subst e2
        simp [e]
      · rw [if_neg e2, if_neg e2, ih]
        have h3 : ¬ k = q.1 := fun z => e z.symm
        have h4 : (j = k ∧ k ∈ q.1 :: l.map (·.1)) ↔ (j = k ∧ k ∈ l.map (·.1)) := by
          rw [List.mem_cons]
          exact ⟨fun z => ⟨z.1, z.2.resolve_left h3⟩, fun z => ⟨z.1, .inr z.2⟩⟩
        simp only [h4]
theorem dGet_app (k j : Kd) (x : α) : ∀ l : List (Kd × α), ¬ k ∈ l.map (·.1) → dGet (l ++ [(k, x)]) j = if j = k then some x else dGet l j
  | [], _ => by
    simp only [List.nil_append, dGet]
    by_cases e : j = k
    · simp [e]
    · have : ¬ k = j := fun z => e z.symm
      simp [this, e]
  | q :: l, h => by
    have h1 : ¬ k = q.1 := fun z => h (by simp [z])
    have ih := dGet_app k j x l (fun z => h (by simp at z ⊢; exact .inr z))
    simp only [List.cons_append, dGet]
    rw [ih]
    by_cases e : q.1 = j
    · have : ¬ j = k := fun z => h1 (by rw [e, z])
      simp [e, this]
    · simp [e]
theorem dGet_set (l : List (Kd × α)) (k j : Kd) (x : α) : dGet (dSet l k x) j = if j = k then some x else dGet l j := by
  unfold dSet
  by_cases h : k ∈ l.map (·.1)
  · rw [if_pos h, dGet_map]
    by_cases e : j = k
    · rw [if_pos ⟨e, h⟩, if_pos e]
    · rw [if_neg (fun z => e z.1), if_neg e]
  · rw [if_neg h, dGet_app k j x l h]
theorem dGet_up (l : List (Kd × α)) (j : Kd) : ∀ m : List (Kd × α), (j ∉ m.map (·.1) ∧ dGet (dUp l m) j = dGet l j) ∨ (∃ x, (j, x) ∈ m ∧ dGet (dUp l m) j = some x) := fun m => by
  induction m generalizing l with
  | nil => exact .inl ⟨by simp, rfl⟩
  | cons q m ih =>
    rcases ih (dSet l q.1 q.2) with ⟨h1, h2⟩ | ⟨x, h1, h2⟩
    · by_cases e : j = q.1
      · refine .inr ⟨q.2, by rw [e]; exact List.mem_cons_self, ?_⟩
        show dGet (dUp (dSet l q.1 q.2) m) j = _
        rw [h2, dGet_set, if_pos e]
      · refine .inl ⟨by simp at h1 ⊢; exact ⟨e, h1⟩, ?_⟩
        show dGet (dUp (dSet l q.1 q.2) m) j = _
        rw [h2, dGet_set, if_neg e]
    · exact .inr ⟨x, List.mem_cons_of_mem _ h1, h2⟩
theorem dSet_len (l : List (Kd × α)) (k : Kd) (x : α) : (dSet l k x).length ≤ l.length + 1 := by
  unfold dSet
  split <;> simp
theorem dUp_len : ∀ (m l : List (Kd × α)), (dUp l m).length ≤ l.length + m.length
  | [], l => Nat.le_refl _
  | q :: m, l => by
    have h := dUp_len m (dSet l q.1 q.2)
    have h2 := dSet_len l q.1 q.2
    show (dUp (dSet l q.1 q.2) m).length ≤ _
    simp only [List.length_cons]
    omega
theorem dK_len (l : List (Kd × α)) : (dK f l).length = l.length := by simp [dK]
theorem pairs_dK {g : Kd × α → Val} (h : ∀ q, g q = .tup [sK q.1, f q.2]) : ∀ l : List (Kd × α), pairsOf (l.map g) = some (dK f l)
  | [] => rfl
  | q :: l => by
    simp only [List.map_cons, pairsOf, h, pairOf, sK, keyOf, Option.map_some, Option.bind_some, pairs_dK h l]
    rfl
theorem dcGo_dK {β : Type} {mg : MT} {mk me : M} {ρ : Env'} {e : β → Val} {g : β → Kd × α} {S : Sto} : ∀ (l : List β) (acc : List (Kd × α)),
    (∀ b, b ∈ l → ∃ ρ1, mg (e b) ρ S = some (ρ1, S) ∧ mk ρ1 S = some (sK (g b).1, S) ∧ me ρ1 S = some (f (g b).2, S)) →
    dcGo mg mYes mk me ρ (l.map e) (dK f acc) S = some (dK f (dUp acc (l.map g)), S)
  | [], acc, _ => rfl
  | b :: l, acc, h => by
    obtain ⟨ρ1, h1, h2, h3⟩ := h b List.mem_cons_self
    have ih := dcGo_dK (mg := mg) (mk := mk) (me := me) (ρ := ρ) (e := e) (g := g) (S := S) l (dSet acc (g b).1 (g b).2) fun c hc => h c (List.mem_cons_of_mem _ hc)
    simp only [List.map_cons, dcGo, h1, Option.bind_some, s_mYes, if_true, h2, h3]
    simp only [sK, keyOf, Option.bind_some, pK_dK]
    exact ih
end
/-! ### sorting -/
def toPr (p : Pk) : Pr := (kstr p.1, p.2)
theorem prE_toPr (p : Pk) : prE p = prV (toPr p) := rfl
theorem toPr_inj {p q : Pk} (h : toPr p = toPr q) : p = q := by
  obtain ⟨a, b⟩ := p
  obtain ⟨c, d⟩ := q
  simp only [toPr, Prod.mk.injEq] at h
  rw [kstr_inj _ _ h.1, h.2]
theorem prs_of : ∀ l : List Pk, prsOf (l.map prE) = some (l.map toPr)
  | [] => rfl
  | p :: l => by
    simp only [List.map_cons, prsOf, prs_of l, prE_toPr]
    rfl
theorem back_map (l : List Pk) : ∀ X : List Pr, (∀ x, x ∈ X → x ∈ l.map toPr) → ∃ l' : List Pk, X = l'.map toPr
  | [], _ => ⟨[], rfl⟩
  | x :: X, h => by
    obtain ⟨p, _, hp⟩ := List.mem_map.mp (h x List.mem_cons_self)
    obtain ⟨l', e⟩ := back_map l X fun y hy => h y (List.mem_cons_of_mem _ hy)
    exact ⟨p :: l', by rw [e, ← hp]; rfl⟩
theorem mem_toPr {p : Pk} {l : List Pk} : toPr p ∈ l.map toPr ↔ p ∈ l := by
  rw [List.mem_map]
  exact ⟨fun ⟨q, h, e⟩ => toPr_inj e ▸ h, fun h => ⟨p, h, rfl⟩⟩
/-- sorted and told once: what sorted(set(..)) gives -/
def Neat (l : List Pk) : Prop := sortP (l.map toPr).eraseDups = l.map toPr
theorem neat_nil : Neat [] := by
  unfold Neat sortP
  simp
theorem sort_set (l : List Pk) (h : l.length < 64) : ∃ l' : List Pk, (∀ S, fSortSet S (prsE l) = some (.lst (l'.map prE), S)) ∧ Neat l' ∧ (∀ p, p ∈ l' ↔ p ∈ l) ∧ l'.Nodup := by
  have hp := sortP_perm (l.map toPr).eraseDups
  have hm : ∀ x, x ∈ sortP (l.map toPr).eraseDups ↔ x ∈ l.map toPr := fun x => by rw [hp.mem_iff, List.mem_eraseDups]
  have hn : (sortP (l.map toPr).eraseDups).Nodup := hp.nodup_iff.mpr (nodup_dups _ _ (Nat.le_refl _))
  obtain ⟨l', e⟩ := back_map l _ fun x hx => (hm x).mp hx
  refine ⟨l', fun S => ?_, ?_, fun p => ?_, ?_⟩
  · unfold fSortSet prsE
    have hl : (l.map toPr).length < 64 := by simpa using h
    simp only [prs_of, Option.bind_some, hl, if_true, e]
    simp only [List.map_map]
    rfl
  · unfold Neat
    rw [← e, dups_nodup _ hn, sortP_again]
  · rw [← mem_toPr, ← e, hm, mem_toPr]
  · rw [e] at hn
    exact List.Pairwise.of_map toPr (fun a b h e => h (by rw [e])) hn
theorem neat_same (S : Sto) (l : List Pk) (h : l.length < 64) (n : Neat l) : fSortSet S (prsE l) = some (.lst (l.map prE), S) := by
  unfold fSortSet prsE
  have hl : (l.map toPr).length < 64 := by simpa using h
  have n' : sortP (l.map toPr).eraseDups = l.map toPr := n
  simp only [prs_of, Option.bind_some, hl, if_true, n', List.map_map]
  rfl
theorem cat_prs (S : Sto) (a b : List Pk) (h : a.length + b.length ≤ 100000) : fCatT S (prsE a) (prsE b) = some (prsE (a ++ b), S) := by
  unfold prsE
  simp [fCatT, h]
theorem sort_lst (S : Sto) (l : List Pk) (h : l.length < 64) : ∃ l' : List Pk, fSortL S [.lst (l.map prE)] = some (.lst (l'.map prE), S) ∧ (∀ p, p ∈ l' ↔ p ∈ l) ∧ l'.length = l.length := by
  have hp := sortP_perm (l.map toPr)
  obtain ⟨l', e⟩ := back_map l _ fun x hx => hp.mem_iff.mp hx
  refine ⟨l', ?_, fun p => ?_, by have := hp.length_eq; rw [e] at this; simpa using this⟩
  · unfold fSortL
    have hl : (l.map toPr).length < 64 := by simpa using h
    simp only [lstOf, prs_of, Option.bind_some, hl, if_true, e, List.map_map]
    rfl
  · rw [← mem_toPr, ← e, hp.mem_iff, mem_toPr]
end Cw
end
section
/-! CwP6: answers, and what they leave behind. -/
namespace Cw
open PySem PySem.Spec PyProof.Rows L2
theorem dUp_nil_mem {α : Type} {m : List (Kd × α)} {k : Kd} {x : α} (h : dGet (dUp [] m) k = some x) : (k, x) ∈ m := by
  rcases dGet_up ([] : List (Kd × α)) k m with ⟨_, h2⟩ | ⟨y, h1, h2⟩
  · rw [h2] at h
    cases h
  · rw [h2] at h
    obtain rfl := Option.some.inj h
    exact h1
theorem dUp_nil_some {α : Type} {m : List (Kd × α)} {k : Kd} (h : k ∈ m.map (·.1)) : ∃ x, dGet (dUp [] m) k = some x := by
  rcases dGet_up ([] : List (Kd × α)) k m with ⟨h1, _⟩ | ⟨y, h1, h2⟩
  · exact absurd h h1
  · exact ⟨y, h2⟩
theorem pairs_pl (l : List Pl) : pairsOf (l.map plE) = some (dK itsE l) := pairs_dK (fun _ => rfl) l
theorem pairs_pr (l : List Pk) : pairsOf (l.map prE) = some (dK Val.int l) := pairs_dK (fun _ => rfl) l
theorem uK_dK0 {α : Type} {f : α → Val} (m : List (Kd × α)) : uK [] (dK f m) = dK f (dUp [] m) := uK_dK (f := f) [] m
theorem head_at (l : List Int) (h : l ≠ []) : atI (l.map Val.int) 0 = some (.int (l.headD 0)) := by
  cases l with
  | nil => exact absurd rfl h
  | cons x l => exact atI_zero _ _
theorem fNe_prs0 (S : Sto) (x : List Pk) : fNe S (.tup (x.map prE)) (.tup []) = some (.bl (!decide (x = [])), S) := fNe_prs S x []
theorem answer_eq (S : Sto) (bd : List Pl) (ask : List Pk) (hb : ∀ q, q ∈ bd → q.2 ≠ []) (hl : ask.length ≤ 100) :
    ∃ w ps, (w = Wd.yes ∨ w = Wd.no ∨ w = Wd.rather) ∧ ps.length ≤ ask.length ∧ Gives (m_answer [planE bd, prsE ask] S) (.tup [.str (wS w), prsE ps]) S := by
  have hl2 : ask.length ≤ 100000 := by omega
  have a1 := lcGo_map (mg := mName 5) (mt := mT (mBin fNotIn (mBin fSub (mVar 5) (mC (.int 0))) (mVar 2))) (me := mVar 5)
    (ρ := [some (planE bd), some (prsE ask), some (.loc S.length), none, none, none, none, none]) (f := prE) (p := fun p => !(dGet (dUp [] bd) p.1).isSome) (g := prE) (S := S ++ [.dct (dK itsE (dUp [] bd))]) ask
    (fun p _ => ⟨_, rfl, by
      have e := gK_dK (f := itsE) p.1 (dUp [] bd)
      simp [prE, fSub, fIxSeq, seqOf, atI, ixN, fNotIn, inB, sK, keyOf, e], fun _ => by simp⟩)
  by_cases hs : ask.filter (fun p => !(dGet (dUp [] bd) p.1).isSome) = []
  · have hk : ∀ p, p ∈ ask → ∃ l, dGet (dUp [] bd) p.1 = some l ∧ l ≠ [] := fun p hp => by
      have h1 := List.filter_eq_nil_iff.mp hs p hp
      simp only [Bool.not_eq_true', Bool.not_eq_false] at h1
      obtain ⟨l, h2⟩ := Option.isSome_iff_exists.mp h1
      exact ⟨l, h2, hb _ (dUp_nil_mem h2)⟩
    have a2 := lcGo_map (mg := mTTup 2 (mTCons (mName 6) (mTCons (mName 7) mTNil))) (mt := mT (mBin fNotIn (mVar 7) (mBin fSub (mVar 2) (mVar 6)))) (me := mTup (mCons (mVar 6) (mCons (mBin fSub (mBin fSub (mVar 2) (mVar 6)) (mC (.int 0))) mNil)))
      (ρ := [some (planE bd), some (prsE ask), some (.loc S.length), some (.tup []), none, none, none, none]) (f := prE) (p := fun p => !decide (p.2 ∈ (dGet (dUp [] bd) p.1).getD [])) (g := fun p => prE (p.1, ((dGet (dUp [] bd) p.1).getD []).headD 0)) (S := S ++ [.dct (dK itsE (dUp [] bd))]) ask
      (fun p hp => ⟨_, rfl, by
        have e := gK_dK (f := itsE) p.1 (dUp [] bd)
        obtain ⟨l, h1, h2⟩ := hk p hp
        rw [h1] at e ⊢
        simp [fSub, fNotIn, sK, keyOf, e, inB_its], fun _ => by
        have e := gK_dK (f := itsE) p.1 (dUp [] bd)
        obtain ⟨l, h1, h2⟩ := hk p hp
        have h3 := head_at l h2
        rw [h1] at e ⊢
        simp [fSub, sK, keyOf, e, itsE, fIxSeq, seqOf, h3, prE]⟩)
    have e3 : ∀ l : List Pk, (l.map fun p => prE (p.1, ((dGet (dUp [] bd) p.1).getD []).headD 0)) = (l.map fun p => (p.1, ((dGet (dUp [] bd) p.1).getD []).headD 0)).map prE := fun l => by simp
    rw [e3] at a2
    rw [hs] at a1
    generalize hq : (List.filter (fun p => !decide (p.2 ∈ (dGet (dUp [] bd) p.1).getD [])) ask).map (fun p => (p.1, ((dGet (dUp [] bd) p.1).getD []).headD 0)) = others at a2
    have hol : others.length ≤ ask.length := by
      rw [← hq, List.length_map]
      exact List.length_filter_le _ _
    by_cases ho : others = []
    · refine ⟨.yes, ask, .inl rfl, Nat.le_refl _, ?_⟩
      unfold m_answer s_answer
      simp only [planE, prsE] at *
      subst ho
      simp [fDict, pairs_pl, uK_dK0, a1, hl2, fTuple, lstOf, fNe_prs0 _ []]
      have e0 := fun S => fNe_prs0 S []
      simp at e0
      simp [e0, a2, hl2, wS]
    · refine ⟨.rather, others, .inr (.inr rfl), hol, ?_⟩
      unfold m_answer s_answer
      simp only [planE, prsE] at *
      have e0 := fun S => fNe_prs0 S []
      simp at e0
      have e1 := fun S => fNe_prs0 S others
      simp [fDict, pairs_pl, uK_dK0, a1, hl2, fTuple, lstOf, e0, a2, e1, ho, wS]
  · refine ⟨.no, ask.filter (fun p => !(dGet (dUp [] bd) p.1).isSome), .inr (.inl rfl), List.length_filter_le _ _, ?_⟩
    unfold m_answer s_answer
    simp only [planE, prsE] at *
    have e1 := fun S => fNe_prs0 S (ask.filter (fun p => !(dGet (dUp [] bd) p.1).isSome))
    generalize ask.filter (fun p => !(dGet (dUp [] bd) p.1).isSome) = st at *
    simp [fDict, pairs_pl, uK_dK0, a1, hl2, fTuple, lstOf, e1, hs, wS]
end Cw
end
section
/-! CwP7: behind. -/
namespace Cw
open PySem PySem.Spec PyProof.Rows L2
@[simp] theorem s_mDc (mi : MG (List Val)) (mg : MT) (mt : MG Bool) (mk me : M) (own : List Nat) (ρ : Env') (S : Sto) : mDc mi mg mt mk me own ρ S = (mi ρ S).bind fun p => if p.1.length ≤ 100000 then (dcGo mg mt mk me (wipeE ρ own) p.1 [] p.2).map fun q => (.loc q.2.length, q.2 ++ [.dct q.1]) else none := rfl
theorem mem_dSet {α : Type} {l : List (Kd × α)} {k : Kd} {x : α} {q : Kd × α} (h : q ∈ dSet l k x) : q ∈ l ∨ q = (k, x) := by
  unfold dSet at h
  split at h
  · obtain ⟨r, hr, e⟩ := List.mem_map.mp h
    by_cases e2 : r.1 = k
    · rw [if_pos e2] at e
      rw [e2] at e
      exact .inr e.symm
    · rw [if_neg e2] at e
      exact .inl (e ▸ hr)
  · rcases List.mem_append.mp h with h | h
    · exact .inl h
    · exact .inr (by simpa using h)
theorem mem_dUp {α : Type} {q : Kd × α} : ∀ {m l : List (Kd × α)}, q ∈ dUp l m → q ∈ l ∨ q ∈ m
  | [], l, h => .inl h
  | r :: m, l, h => by
    rcases mem_dUp (m := m) (l := dSet l r.1 r.2) h with h | h
    · rcases mem_dSet h with h | h
      · exact .inl h
      · exact .inr (by rw [h]; exact List.mem_cons_self)
    · exact .inr (List.mem_cons_of_mem _ h)
theorem ks_dUp_nil {α : Type} {m : List (Kd × α)} {k : Kd} (h : k ∈ m.map (·.1)) : k ∈ (dUp [] m).map (·.1) := by
  obtain ⟨x, h1⟩ := dUp_nil_some h
  exact List.mem_map.mpr ⟨_, dGet_mem h1, rfl⟩
theorem askGo_len : ∀ (ws : List Wish) (pl : List Pl) (found : List Pk), (askGo ws pl found).length ≤ found.length + ws.length
  | [], _, found => by simp [askGo]
  | w :: ws, [], found => by simp [askGo]
  | w :: ws, (k, []) :: pl, found => by
    have h := askGo_len ws pl found
    simp only [askGo, List.length_cons]
    omega
  | w :: ws, (k, x :: l) :: pl, found => by
    have h1 := askGo_len ws pl found
    have h2 := askGo_len ws pl (found ++ [(w.k, x)])
    simp only [askGo, List.length_cons]
    split
    · simp at h2
      omega
    · omega
theorem askOf_len (ws : List Wish) (pl : List Pl) : (askOf ws pl).length ≤ ws.length := by
  have h := askGo_len ws pl []
  unfold askOf
  simpa using h
theorem askGo_mem {p : Pk} : ∀ (ws : List Wish) (pl : List Pl) (found : List Pk), pl.map (·.1) = ws.map (·.k) → p ∈ askGo ws pl found → p ∈ found ∨ ∃ l, (p.1, p.2 :: l) ∈ pl
  | [], _, found, _, h => .inl (by simpa [askGo] using h)
  | w :: ws, [], found, _, h => .inl (by simpa [askGo] using h)
  | w :: ws, (k, []) :: pl, found, e, h => by
    simp only [List.map_cons, List.cons.injEq] at e
    rcases askGo_mem ws pl found e.2 h with h | ⟨l, h⟩
    · exact .inl h
    · exact .inr ⟨l, List.mem_cons_of_mem _ h⟩
  | w :: ws, (k, x :: l) :: pl, found, e, h => by
    simp only [List.map_cons, List.cons.injEq] at e
    simp only [askGo] at h
    split at h
    · rcases askGo_mem ws pl _ e.2 h with h | ⟨l, h⟩
      · rcases List.mem_append.mp h with h | h
        · exact .inl h
        · have h' : p = (w.k, x) := by simpa using h
          subst h'
          exact .inr ⟨l, by rw [← e.1]; exact List.mem_cons_self⟩
      · exact .inr ⟨l, List.mem_cons_of_mem _ h⟩
    · rcases askGo_mem ws pl _ e.2 h with h | ⟨l, h⟩
      · exact .inl h
      · exact .inr ⟨l, List.mem_cons_of_mem _ h⟩
theorem askOf_mem {p : Pk} {ws : List Wish} {pl : List Pl} (e : pl.map (·.1) = ws.map (·.k)) (h : p ∈ askOf ws pl) : ∃ l, (p.1, p.2 :: l) ∈ pl := by
  rcases askGo_mem ws pl [] e h with h | h
  · cases h
  · exact h
inductive Out where
  | nothing | agreed (a : List Pk) | failed (k : Kd) | plan (pl : List Pl) (rf : List Pk)
def outE : Out → Val
  | .nothing => .non
  | .agreed a => .tup [.str "agreed", prsE a]
  | .failed k => .tup [.str "failed", sK k]
  | .plan pl rf => .tup [.str "plan", planE pl, prsE rf]
/-- what a refusal leaves of the plan, and what it adds to the refused -/
def Refused (w : Wd) (ps ask : List Pk) (pl pl' : List Pl) (rf : List Pk) : Prop :=
  (w = .no ∨ w = .rather) ∧ ps ≠ [] ∧ (∀ p, p ∈ ps → p.1 ∈ ksOf ask) ∧ rf.length ≤ ps.length ∧
  (∃ nw : Kd → List Int, pl' = pl.map (fun q => (q.1, nw q.1)) ∧ ∀ k, k ∈ pl.map (·.1) → (¬ k ∈ ksOf ps ∧ (k, nw k) ∈ pl) ∨ ∃ p l, p ∈ ps ∧ p.1 = k ∧ (k, l) ∈ pl ∧ nw k = leftBehind w p.2 l) ∧
  (∀ p, p ∈ rf → p.1 ∈ ksOf ps ∧ ((w = .no ∧ p.2 = -1) ∨ (w = .rather ∧ p ∈ ask)))
theorem inB_two (S : Sto) (x a b : Str) (hx : PyData.strOk x = true) (ha : PyData.strOk a = true) (hb : PyData.strOk b = true) : inB S (.str x) (.tup [.str a, .str b]) = some (decide (a = x ∨ b = x)) := by
  have h : OkN 1 (.tup [.str a, .str b]) := okN_tup fun v hv => by
    have : v = .str a ∨ v = .str b := by simpa using hv
    rcases this with rfl | rfl
    · exact okN_str ha
    · exact okN_str hb
  unfold inB
  simp only
  rw [if_pos ⟨(okN_str hx).ok, h.ok⟩]
  have f1 : ∀ z, vEq (.str z) (.str x) = decide (z = x) := fun z => faith_str z x
  simp [f1]
theorem fNe_prsT (S : Sto) (x : List Kd) : fNe S (.lst (x.map sK)) (.lst []) = some (.bl (!decide (x = [])), S) := by
  unfold fNe
  have h0 : okV (.lst []) = true := by decide
  rw [if_pos ⟨(okN_mapL okN_sK x).ok, h0⟩]
  simp [lst_nil]
  cases x <;> rfl
theorem its_nil (l : List Int) : (itsE l = .tup []) = (l = []) := by cases l <;> simp [itsE]
theorem fEq_its0 (S : Sto) (l : List Int) : fEq S (itsE l) (.tup []) = some (.bl l.isEmpty, S) := by
  unfold fEq
  have h0 : okV (.tup []) = true := by decide
  rw [if_pos ⟨(okN_itsE l).ok, h0⟩]
  simp [itsE_nil]
theorem behind_else (S : Sto) (w : Wd) (h : w = .ask ∨ w = .bye ∨ w = .here ∨ w = .there) (ws : List Wish) (pl : List Pl) (ps : List Pk) (hs : Small ws) (hp : pl.length = ws.length) (hl : ps.length ≤ 50) :
    Gives (m_behind [wishesE ws, planE pl, .tup [.str (wS w), prsE ps]] S) (outE .nothing) S := by
  obtain ⟨b, hb⟩ := is_said_eq S (wS w) ps (by omega)
  have q := ask_of_eq ws pl S hs hp
  have i2 := inB_two (S ++ [.lst ((askOf ws pl).map prE)]) (wS w) "no" "rather" (by simp) (by simp) (by simp)
  unfold m_behind s_behind
  cases b
  · simp [hb, outE]
  · rcases h with rfl | rfl | rfl | rfl <;> simp [wS] at hb i2 <;> simp [hb, q, wS, fNotIn, i2, outE]
theorem behind_yes (S : Sto) (ws : List Wish) (pl : List Pl) (ps : List Pk) (hs : Small ws) (hp : pl.length = ws.length) (hl : ps.length ≤ 50) :
    Gives (m_behind [wishesE ws, planE pl, .tup [.str (wS .yes), prsE ps]] S) (outE .nothing) S ∨ Gives (m_behind [wishesE ws, planE pl, .tup [.str (wS .yes), prsE ps]] S) (outE (.agreed (askOf ws pl))) S := by
  obtain ⟨b, hb⟩ := is_said_eq S (wS .yes) ps (by omega)
  have q := ask_of_eq ws pl S hs hp
  simp [wS] at hb
  unfold m_behind s_behind
  cases b
  · refine .inl ?_
    simp [hb, outE, wS]
  · by_cases e : ps = askOf ws pl
    · refine .inr ?_
      subst e
      simp [hb, q, wS, outE]
    · refine .inl ?_
      simp [hb, q, wS, e, outE]
theorem behind_nr (S : Sto) (w : Wd) (hw : w = .no ∨ w = .rather) (ws : List Wish) (pl : List Pl) (ps : List Pk) (hs : Small ws) (hk : pl.map (·.1) = ws.map (·.k)) (hl : ps.length ≤ 50) (hpl : ∀ q, q ∈ pl → q.2.length ≤ 100) :
    ∃ o, Gives (m_behind [wishesE ws, planE pl, .tup [.str (wS w), prsE ps]] S) (outE o) S ∧ (∀ a, o ≠ .agreed a) ∧ ∀ pl' rf, o = .plan pl' rf → Refused w ps (askOf ws pl) pl pl' rf := by
  have hp : pl.length = ws.length := by simpa using congrArg List.length hk
  obtain ⟨b, hb⟩ := is_said_eq S (wS w) ps (by omega)
  have q := ask_of_eq ws pl S hs hp
  have hal : (askOf ws pl).length ≤ 100 := Nat.le_trans (askOf_len ws pl) hs.1
  have hy : (wS w = Str.ofString "yes") = False := by rcases hw with rfl | rfl <;> simp [wS]
  have hno : (wS w = Str.ofString "no") = (w = .no) := by rcases hw with rfl | rfl <;> simp [wS]
  have i2 : ∀ S, inB S (.str (wS w)) (.tup [.str "no", .str "rather"]) = some true := fun S => by
    rw [inB_two S (wS w) "no" "rather" (by simp) (by simp) (by simp)]
    rcases hw with rfl | rfl <;> simp [wS]
  cases b with
  | false =>
    refine ⟨.nothing, ?_, fun a h => (by cases h), fun pl' rf h => by cases h⟩
    unfold m_behind s_behind
    simp [hb, outE]
  | true =>
  obtain ⟨b2, hb2, hb3⟩ := are_refusals_eq (S ++ [.lst ((askOf ws pl).map prE)]) w ps (askOf ws pl) (by omega) hal
  cases b2 with
  | false =>
    refine ⟨.nothing, ?_, fun a h => (by cases h), fun pl' rf h => by cases h⟩
    unfold m_behind s_behind
    simp [hb, q, hy, fNotIn, i2, hb2, outE]
  | true =>
  obtain ⟨hp1, hp2⟩ := hb3 rfl
  generalize hA : askOf ws pl = A at *
  have hkA : ∀ k, k ∈ ksOf A → k ∈ pl.map (·.1) := fun k h => by
    obtain ⟨p, hp, e⟩ := List.mem_map.mp h
    obtain ⟨l, hl⟩ := askOf_mem hk (hA ▸ hp)
    exact List.mem_map.mpr ⟨_, hl, e⟩
  have hkp : ∀ p, p ∈ ps → p.1 ∈ pl.map (·.1) := fun p hp => hkA _ (hp2 p hp)
  generalize hD : dUp [] pl = D
  have hDg : ∀ k, k ∈ pl.map (·.1) → ∃ l, dGet D k = some l ∧ (k, l) ∈ pl := fun k h => by
    obtain ⟨x, hx⟩ := dUp_nil_some h
    rw [hD] at hx
    exact ⟨x, hx, dUp_nil_mem (hD ▸ hx)⟩
  have hDl : D.length ≤ 100 := by
    have := dUp_len pl []
    rw [hD] at this
    have h3 := hs.1
    simp at this
    omega
  generalize hU : dUp [] (ps.map fun p => (p.1, leftBehind w p.2 ((dGet D p.1).getD []))) = U
  have hUl : U.length ≤ 50 := by
    have := dUp_len (ps.map fun p => (p.1, leftBehind w p.2 ((dGet D p.1).getD []))) []
    rw [hU] at this
    simp at this
    omega
  generalize hE : dUp D U = E
  have hEg : ∀ k, k ∈ pl.map (·.1) → dGet E k = some ((dGet E k).getD []) ∧ ((¬ k ∈ ksOf ps ∧ (k, (dGet E k).getD []) ∈ pl) ∨ ∃ p l, p ∈ ps ∧ p.1 = k ∧ (k, l) ∈ pl ∧ (dGet E k).getD [] = leftBehind w p.2 l) := fun k h => by
    obtain ⟨l, h1, h2⟩ := hDg k h
    rcases dGet_up D k U with ⟨g1, g2⟩ | ⟨x, g1, g2⟩
    · rw [hE, h1] at g2
      rw [g2]
      refine ⟨rfl, .inl ⟨fun z => g1 ?_, h2⟩⟩
      rw [← hU]
      refine ks_dUp_nil ?_
      simpa [ksOf] using z
    · rw [hE] at g2
      rw [g2]
      refine ⟨rfl, .inr ?_⟩
      rw [← hU] at g1
      rcases mem_dUp g1 with g1 | g1
      · cases g1
      · obtain ⟨p, hp, e⟩ := List.mem_map.mp g1
        injection e with e1 e2
        refine ⟨p, l, hp, e1, h2, ?_⟩
        rw [e1, h1] at e2
        exact e2.symm
  have d1 := dcGo_dK (f := itsE) (mg := mTTup 2 (mTCons (mName 10) (mTCons (mName 14) mTNil))) (mk := mVar 10) (me := mCallF 3 m_left_behind [] (mCons (mVar 3) (mCons (mVar 14) (mCons (mBin fSub (mVar 6) (mVar 10)) mNil))))
    (ρ := [some (wishesE ws), some (planE pl), some (.tup [.str (wS w), prsE ps]), some (.str (wS w)), some (prsE ps), some (prsE A), some (.loc (S.length + 1)), none, none, none, none, none, none, none, none, none])
    (e := prE) (g := fun p => (p.1, leftBehind w p.2 ((dGet D p.1).getD []))) (S := S ++ [.lst (A.map prE), .dct (dK itsE D)]) ps [] (fun p hp => ⟨_, rfl, by simp, by
      obtain ⟨l, h1, h2⟩ := hDg p.1 (hkp p hp)
      have e := gK_dK (f := itsE) p.1 D
      rw [h1] at e ⊢
      have h3 := fun S => left_behind_eq S w p.2 l (hpl _ h2)
      simp [fSub, sK, keyOf, e, h3]⟩)
  rw [hU] at d1
  have l1 := lcGo_map (mg := mTTup 4 (mTCons (mName 10) (mTCons (mName 11) (mTCons (mName 12) (mTCons (mName 13) mTNil))))) (mt := mAndT (mT (mVar 12)) (mT (mBin fEq (mBin fSub (mVar 6) (mVar 10)) (mTup mNil)))) (me := mVar 10)
    (ρ := [some (wishesE ws), some (planE pl), some (.tup [.str (wS w), prsE ps]), some (.str (wS w)), some (prsE ps), some (prsE A), some (.loc (S.length + 1)), none, none, none, none, none, none, none, none, none])
    (f := wishE) (p := fun v => v.must && ((dGet E v.k).getD []).isEmpty) (g := fun v => sK v.k) (S := S ++ [.lst (A.map prE), .dct (dK itsE E), .dct (dK itsE U)]) ws (fun v hv => ⟨_, rfl, by
      have h1 := (hEg v.k (by rw [hk]; exact List.mem_map_of_mem hv)).1
      have e := gK_dK (f := itsE) v.k E
      rw [h1] at e
      simp [wishE]
      cases v.must <;> simp [fSub, sK, keyOf, e, fEq_its0], fun _ => by simp [wishE]⟩)
  have e1 : (List.filter (fun v => v.must && ((dGet E v.k).getD []).isEmpty) ws).map (fun v => sK v.k) = ((List.filter (fun v => v.must && ((dGet E v.k).getD []).isEmpty) ws).map (·.k)).map sK := by simp
  rw [e1] at l1
  generalize (List.filter (fun v => v.must && ((dGet E v.k).getD []).isEmpty) ws).map (·.k) = L at l1
  have wl := hs.1
  have wl2 : ws.length ≤ 100000 := by omega
  have pl2 : ps.length ≤ 100000 := by omega
  have pl3 : pl.length ≤ 100000 := by omega
  have hDU : D.length + U.length ≤ 1000 := by omega
  have d0 : dK itsE ([] : List Pl) = [] := rfl
  rw [d0] at d1
  have hD0 : uK [] (dK itsE pl) = dK itsE D := by rw [uK_dK0, hD]
  have hE0 : uK (dK itsE D) (dK itsE U) = dK itsE E := by rw [uK_dK, hE]
  cases L with
  | cons k L =>
    refine ⟨.failed k, ?_, fun a h => (by cases h), fun pl' rf h => by cases h⟩
    have e0 := fun S => fNe_prsT S (k :: L)
    have e2 := atI_zero (sK k) (L.map sK)
    unfold m_behind s_behind
    simp only [wishesE, planE, prsE, List.map_cons] at *
    simp [hb, q, hy, fNotIn, i2, hb2, fDict, pairs_pl, hD0, isDc, pl2, d1, fUpd, dK_len, hDU, hE0, wl2, l1, e0, fSub, fIxSeq, seqOf, e2, outE]
  | nil =>
    have a1 := fun k (h : k ∈ ksOf A) => dUp_nil_some (m := A) h
    have r1 := lcGo_map (mg := mTTup 2 (mTCons (mName 10) (mTCons (mName 14) mTNil))) (mt := mYes) (me := mTup (mCons (mVar 10) (mCons (mIf (mT (mBin fEq (mVar 3) (mC (.str "no")))) (mC (.int (-1))) (mBin fSub (mVar 8) (mVar 10))) mNil)))
      (ρ := [some (wishesE ws), some (planE pl), some (.tup [.str (wS w), prsE ps]), some (.str (wS w)), some (prsE ps), some (prsE A), some (.loc (S.length + 1)), some (.lst []), some (.loc (S.length + 3)), none, none, none, none, none, none, none])
      (f := prE) (p := fun _ => true) (g := fun p => prE (p.1, if w = .no then -1 else (dGet (dUp [] A) p.1).getD 0)) (S := S ++ [.lst (A.map prE), .dct (dK itsE E), .dct (dK itsE U), .dct (dK Val.int (dUp [] A))]) ps (fun p hp => ⟨_, rfl, rfl, fun _ => by
        obtain ⟨x, h1⟩ := a1 p.1 (hp2 p hp)
        have e := gK_dK (f := Val.int) p.1 (dUp [] A)
        rw [h1] at e ⊢
        by_cases h : w = .no
        · subst h
          simp [wS, prE]
        · simp [hno, h, fSub, sK, keyOf, e, prE]⟩)
    rw [List.filter_eq_self.mpr (fun _ _ => rfl)] at r1
    have e4 : (ps.map fun p => prE (p.1, if w = .no then -1 else (dGet (dUp [] A) p.1).getD 0)) = (ps.map fun p => (p.1, if w = .no then -1 else (dGet (dUp [] A) p.1).getD 0)).map prE := by simp
    rw [e4] at r1
    obtain ⟨rf, s1, s2, s3⟩ := sort_lst (S ++ [.lst (A.map prE), .dct (dK itsE E), .dct (dK itsE U), .dct (dK Val.int (dUp [] A))]) (ps.map fun p => (p.1, if w = .no then -1 else (dGet (dUp [] A) p.1).getD 0)) (by simp; omega)
    have p1 := lcGo_map (mg := mTTup 2 (mTCons (mName 10) (mTCons (mName 15) mTNil))) (mt := mYes) (me := mTup (mCons (mVar 10) (mCons (mBin fSub (mVar 6) (mVar 10)) mNil)))
      (ρ := [some (wishesE ws), some (planE pl), some (.tup [.str (wS w), prsE ps]), some (.str (wS w)), some (prsE ps), some (prsE A), some (.loc (S.length + 1)), some (.lst []), some (.loc (S.length + 3)), some (.lst (rf.map prE)), none, none, none, none, none, none])
      (f := plE) (p := fun _ => true) (g := fun q => plE (q.1, (dGet E q.1).getD [])) (S := S ++ [.lst (A.map prE), .dct (dK itsE E), .dct (dK itsE U), .dct (dK Val.int (dUp [] A))]) pl (fun q hq => ⟨_, rfl, rfl, fun _ => by
        have h1 := (hEg q.1 (List.mem_map_of_mem hq)).1
        have e := gK_dK (f := itsE) q.1 E
        rw [h1] at e
        simp [fSub, sK, keyOf, e, plE]⟩)
    rw [List.filter_eq_self.mpr (fun _ _ => rfl)] at p1
    have e5 : (pl.map fun q => plE (q.1, (dGet E q.1).getD [])) = (pl.map fun q => (q.1, (dGet E q.1).getD [])).map plE := by simp
    rw [e5] at p1
    refine ⟨.plan (pl.map fun q => (q.1, (dGet E q.1).getD [])) rf, ?_, fun a h => (by cases h), fun pl' rf' h => ?_⟩
    · have e0 := fun S => fNe_prsT S []
      have hA0 : uK [] (dK Val.int A) = dK Val.int (dUp [] A) := uK_dK0 A
      generalize (ps.map fun p => (p.1, if w = .no then -1 else (dGet (dUp [] A) p.1).getD 0)) = X at *
      generalize (pl.map fun q => (q.1, (dGet E q.1).getD [])) = Y at *
      unfold m_behind s_behind
      simp only [wishesE, planE, prsE, List.map_cons, List.map_nil] at *
      simp [hb, q, hy, fNotIn, i2, hb2, fDict, pairs_pl, pairs_pr, hD0, hA0, isDc, pl2, d1, fUpd, dK_len, hDU, hE0, wl2, l1, e0, r1, s1, p1, fTuple, lstOf, pl3, outE]
      exact ⟨rfl, rfl⟩
    · injection h with h1 h2
      subst h1 h2
      refine ⟨hw, hp1, hp2, by rw [s3]; simp, ⟨fun k => (dGet E k).getD [], rfl, fun k h => (hEg k h).2⟩, fun p hp => ?_⟩
      obtain ⟨r, hr, e⟩ := List.mem_map.mp ((s2 p).mp hp)
      subst e
      refine ⟨List.mem_map.mpr ⟨r, hr, rfl⟩, ?_⟩
      rcases hw with h | h
      · exact .inl ⟨h, by simp [h]⟩
      · refine .inr ⟨h, ?_⟩
        obtain ⟨x, h1⟩ := a1 r.1 (hp2 r hr)
        have h3 : ¬ w = .no := by rw [h]; decide
        rw [if_neg h3, h1]
        exact dUp_nil_mem h1
end Cw
end
section
/-! CwP8: hearing. -/
namespace Cw
open PySem PySem.Spec PyProof.Rows L2
def ansL (e : En) (w : Wd) (n : Int) (ps : List Pk) : Lt := ⟨e.name, w, e.turn, e.yours, n, ps⟩
inductive Word (e : En) (L : Lt) (t : Int) : En → List Lt → Prop where
  | quiet : Word e L t e []
  | again (l : Lt) : e.last = some l → Word e L t e [l]
  | reply (w : Wd) (ps : List Pk) (o : Option (List Pk)) : L.w = .ask → (w = .yes ∨ w = .no ∨ w = .rather) → ps.length ≤ L.pairs.length → e.heard < L.number →
      Word e L t { e with heard := L.number, took := o, last := some (ansL e w L.number ps) } [ansL e w L.number ps]
  | bye : Word e L t (e.rest .bye) []
  | there : Word e L t e [ansL e .there 0 []]
  | tries : Word e L t { e with tries := t } []
  | failed : Word e L t (e.rest .failed) [byeL e]
  | agreed (a : List Pk) : Word e L t { e with tries := t, given := some a } []
  | plan (pl' : List Pl) (rf R : List Pk) : Refused L.w L.pairs (askOf e.wishes e.plan) e.plan pl' rf → Neat R → R.Nodup → (∀ p, p ∈ R ↔ p ∈ e.refused ∨ p ∈ rf) →
      Word e L t { e with tries := t, plan := pl', refused := R, number := e.number + 1 } [askL { e with tries := t, plan := pl', refused := R, number := e.number + 1 }]
theorem set_same {S : Sto} {n : Nat} {o : Ob} (h : S[n]? = some o) : S.set n o = S := by
  obtain ⟨h1, h2⟩ := List.getElem?_eq_some_iff.mp h
  rw [← h2, List.set_getElem_self]
def GivesAt (r : Option (Val × Sto)) (v : Val) (S : Sto) (n : Nat) (e : En) : Prop := ∃ J, r = some (v, S.set n (.dct (kd e)) ++ J)
theorem givesAt_app (v v' : Val) (S J : Sto) (n : Nat) (e e' : En) (h1 : v = v') (h2 : e = e') : GivesAt (some (v, S.set n (.dct (kd e)) ++ J)) v' S n e' := ⟨J, by rw [h1, h2]⟩
theorem givesAt_id (v v' : Val) (S : Sto) (n : Nat) (e e' : En) (h1 : v = v') (h2 : e = e') : GivesAt (some (v, S.set n (.dct (kd e)))) v' S n e' := ⟨[], by rw [h1, h2]; simp⟩
theorem givesAt_same {v v' : Val} {S : Sto} {n : Nat} {e : En} (h : S[n]? = some (.dct (kd e))) (h1 : v = v') : GivesAt (some (v, S)) v' S n e := ⟨[], by rw [h1, set_same h]; simp⟩
theorem givesAt_sapp {v v' : Val} {S J : Sto} {n : Nat} {e : En} (h : S[n]? = some (.dct (kd e))) (h1 : v = v') : GivesAt (some (v, S ++ J)) v' S n e := ⟨J, by rw [h1, set_same h]⟩
theorem heard_ask_eq (e : En) (S : Sto) (n : Nat) (h : S[n]? = some (.dct (kd e))) (L : Lt) (bd : List Pl) (t : Int) (hL : L.w = .ask) (hn : 1 ≤ L.number) (hh : e.heard = 0 ∨ e.last.isSome = true)
    (hb : ∀ q, q ∈ bd → q.2 ≠ []) (hl : L.pairs.length ≤ 50) :
    ∃ e2 ls, Word e L t e2 ls ∧ GivesAt (m_heard_ask [.loc n, ltE L, planE bd] S) (.lst (ls.map ltE)) S n e2 := by
  obtain ⟨k1, k2, k3, k4, k5, k6, k7⟩ := placed h
  rcases Int.lt_trichotomy L.number e.heard with h1 | h1 | h1
  · refine ⟨e, [], .quiet, ?_⟩
    unfold m_heard_ask s_heard_ask
    simp [ltE, fSub, h, keyOf, h1]
    exact givesAt_same h rfl
  · have h2 : e.last.isSome = true := hh.resolve_left (by omega)
    obtain ⟨l, h3⟩ := Option.isSome_iff_exists.mp h2
    refine ⟨e, [l], .again l h3, ?_⟩
    unfold m_heard_ask s_heard_ask
    simp [ltE, fSub, h, keyOf, h1, h3, opE]
    exact givesAt_same h rfl
  · obtain ⟨w, ps, hw, hp, J, hJ⟩ := answer_eq S bd L.pairs hb (by omega)
    have h2 : ¬ L.number < e.heard := by omega
    refine ⟨_, _, .reply w ps (if w = .yes then some L.pairs else none) hL hw hp h1, ?_⟩
    unfold m_heard_ask s_heard_ask
    have hy : (wS w = Str.ofString "yes") = (w = .yes) := by rcases hw with rfl | rfl | rfl <;> simp [wS]
    have q : ∀ (o : Option (List Pk)) J', m_written [.loc n, .str (wS w), .int L.number, prsE ps] (S.set n (.dct (kd { e with heard := L.number, took := o })) ++ J') = some (ltE (ansL e w L.number ps), S.set n (.dct (kd { e with heard := L.number, took := o })) ++ J') :=
      fun o J' => written_eq { e with heard := L.number, took := o } _ n (k2 _ _) _ _ _
    have hLe : ltE L = .tup [sK L.who, .str (wS L.w), .int L.mine, .int L.yours, .int L.number, prsE L.pairs] := rfl
    simp [hLe, fSub, h, keyOf, h1, h2, hJ, k1, isDc, hy]
    by_cases hw2 : w = .yes
    · subst hw2
      simp [fUpd, k1, k3, k2, k4, k5, k6, q, fPut, keyOf]
      exact givesAt_app _ _ _ _ _ _ _ rfl rfl
    · simp [hw2, fUpd, k1, k3, k2, k4, k5, k6, q, fPut, keyOf]
      exact givesAt_app _ _ _ _ _ _ _ rfl rfl
theorem heard_answer_eq (e : En) (S : Sto) (n : Nat) (h : S[n]? = some (.dct (kd e))) (L : Lt) (t : Int) (hs : Small e.wishes) (hk : e.plan.map (·.1) = e.wishes.map (·.k)) (hpl : ∀ q, q ∈ e.plan → q.2.length ≤ 100)
    (hl : L.pairs.length ≤ 10) (hr : e.refused.length ≤ 40) :
    ∃ e2 ls, Word e L t e2 ls ∧ GivesAt (m_heard_answer [.loc n, ltE L, .int t] S) (.lst (ls.map ltE)) S n e2 := by
  obtain ⟨k1, k2, k3, k4, k5, k6, k7⟩ := placed h
  have hLe : ltE L = .tup [sK L.who, .str (wS L.w), .int L.mine, .int L.yours, .int L.number, prsE L.pairs] := rfl
  have hlen : e.plan.length = e.wishes.length := by simpa using congrArg List.length hk
  by_cases h1 : L.number = e.number
  · cases h2 : e.given with
    | some l =>
      refine ⟨e, [], .quiet, ?_⟩
      unfold m_heard_answer s_heard_answer
      simp [hLe, fSub, h, keyOf, h1, fIsNot, h2]
      exact givesAt_same h rfl
    | none =>
      have main : ∃ o, Gives (m_behind [wishesE e.wishes, planE e.plan, .tup [.str (wS L.w), prsE L.pairs]] S) (outE o) S ∧ ∀ pl' rf, o = .plan pl' rf → Refused L.w L.pairs (askOf e.wishes e.plan) e.plan pl' rf := by
        have he : ∀ w, L.w = w → (w = .ask ∨ w = .bye ∨ w = .here ∨ w = .there) → ∃ o, Gives (m_behind [wishesE e.wishes, planE e.plan, .tup [.str (wS L.w), prsE L.pairs]] S) (outE o) S ∧ ∀ pl' rf, o = .plan pl' rf → Refused L.w L.pairs (askOf e.wishes e.plan) e.plan pl' rf := fun w hw hc =>
          ⟨.nothing, behind_else S L.w (hw ▸ hc) e.wishes e.plan L.pairs hs hlen (by omega), fun _ _ z => by cases z⟩
        have hn : (L.w = .no ∨ L.w = .rather) → ∃ o, Gives (m_behind [wishesE e.wishes, planE e.plan, .tup [.str (wS L.w), prsE L.pairs]] S) (outE o) S ∧ ∀ pl' rf, o = .plan pl' rf → Refused L.w L.pairs (askOf e.wishes e.plan) e.plan pl' rf := fun hw => by
          obtain ⟨o, g1, _, g3⟩ := behind_nr S L.w hw e.wishes e.plan L.pairs hs hk (by omega) hpl
          exact ⟨o, g1, g3⟩
        cases hw : L.w
        · rw [← hw]; exact he _ hw (by simp)
        · rw [← hw]; exact he _ hw (by simp)
        · rw [← hw]; exact he _ hw (by simp)
        · rw [← hw]; exact he _ hw (by simp)
        · rcases behind_yes S e.wishes e.plan L.pairs hs hlen (by omega) with g | g
          · exact ⟨_, g, fun _ _ z => by cases z⟩
          · exact ⟨_, g, fun _ _ z => by cases z⟩
        · rw [← hw]; exact hn (.inl hw)
        · rw [← hw]; exact hn (.inr hw)
      obtain ⟨o, ⟨J, hJ⟩, hR⟩ := main
      cases o with
      | nothing =>
        refine ⟨e, [], .quiet, ?_⟩
        unfold m_heard_answer s_heard_answer
        simp [hLe, fSub, h, keyOf, h1, fIsNot, h2, opE, hJ, outE, fIs]
        exact givesAt_sapp h rfl
      | failed k =>
        refine ⟨_, _, .failed, ?_⟩
        have q := shut_eq e (S ++ J) n (k1 J) .failed "failed" rfl true
        unfold m_heard_answer s_heard_answer
        simp [hLe, fSub, h, keyOf, h1, fIsNot, h2, opE, hJ, outE, fIs, isNon, q, k3]
        exact givesAt_app _ _ _ _ _ _ _ rfl rfl
      | agreed a =>
        refine ⟨_, _, .agreed a, ?_⟩
        unfold m_heard_answer s_heard_answer
        simp [hLe, fSub, h, keyOf, h1, fIsNot, h2, opE, hJ, outE, fIs, isNon, fPut, k1, k2, k3, k4, fIxSeq, seqOf, atI, ixN]
        exact givesAt_app _ _ _ _ _ _ _ rfl rfl
      | plan pl' rf =>
        have hR1 := hR pl' rf rfl
        have hrl : rf.length ≤ 10 := Nat.le_trans hR1.2.2.2.1 hl
        obtain ⟨R, s1, s2, s3, s4⟩ := sort_set (e.refused ++ rf) (by simp; omega)
        have hc := fun S' => cat_prs S' e.refused rf (by omega)
        have hpl' : pl'.length = e.wishes.length := by
          obtain ⟨nw, e1, _⟩ := hR1.2.2.2.2.1
          rw [e1, List.length_map, hlen]
        have q := fun J' => ask_written_eq { e with tries := t, plan := pl', refused := R, number := e.number + 1 } (S.set n (.dct (kd { e with tries := t, plan := pl', refused := R, number := e.number + 1 })) ++ J') n (k2 _ _) ⟨hs, hpl'⟩
        have q0 : Val.tup (R.map prE) = prsE R := rfl
        refine ⟨_, _, .plan pl' rf R hR1 s2 s4 (fun p => by rw [s3]; simp), ?_⟩
        unfold m_heard_answer s_heard_answer
        simp [hLe, fSub, h, keyOf, h1, fIsNot, h2, opE, hJ, outE, fIs, isNon, fPut, k1, k2, k3, k4, k6, isDc, hc, s1, fTuple, lstOf, q0, fUpd, mAugD]
        simp only [h2] at q
        simp [q]
        exact givesAt_app _ _ _ _ _ _ _ rfl rfl
  · refine ⟨e, [], .quiet, ?_⟩
    unfold m_heard_answer s_heard_answer
    simp [hLe, fSub, h, keyOf, h1]
    exact givesAt_same h rfl
/-- what an end needs, to hear -/
structure Hears (e : En) : Prop where
  small : Small e.wishes
  kinds : e.plan.map (·.1) = e.wishes.map (·.k)
  lens : ∀ q, q ∈ e.plan → q.2.length ≤ 100
  few : e.refused.length ≤ 40
  last : e.heard = 0 ∨ e.last.isSome = true
theorem heard_word_eq (e : En) (S : Sto) (n : Nat) (h : S[n]? = some (.dct (kd e))) (g : Hears e) (L : Lt) (bd : List Pl) (t : Int) (hn : L.w = .ask → 1 ≤ L.number) (hb : ∀ q, q ∈ bd → q.2 ≠ []) (hl : L.pairs.length ≤ 10) :
    ∃ e2 ls, Word e L t e2 ls ∧ GivesAt (m_heard_word [.loc n, ltE L, planE bd, .int t] S) (.lst (ls.map ltE)) S n e2 := by
  obtain ⟨k1, k2, k3, k4, k5, k6, k7⟩ := placed h
  have hf : ∀ S', fSub S' (ltE L) (.int 1) = some (.str (wS L.w), S') := fun S' => by simp [ltE, fSub, fIxSeq, seqOf, atI, ixN]
  cases hw : L.w with
  | ask =>
    obtain ⟨e2, ls, h1, J, h2⟩ := heard_ask_eq e S n h L bd t hw (hn hw) g.last hb (by omega)
    refine ⟨e2, ls, h1, J, ?_⟩
    unfold m_heard_word s_heard_word
    simp [hf, hw, wS, h2]
  | bye =>
    have q := shut_eq e S n h .bye "bye" rfl false
    refine ⟨_, _, .bye, ?_⟩
    unfold m_heard_word s_heard_word
    simp [hf, hw, wS, q]
    exact givesAt_app _ _ _ _ _ _ _ rfl rfl
  | here =>
    have q : m_written [.loc n, .str "there", .int 0, .tup []] S = some (ltE (ansL e .there 0 []), S) := written_eq e S n h "there" (.int 0) (.tup [])
    refine ⟨_, _, .there, ?_⟩
    unfold m_heard_word s_heard_word
    simp [hf, hw, wS, q]
    exact givesAt_same h rfl
  | there =>
    refine ⟨_, _, .tries, ?_⟩
    unfold m_heard_word s_heard_word
    simp [hf, hw, wS, fPut, h, keyOf]
    exact givesAt_id _ _ _ _ _ _ rfl rfl
  | yes =>
    obtain ⟨e2, ls, h1, J, h2⟩ := heard_answer_eq e S n h L t g.small g.kinds g.lens hl g.few
    refine ⟨e2, ls, h1, J, ?_⟩
    unfold m_heard_word s_heard_word
    simp [hf, hw, wS, h2]
  | no =>
    obtain ⟨e2, ls, h1, J, h2⟩ := heard_answer_eq e S n h L t g.small g.kinds g.lens hl g.few
    refine ⟨e2, ls, h1, J, ?_⟩
    unfold m_heard_word s_heard_word
    simp [hf, hw, wS, h2]
  | rather =>
    obtain ⟨e2, ls, h1, J, h2⟩ := heard_answer_eq e S n h L t g.small g.kinds g.lens hl g.few
    refine ⟨e2, ls, h1, J, ?_⟩
    unfold m_heard_word s_heard_word
    simp [hf, hw, wS, h2]
def En.saw (e : En) (m t : Int) : En := { e with yours := m }.begun t
def backL (e : En) (L : Lt) : Lt := ⟨e.name, .bye, L.yours, L.mine, 0, []⟩
inductive Heard (e : En) (L : Lt) (t : Int) : En → List Lt → Prop where
  | shut : e.stand = .closed → Heard e L t e []
  | back : e.stand = .closed → Heard e L t e [backL e L]
  | old : e.stand ≠ .closed → L.mine ≤ e.yours → Heard e L t (settled e) []
  | word (e2 : En) (ls : List Lt) : e.stand ≠ .closed → L.mine = e.yours → L.yours = e.turn → Word e L t e2 ls → Heard e L t (settled e2) ls
  | begins : e.stand ≠ .closed → e.yours < L.mine → Heard e L t (settled (e.saw L.mine t)) [askL (e.saw L.mine t)]
  | beginsWord (e2 : En) (ls : List Lt) : e.stand ≠ .closed → e.yours < L.mine → L.yours = e.turn → Word (e.saw L.mine t) L t e2 ls → Heard e L t (settled e2) (askL (e.saw L.mine t) :: ls)
theorem leftOf_len (k : Kd) (ws : List Int) (rf : List Pk) : (leftOf k ws rf).length ≤ ws.length := by
  unfold leftOf
  split
  · simp
  · exact List.length_filter_le _ _
theorem word_len {e e2 : En} {L : Lt} {t : Int} {ls : List Lt} (h : Word e L t e2 ls) : ls.length ≤ 1 := by cases h <;> simp
theorem settled_closed {e : En} (h : e.stand = .closed) : settled e = e := by unfold settled; rw [if_pos h]
theorem heard_closed_eq (e : En) (S : Sto) (n : Nat) (h : S[n]? = some (.dct (kd e))) (L : Lt) (hc : e.stand = .closed) (t : Int) :
    ∃ ls, Heard e L t e ls ∧ m_heard_closed [.loc n, ltE L] S = some (.lst (ls.map ltE), S) := by
  have hLe : ltE L = .tup [sK L.who, .str (wS L.w), .int L.mine, .int L.yours, .int L.number, prsE L.pairs] := rfl
  have hby : (wS L.w = Str.ofString "bye") = (L.w = .bye) := by cases L.w <;> simp [wS]
  have q : m_letter_back [.tup [sK L.who, .str (wS L.w), .int L.mine, .int L.yours, .int L.number, prsE L.pairs], sK e.name] S = some (ltE (backL e L), S) := by
    unfold m_letter_back s_letter_back
    simp
    rfl
  by_cases h1 : L.yours = 0
  · refine ⟨[], .shut hc, ?_⟩
    unfold m_heard_closed s_heard_closed
    simp [hLe, h1]
  by_cases h2 : L.yours = e.turn
  · by_cases h3 : L.w = .bye
    · refine ⟨[], .shut hc, ?_⟩
      have h4 : wS Wd.bye = Str.ofString "bye" := rfl
      unfold m_heard_closed s_heard_closed
      have h5 : ¬ e.turn = 0 := fun z => h1 (h2.trans z)
      simp [hLe, h5, h2, h3, fSub, h, keyOf, h4]
    · refine ⟨[backL e L], .back hc, ?_⟩
      unfold m_heard_closed s_heard_closed
      have h5 : ¬ e.turn = 0 := fun z => h1 (h2.trans z)
      rw [h2] at q
      simp [hLe, h5, h2, h3, fSub, h, keyOf, hby, q]
  · refine ⟨[], .shut hc, ?_⟩
    unfold m_heard_closed s_heard_closed
    simp [hLe, h1, h2, fSub, h, keyOf]
theorem heard_eq (e : En) (S : Sto) (g : Small e.wishes) (g2 : e.stand ≠ .closed → Hears e) (L : Lt) (bd : List Pl) (t : Int) (hne : L.who ≠ e.name) (hn : L.w = .ask → 1 ≤ L.number) (hb : ∀ q, q ∈ bd → q.2 ≠ []) (hl : L.pairs.length ≤ 10) :
    ∃ e2 ls, Heard e L t e2 ls ∧ Gives (m_heard [enE e, ltE L, planE bd, .int t] S) (.tup [enE e2, .lst (ls.map ltE)]) S := by
  have q1 := known_of_eq e S
  have hLe : ltE L = .tup [sK L.who, .str (wS L.w), .int L.mine, .int L.yours, .int L.number, prsE L.pairs] := rfl
  by_cases hc : e.stand = .closed
  · obtain ⟨ls, h1, h2⟩ := heard_closed_eq e (S ++ [.dct (kd e)]) S.length (by simp) L hc t
    refine ⟨e, ls, h1, ?_⟩
    rw [hLe] at h2
    unfold m_heard s_heard
    simp [q1, hLe, fSub, keyOf, hne, hc, sdS, h2]
  have G := g2 hc
  by_cases hm : e.yours < L.mine
  · have gb : Hears (e.saw L.mine t) := ⟨g, by simp [En.saw, En.begun, planOf], fun q hq => by
      obtain ⟨v, hv, rfl⟩ := List.mem_map.mp hq
      have := g.2 v hv
      exact Nat.le_trans (leftOf_len v.k v.ws []) this, by simp [En.saw, En.begun], .inl rfl⟩
    obtain ⟨j1, j2, j3, hx⟩ : ∃ j1 j2 j3, m_begin [.loc S.length, .int t] (S ++ [.dct (kd { e with yours := L.mine }), .lst []]) = some (.loc (S.length + 5), S ++ [.dct (kd (e.saw L.mine t)), .lst [], j1, j2, j3, .lst [ltE (askL (e.saw L.mine t))]]) := by
      have hx0 := begin_eq { e with yours := L.mine } (S ++ [.dct (kd { e with yours := L.mine }), .lst []]) S.length (by simp) g t
      simp [Nat.add_assoc] at hx0
      exact ⟨_, _, _, hx0⟩
    have y1 : (e.saw L.mine t).yours = L.mine := rfl
    have y2 : (e.saw L.mine t).turn = e.turn := rfl
    by_cases hy : L.yours = e.turn
    · obtain ⟨e2, ls, w1, J, w2⟩ := heard_word_eq (e.saw L.mine t) (S ++ [.dct (kd (e.saw L.mine t)), .lst [], j1, j2, j3, .lst [ltE (askL (e.saw L.mine t))]]) S.length (by simp) gb L bd t hn hb hl
      refine ⟨_, _, .beginsWord e2 ls hc hm hy w1, ?_⟩
      have wl := word_len w1
      have wl2 : 1 + ls.length ≤ 100000 := by omega
      rw [hLe] at w2
      have q2 := as_end_eq e2 (S ++ .dct (kd e2) :: .lst [] :: j1 :: j2 :: j3 :: .lst (ltE (askL (e.saw L.mine t)) :: ls.map ltE) :: J) S.length (by simp)
      simp at w2
      unfold m_heard s_heard
      simp [q1, hLe, fSub, keyOf, hne, Sd_str, hc, hm, fPut, hx, y1, y2, hy, isL, lstOf]
      rw [hy] at w2
      simp [w2, fExtend, lstOf, wl2, q2]
    · refine ⟨_, _, .begins hc hm, ?_⟩
      have q2 := as_end_eq (e.saw L.mine t) (S ++ [.dct (kd (e.saw L.mine t)), .lst [], j1, j2, j3, .lst [ltE (askL (e.saw L.mine t))]]) S.length (by simp)
      unfold m_heard s_heard
      simp [q1, hLe, fSub, keyOf, hne, Sd_str, hc, hm, fPut, hx, hy, y1, y2, q2]
  · by_cases hy : L.mine = e.yours ∧ L.yours = e.turn
    · obtain ⟨e2, ls, w1, J, w2⟩ := heard_word_eq e (S ++ [.dct (kd e), .lst []]) S.length (by simp) G L bd t hn hb hl
      refine ⟨_, _, .word e2 ls hc hy.1 hy.2 w1, ?_⟩
      have wl := word_len w1
      have wl2 : ls.length ≤ 100000 := by omega
      have q2 := as_end_eq e2 (S ++ .dct (kd e2) :: .lst (ls.map ltE) :: J) S.length (by simp)
      rw [hLe] at w2
      simp at w2
      rw [hy.1, hy.2] at w2
      unfold m_heard s_heard
      simp [q1, hLe, fSub, keyOf, hne, Sd_str, hc, hm, hy.1, hy.2, isL, lstOf, w2, fExtend, wl2, q2]
    · refine ⟨_, _, .old hc (by omega), ?_⟩
      have q2 := as_end_eq e (S ++ [.dct (kd e), .lst []]) S.length (by simp)
      unfold m_heard s_heard
      have hy' : (if L.mine = e.yours then L.yours = e.turn else False) = False := by
        by_cases z : L.mine = e.yours
        · simp [z]
          exact fun z2 => hy ⟨z, z2⟩
        · simp [z]
      by_cases z : L.mine = e.yours
      · have z2 : ¬ L.yours = e.turn := fun z2 => hy ⟨z, z2⟩
        simp [q1, hLe, fSub, keyOf, hne, Sd_str, hc, hm, z, z2, q2]
      · simp [q1, hLe, fSub, keyOf, hne, Sd_str, hc, hm, z, q2]
end Cw
end
section
/-! CwP9: the pen. -/
namespace Cw
open PySem PySem.Spec PyProof.Rows L2
def penD (cs : List Int) (a l : Int) : List (Key × Val) := [(.inr "cells", .lst (cs.map .int)), (.inr "at", .int a), (.inr "left", .int l)]
@[simp] theorem pen_g1 (cs : List Int) (a l : Int) : gK (penD cs a l) (.inr "cells") = some (.lst (cs.map .int)) := by simp [gK, penD]
@[simp] theorem pen_g2 (cs : List Int) (a l : Int) : gK (penD cs a l) (.inr "at") = some (.int a) := by simp [gK, penD]
@[simp] theorem pen_g3 (cs : List Int) (a l : Int) : gK (penD cs a l) (.inr "left") = some (.int l) := by simp [gK, penD]
@[simp] theorem pen_p2 (cs : List Int) (a l x : Int) : pK (penD cs a l) (.inr "at") (.int x) = penD cs x l := by simp [pK, penD]
@[simp] theorem pen_p3 (cs : List Int) (a l x : Int) : pK (penD cs a l) (.inr "left") (.int x) = penD cs a x := by simp [pK, penD]
@[simp] theorem pen_len (cs : List Int) (a l : Int) : (penD cs a l).length = 3 := rfl
theorem r_mul (S : Sto) (i j : Int) (h : mulOk i j = true) : fMulI S (.int i) (.int j) = some (.int (i * j), S) := by simp [fMulI, fI, h]
theorem r_mod (S : Sto) (i j : Int) (h : 0 < j) : fModI S (.int i) (.int j) = some (.int (i % j), S) := by simp [fModI, fI, modOk, h]
theorem r_div (S : Sto) (i j : Int) (h : 0 < j) (h2 : j < 1073741824) : fDivI S (.int i) (.int j) = some (.int (i / j), S) := by simp [fDivI, fI, divOk, h, h2]
theorem r_pow (S : Sto) (i : Int) (j : Nat) (h : i.natAbs < 2 ^ 64) (h2 : j ≤ 1000) : fPowI S (.int i) (.int j) = some (.int (i ^ j), S) := by
  have : powOk i j = true := by
    unfold powOk
    rw [decide_eq_true]
    exact ⟨by omega, by omega, h⟩
  simp [fPowI, fI, this]
structure Pen (S : Sto) (p : Nat) (c : Nat) (cs : List Int) (a l : Int) : Prop where
  here : S[p]? = some (.dct (penD cs a l))
  few : cs.length ≤ 63
  a0 : 0 ≤ a
  a1 : a ≤ c
  l0 : 0 ≤ l
theorem fNe_ints0 (S : Sto) (cs : List Int) : fNe S (.lst (cs.map .int)) (.lst []) = some (.bl (!decide (cs = [])), S) := by
  have e : vEq (.lst (cs.map .int)) (.lst ([].map .int)) = decide (cs = []) := faith_lst faith_int cs []
  have h0 : okV (.lst []) = true := by decide
  unfold fNe
  rw [if_pos ⟨(okN_mapL okN_int cs).ok, h0⟩]
  simp only [List.map_nil] at e
  show some (Val.bl (!vEq (.lst (cs.map .int)) (.lst [])), S) = _
  rw [e]
def intB (b : Bool) : Int := if b = true then 1 else 0
def inkOf (a cell : Int) : Int := ((cell % 2147483563 + 70997 * a + 79) ^ 5 % 2147483647 * (a + 65539) + 85009 * a * a) ^ 3 % 2147483399 / 32
theorem draw_eq (S : Sto) (p c : Nat) (cs : List Int) (a l : Int) (h : Pen S p c cs a l) (hc : c ≤ 100000) (m : Int) (hm : 0 < m) (hm2 : m < 1000000) :
    ∃ r a' l', m_law_draw [.loc p, .int m] S = some (.int r, S.set p (.dct (penD cs a' l'))) ∧ 0 ≤ r ∧ r < m ∧ 0 ≤ a' ∧ a' ≤ ((c + 1 : Nat) : Int) ∧ 0 ≤ l' := by
  have hh := h.here
  obtain ⟨k1, k2, k3, k4, k5, k6, k7⟩ := placed hh
  have k8 : ∀ o o', (S.set p o).set p o' = S.set p o' := fun o o' => List.set_set ..
  have hm3 : m < 1073741824 := by omega
  have ha := h.a0
  have ha1 := h.a1
  have hl := h.l0
  have hfew := h.few
  by_cases h1 : 0 < l
  · refine ⟨l % m, a, l / m, ?_, Int.emod_nonneg _ (by omega), Int.emod_lt_of_pos _ hm, ha, by omega, Int.ediv_nonneg hl (by omega)⟩
    unfold m_law_draw s_law_draw
    simp [fSub, hh, keyOf, h1, r_mod _ _ _ hm, r_div _ _ _ hm hm3, fPut]
  · have p18 : ∀ S', fPowI S' (.int 10) (.int 18) = some (.int (10 ^ 18), S') := fun S' => r_pow S' 10 18 (by decide) (by decide)
    have m1 : ∀ S', fMulI S' (.int 1951) (.int a) = some (.int (1951 * a), S') := fun S' => r_mul _ _ _ (by unfold mulOk; rw [decide_eq_true]; left; decide)
    have m2 : ∀ S', fMulI S' (.int 70997) (.int a) = some (.int (70997 * a), S') := fun S' => r_mul _ _ _ (by unfold mulOk; rw [decide_eq_true]; left; decide)
    have m3 : ∀ S', fMulI S' (.int 85009) (.int a) = some (.int (85009 * a), S') := fun S' => r_mul _ _ _ (by unfold mulOk; rw [decide_eq_true]; left; decide)
    have m4 : ∀ S', fMulI S' (.int (85009 * a)) (.int a) = some (.int (85009 * a * a), S') := fun S' => r_mul _ _ _ (by unfold mulOk; rw [decide_eq_true]; right; omega)
    have m5 : ∀ S' x, fMulI S' (.int x) (.int (a + 65539)) = some (.int (x * (a + 65539)), S') := fun S' x => r_mul _ _ _ (by unfold mulOk; rw [decide_eq_true]; right; omega)
    have m6 : ∀ S' x, fMulI S' (.int 2) (.int x) = some (.int (2 * x), S') := fun S' x => r_mul _ _ _ (by unfold mulOk; rw [decide_eq_true]; left; decide)
    have haa : 0 ≤ a * a := Int.mul_nonneg ha ha
    have haa2 : a * a ≤ 100000 * 100000 := Int.mul_le_mul (by omega) (by omega) ha (by omega)
    have p5 : ∀ S' cell, fPowI S' (.int (cell % 2147483563 + 70997 * a + 79)) (.int 5) = some (.int ((cell % 2147483563 + 70997 * a + 79) ^ 5), S') := fun S' cell => r_pow S' _ 5 (by
      have b1 := Int.emod_nonneg cell (show (2147483563 : Int) ≠ 0 by decide)
      have b2 := Int.emod_lt_of_pos cell (show (0 : Int) < 2147483563 by decide)
      omega) (by decide)
    have p3 : ∀ S' one, 0 ≤ one → one < 2147483647 → fPowI S' (.int (one * (a + 65539) + 85009 * a * a)) (.int 3) = some (.int ((one * (a + 65539) + 85009 * a * a) ^ 3), S') := fun S' one o1 o2 => r_pow S' _ 3 (by
      have c1 : 0 ≤ one * (a + 65539) := Int.mul_nonneg o1 (by omega)
      have c2 : one * (a + 65539) ≤ 2147483647 * 200000 := Int.mul_le_mul (by omega) (by omega) (by omega) (by decide)
      have c3 : 85009 * a * a = 85009 * (a * a) := Int.mul_assoc ..
      rw [c3]
      omega) (by decide)
    have e1 : ∀ S' x, fModI S' (.int x) (.int 2147483563) = some (.int (x % 2147483563), S') := fun S' x => r_mod _ _ _ (by decide)
    have e2 : ∀ S' x, fModI S' (.int x) (.int 2147483647) = some (.int (x % 2147483647), S') := fun S' x => r_mod _ _ _ (by decide)
    have e3 : ∀ S' x, fModI S' (.int x) (.int 2147483399) = some (.int (x % 2147483399), S') := fun S' x => r_mod _ _ _ (by decide)
    have e4 : ∀ S' x, fDivI S' (.int x) (.int 32) = some (.int (x / 32), S') := fun S' x => r_div _ _ _ (by decide) (by decide)
    have p3' : ∀ S' y, fPowI S' (.int (y % 2147483647 * (a + 65539) + 85009 * a * a)) (.int 3) = some (.int ((y % 2147483647 * (a + 65539) + 85009 * a * a) ^ 3), S') := fun S' y => p3 S' _ (Int.emod_nonneg _ (by decide)) (Int.emod_lt_of_pos _ (by decide))
    by_cases hcs : cs = []
    · subst hcs
      refine ⟨inkOf a (1951 * a + 701) % m, a + 1, l, ?_, Int.emod_nonneg _ (by omega), Int.emod_lt_of_pos _ hm, by omega, by omega, hl⟩
      · unfold m_law_draw s_law_draw
        have z : ¬ a < 0 := by omega
        have q := fNe_ints0
        have q' := fun S' => fNe_ints0 S' []
        simp at q'
        simp [fSub, hh, keyOf, h1, r_mod _ _ _ hm, r_div _ _ _ hm hm3, fPut, k5, m1, m2, m3, m4, m5, m6, p18, p5, p3', e1, e2, e3, e4, q', fLen, seqOf, z, inkOf]
    · have hlen : 0 < cs.length := List.length_pos_iff.mpr hcs
      have i1 : 0 ≤ a % cs.length := Int.emod_nonneg _ (by omega)
      have i2 : a % cs.length < cs.length := Int.emod_lt_of_pos _ (by omega)
      obtain ⟨i, hi⟩ := Int.eq_ofNat_of_zero_le i1
      have i3 : i < cs.length := by omega
      have hat : atI (cs.map Val.int) (a % cs.length) = some (.int cs[i]) := by
        rw [hi]
        exact atI_nat (v := Val.int cs[i]) (by rw [List.getElem?_map, List.getElem?_eq_getElem i3]; rfl)
      have hmod : ∀ S', fModI S' (.int a) (.int cs.length) = some (.int (a % cs.length), S') := fun S' => r_mod _ _ _ (by omega)
      have q := fun S' => fNe_ints0 S' cs
      generalize cs[i] = cell at hat
      have hin : ∀ b : Bool, intB b = 0 ∨ intB b = 1 := fun b => by cases b <;> simp [intB]
      by_cases h2 : a < cs.length
      · by_cases h3 : 10 ^ 18 ≤ (if cell < 0 then -cell else cell)
        · refine ⟨(2 * (if cell < 0 then -cell else cell) + intB (decide (cell < 0))) % m, a + 1, (2 * (if cell < 0 then -cell else cell) + intB (decide (cell < 0))) / m, ?_, Int.emod_nonneg _ (by omega), Int.emod_lt_of_pos _ hm, by omega, by omega, Int.ediv_nonneg (by
            rcases hin (decide (cell < 0)) with z | z <;> rw [z] <;> omega) (by omega)⟩
          have h3' := h3
          rw [show ((10 : Int) ^ 18) = 1000000000000000000 by decide] at h3'
          unfold m_law_draw s_law_draw
          simp [fSub, hh, keyOf, h1, r_mod _ _ _ hm, r_div _ _ _ hm hm3, fPut, k5, m1, m2, m3, m4, m5, m6, p18, p5, p3', e1, e2, e3, e4, q, fLen, seqOf, hcs, hmod, fIxSeq, hat, fAbs, h2, h3', fInt, intB]
        · refine ⟨inkOf a cell % m, a + 1, l, ?_, Int.emod_nonneg _ (by omega), Int.emod_lt_of_pos _ hm, by omega, by omega, hl⟩
          have h3' := h3
          rw [show ((10 : Int) ^ 18) = 1000000000000000000 by decide] at h3'
          unfold m_law_draw s_law_draw
          simp [fSub, hh, keyOf, h1, r_mod _ _ _ hm, r_div _ _ _ hm hm3, fPut, k5, m1, m2, m3, m4, m5, m6, p18, p5, p3', e1, e2, e3, e4, q, fLen, seqOf, hcs, hmod, fIxSeq, hat, fAbs, h2, h3', fInt, inkOf]
      · refine ⟨inkOf a cell % m, a + 1, l, ?_, Int.emod_nonneg _ (by omega), Int.emod_lt_of_pos _ hm, by omega, by omega, hl⟩
        unfold m_law_draw s_law_draw
        simp [fSub, hh, keyOf, h1, r_mod _ _ _ hm, r_div _ _ _ hm hm3, fPut, k5, m1, m2, m3, m4, m5, m6, p18, p5, p3', e1, e2, e3, e4, q, fLen, seqOf, hcs, hmod, fIxSeq, hat, h2, inkOf]
/-- a store after a step that touches the place p alone and adds -/
structure Fr (S S' : Sto) (p : Nat) : Prop where
  len : S.length ≤ S'.length
  same : ∀ i, i < S.length → i ≠ p → S'[i]? = S[i]?
theorem Fr.refl (S : Sto) (p : Nat) : Fr S S p := ⟨Nat.le_refl _, fun _ _ _ => rfl⟩
theorem Fr.trans {S S' S'' : Sto} {p : Nat} (a : Fr S S' p) (b : Fr S' S'' p) : Fr S S'' p :=
  ⟨Nat.le_trans a.len b.len, fun i h n => by rw [b.same i (Nat.lt_of_lt_of_le h a.len) n, a.same i h n]⟩
theorem fr_app (S J : Sto) (p : Nat) : Fr S (S ++ J) p := ⟨by simp, fun i h _ => List.getElem?_append_left h⟩
theorem fr_set (S : Sto) (p : Nat) (o : Ob) : Fr S (S.set p o) p := ⟨by simp, fun i _ n => List.getElem?_set_ne n.symm⟩
/-- the pen at p has drawn c times at most -/
def Pn (S : Sto) (p c : Nat) : Prop := ∃ cs a l, Pen S p c cs a l
theorem Pn.lt {S : Sto} {p c : Nat} (h : Pn S p c) : p < S.length := by
  obtain ⟨cs, a, l, h⟩ := h
  exact (List.getElem?_eq_some_iff.mp h.here).1
theorem Pn.app {S : Sto} {p c : Nat} (h : Pn S p c) (J : Sto) : Pn (S ++ J) p c := by
  have hl := h.lt
  obtain ⟨cs, a, l, h⟩ := h
  exact ⟨cs, a, l, by rw [List.getElem?_append_left hl, h.here], h.few, h.a0, h.a1, h.l0⟩
theorem Pn.put {S : Sto} {p c n : Nat} {o : Ob} (h : Pn S p c) (hn : n ≠ p) : Pn (S.set n o) p c := by
  obtain ⟨cs, a, l, h⟩ := h
  exact ⟨cs, a, l, by rw [List.getElem?_set_ne hn, h.here], h.few, h.a0, h.a1, h.l0⟩
theorem Pn.more {S : Sto} {p c d : Nat} (h : Pn S p c) (e : c ≤ d) : Pn S p d := by
  obtain ⟨cs, a, l, h⟩ := h
  exact ⟨cs, a, l, h.here, h.few, h.a0, by have := h.a1; omega, h.l0⟩
theorem draw {S : Sto} {p c : Nat} (h : Pn S p c) (hc : c ≤ 100000) (m : Int) (hm : 0 < m) (hm2 : m < 1000000) :
    ∃ (r : Nat) (o : Ob), m_law_draw [.loc p, .int m] S = some (.int (r : Int), S.set p o) ∧ (r : Int) < m ∧ Pn (S.set p o) p (c + 1) := by
  have hl := h.lt
  obtain ⟨cs, a, l, h⟩ := h
  obtain ⟨r, a', l', h1, h2, h3, h4, h5, h6⟩ := draw_eq S p c cs a l h hc m hm hm2
  obtain ⟨r, rfl⟩ := Int.eq_ofNat_of_zero_le h2
  exact ⟨r, _, h1, h3, cs, a', l', by rw [List.getElem?_set_self hl], h.few, h4, h5, h6⟩
end Cw
end
section
/-! CwP10: kinds and worths drawn. -/
namespace Cw
open PySem PySem.Spec PyProof.Rows L2
theorem ixN_nat {n r : Nat} (h : r < n) : ixN n (r : Int) = some r := by
  unfold ixN
  simp
  omega
theorem erase_map {α β : Type} (f : α → β) : ∀ (xs : List α) (r : Nat), (xs.map f).eraseIdx r = (xs.eraseIdx r).map f
  | [], _ => rfl
  | x :: xs, 0 => rfl
  | x :: xs, r + 1 => by simp [List.eraseIdx_cons_succ, erase_map f xs r]
theorem erase_perm {α : Type} : ∀ {xs : List α} {r : Nat} (h : r < xs.length), (xs[r] :: xs.eraseIdx r).Perm xs
  | [], _, h => absurd h (Nat.not_lt_zero _)
  | x :: xs, 0, h => List.Perm.refl _
  | x :: xs, r + 1, h => by
    have hr : r < xs.length := by simpa using h
    have ih := erase_perm (xs := xs) (r := r) hr
    simp only [List.getElem_cons_succ, List.eraseIdx_cons_succ]
    exact (List.Perm.swap x xs[r] _).trans (List.Perm.cons x ih)
theorem pop_at {α : Type} (f : α → Val) {S : Sto} {n : Nat} {xs : List α} (h : S[n]? = some (.lst (xs.map f))) {r : Nat} (hr : r < xs.length) (hl : xs.length ≤ 100000) :
    fPopAt S (.loc n) [.int (r : Int)] = some (f xs[r], S.set n (.lst ((xs.eraseIdx r).map f))) := by
  unfold fPopAt
  have e : (xs.map f)[r]? = some (f xs[r]) := by rw [List.getElem?_map, List.getElem?_eq_getElem hr]; rfl
  have e2 : (xs.map f).eraseIdx r = (xs.eraseIdx r).map f := erase_map f xs r
  simp only [h, List.length_map, ixN_nat hr, Option.bind_some, e, hl, if_true, e2]
/-- two places alone -/
def Only (S S' : Sto) (p n : Nat) : Prop := S'.length = S.length ∧ ∀ i, i ≠ p → i ≠ n → S'[i]? = S[i]?
theorem only_refl (S : Sto) (p n : Nat) : Only S S p n := ⟨rfl, fun _ _ _ => rfl⟩
theorem Only.trans {S S' S'' : Sto} {p n : Nat} (a : Only S S' p n) (b : Only S' S'' p n) : Only S S'' p n := ⟨b.1.trans a.1, fun i h1 h2 => (b.2 i h1 h2).trans (a.2 i h1 h2)⟩
theorem only_two (S : Sto) (p n : Nat) (o o' : Ob) : Only S ((S.set p o).set n o') p n := ⟨by simp, fun i h1 h2 => by rw [List.getElem?_set_ne (Ne.symm h2), List.getElem?_set_ne (Ne.symm h1)]⟩
abbrev kindsBody : M := mMeth fPopAt (mVar 2) (mCons (mCallF 2 m_law_draw [] (mCons (mVar 0) (mCons (mCall fLen (mCons (mVar 2) (mNil))) (mNil)))) (mNil))
theorem kinds_go (p n : Nat) (hn : n ≠ p) (v1 : Option Val) : ∀ (vs : List Val) (S : Sto) (ks : List Kd) (c : Nat), S[n]? = some (.lst (ks.map sK)) → Pn S p c → vs.length ≤ ks.length → ks.length ≤ 1000 → c + vs.length ≤ 100000 →
    ∃ (got rest : List Kd) (S' : Sto), lcGo (mName 3) mYes kindsBody [some (.loc p), v1, some (.loc n), none] vs S = some (got.map sK, S') ∧ got.length = vs.length ∧ (got ++ rest).Perm ks ∧ Only S S' p n ∧ Pn S' p (c + vs.length)
  | [], S, ks, c, h, hp, _, _, _ => ⟨[], ks, S, rfl, rfl, List.Perm.refl _, only_refl S p n, hp⟩
  | v :: vs, S, ks, c, h, hp, h1, h2, h3 => by
    simp only [List.length_cons] at h1 h3
    obtain ⟨r, o, d1, d2, d3⟩ := draw hp (by omega) (ks.length : Int) (by omega) (by omega)
    have hr : r < ks.length := by omega
    have g1 : (S.set p o)[n]? = some (.lst (ks.map sK)) := by rw [List.getElem?_set_ne (Ne.symm hn), h]
    have g2 := pop_at sK g1 hr (by omega)
    have hnl : n < S.length := (List.getElem?_eq_some_iff.mp h).1
    have g3 : ((S.set p o).set n (.lst ((ks.eraseIdx r).map sK)))[n]? = some (.lst ((ks.eraseIdx r).map sK)) := List.getElem?_set_self (by simpa using hnl)
    obtain ⟨got, rest, S', i1, i2, i3, i4, i5⟩ := kinds_go p n hn v1 vs _ (ks.eraseIdx r) (c + 1) g3 (d3.put hn) (by rw [List.length_eraseIdx_of_lt hr]; omega) (by rw [List.length_eraseIdx_of_lt hr]; omega) (by omega)
    refine ⟨ks[r] :: got, rest, S', ?_, by simp [i2], ?_, (only_two S p n _ _).trans i4, ?_⟩
    · simp [lcGo, isL, lstOf, h, fLen, seqOf, d1, g2, i1]
    · exact (List.Perm.cons _ i3).trans (erase_perm hr)
    · simp only [List.length_cons]
      have e : c + (vs.length + 1) = c + 1 + vs.length := by omega
      rw [e]
      exact i5
def allK : List Kd := [0, 1, 2, 3, 4, 5, 6, 7, 8, 9, 10, 11]
theorem only_fr {S S' J : Sto} {p n : Nat} (h : Only (S ++ J) S' p n) (hn : S.length ≤ n) : Fr S S' p :=
  ⟨by rw [h.1]; simp, fun i h1 h2 => by rw [h.2 i h2 (by omega), List.getElem?_append_left h1]⟩
theorem len_ints (k : Nat) : (intsV k).length = k := by simp [intsV]
theorem range_at {a : MG (List Val)} {ρ : Env'} {S S' : Sto} {k : Nat} (h : a ρ S = some ([.int (k : Int)], S')) (hk : k ≤ 100000) : mRange a ρ S = some (intsV k, S') := by
  have h3 : -(2 ^ 62) ≤ (k : Int) ∧ (k : Int) < 2 ^ 62 := ⟨by omega, by omega⟩
  unfold mRange
  rw [h, Option.bind_some]
  dsimp only
  rw [if_pos h3]
  rw [Int.toNat_natCast]
theorem then_nx {a b : MS} {ρ ρ' : Env'} {S S' : Sto} (h : a ρ S = some (.nx ρ' S')) : mThen a b ρ S = b ρ' S' := by rw [s_mThen, h]; rfl
theorem then_rt {a b : MS} {ρ : Env'} {S S' : Sto} {v : Val} (h : a ρ S = some (.rt v S')) : mThen a b ρ S = some (.rt v S') := by rw [s_mThen, h]; rfl
theorem asg_of {m : M} {g : MT} {ρ ρ' : Env'} {S S1 S' : Sto} {v : Val} (h : m ρ S = some (v, S1)) (h2 : g v ρ S1 = some (ρ', S')) : mAsg m g ρ S = some (.nx ρ' S') := by
  rw [s_mAsg, h, Option.bind_some, h2]; rfl
theorem drop_of {m : M} {ρ : Env'} {S S' : Sto} {v : Val} (h : m ρ S = some (v, S')) : mDrop m ρ S = some (.nx ρ S') := by rw [s_mDrop, h]; rfl
theorem ret_of {m : M} {ρ : Env'} {S S' : Sto} {v : Val} (h : m ρ S = some (v, S')) : mRet m ρ S = some (.rt v S') := by rw [s_mRet, h]; rfl
theorem ifs_of {c : MG Bool} {a b : MS} {ρ : Env'} {S S1 : Sto} {x : Bool} (h : c ρ S = some (x, S1)) : mIfS c a b ρ S = if x = true then a ρ S1 else b ρ S1 := by rw [s_mIfS, h]; rfl
theorem lc_of {mi : MG (List Val)} {mg : MT} {mt : MG Bool} {me : M} {own : List Nat} {ρ : Env'} {S S1 S2 : Sto} {vs ws : List Val} (h : mi ρ S = some (vs, S1)) (hl : vs.length ≤ 100000) (h2 : lcGo mg mt me (wipeE ρ own) vs S1 = some (ws, S2)) : mLc mi mg mt me own ρ S = some (.lst ws, S2) := by
  rw [s_mLc, h, Option.bind_some, if_pos hl, h2]; rfl
theorem for_of {mi : MG (List Val)} {g : MT} {b : MS} {ρ : Env'} {S S1 : Sto} {vs : List Val} {r : Option Res} (h : mi ρ S = some (vs, S1)) (h2 : forGo g b vs ρ S1 = r) : mFor mi g b ρ S = r := by
  rw [s_mFor, h, Option.bind_some, h2]
theorem body_of {N : Nat} {ms : MS} {as : List Val} {S S' : Sto} {v : Val} (h : ms (startE N as) S = some (.rt v S')) : mBody N ms as S = some (v, S') := by
  rw [s_mBody, h]; rfl
theorem body_nx {N : Nat} {ms : MS} {as : List Val} {ρ : Env'} {S S' : Sto} (h : ms (startE N as) S = some (.nx ρ S')) : mBody N ms as S = some (.non, S') := by
  rw [s_mBody, h]; rfl
abbrev drawM (x y : M) : M := mCallF 2 m_law_draw [] (mCons x (mCons y mNil))
def kindsL : M := mLstN (mCons (mC (.str "a")) (mCons (mC (.str "aa")) (mCons (mC (.str "b")) (mCons (mC (.str "ba")) (mCons (mC (.str "c")) (mCons (mC (.str "k")) (mCons (mC (.str "l")) (mCons (mC (.str "o")) (mCons (mC (.str "zz")) (mCons (mC (.str "zzzzzzzz")) (mCons (mC (.str "m")) (mCons (mC (.str "ma")) (mNil)))))))))))))
theorem kindsL_eq (ρ : Env') (S : Sto) : kindsL ρ S = some (.loc S.length, S ++ [.lst (allK.map sK)]) := by
  unfold kindsL
  rw [s_mLstN]
  simp only [s_mCons, s_mC, s_mNil, Option.bind_some]
  rw [if_pos (by decide)]
  rfl
theorem s_law_kinds_eq : s_law_kinds = mThen (mAsg kindsL (mName 2)) (mRet (mLc (mRange (mCons (mVar 1) mNil)) (mName 3) mYes kindsBody [3])) := rfl
theorem kinds_eq {S : Sto} {p c : Nat} (h : Pn S p c) (k : Nat) (hk : k ≤ 12) (hc : c + k ≤ 100000) :
    ∃ (ks : List Kd) (S' : Sto), m_law_kinds [.loc p, .int (k : Int)] S = some (.lst (ks.map sK), S') ∧ ks.length = k ∧ ks.Nodup ∧ (∀ x, x ∈ ks → x ∈ allK) ∧ Fr S S' p ∧ Pn S' p (c + k) := by
  have hp := h.lt
  have e : (S ++ [Ob.lst (allK.map sK)])[S.length]? = some (.lst (allK.map sK)) := by simp
  obtain ⟨got, rest, S', i1, i2, i3, i4, i5⟩ := kinds_go p S.length (by omega) (some (.int (k : Int))) (intsV k) (S ++ [.lst (allK.map sK)]) allK c e (h.app _) (by rw [len_ints]; exact hk) (by decide) (by rw [len_ints]; exact hc)
  rw [len_ints] at i2 i5
  have hnd : (got ++ rest).Nodup := i3.nodup_iff.mpr (by decide)
  refine ⟨got, S', ?_, i2, (List.nodup_append.mp hnd).1, fun x hx => i3.mem_iff.mp (List.mem_append_left _ hx), only_fr i4 (Nat.le_refl _), i5⟩
  have r2 : k ≤ 100000 := by omega
  have hr : ∀ St, mRange (mCons (mVar 1) mNil) [some (.loc p), some (.int (k : Int)), some (.loc S.length), none] St = some (intsV k, St) := fun St => range_at (by simp) r2
  have hk1 := fun ρ => kindsL_eq ρ S
  generalize allK.map sK = KL at *
  have hl : (intsV k).length ≤ 100000 := by rw [len_ints]; exact r2
  have h1 : mAsg kindsL (mName 2) [some (.loc p), some (.int (k : Int)), none, none] S = some (.nx [some (.loc p), some (.int (k : Int)), some (.loc S.length), none] (S ++ [.lst KL])) := asg_of (hk1 _) rfl
  have h2 : mLc (mRange (mCons (mVar 1) mNil)) (mName 3) mYes kindsBody [3] [some (.loc p), some (.int (k : Int)), some (.loc S.length), none] (S ++ [.lst KL]) = some (.lst (got.map sK), S') := lc_of (hr _) hl i1
  have h3 : s_law_kinds [some (.loc p), some (.int (k : Int)), none, none] S = some (.rt (.lst (got.map sK)) S') := by
    rw [s_law_kinds_eq]
    exact (then_nx h1).trans (ret_of h2)
  exact body_of (N := 4) (as := [.loc p, .int (k : Int)]) h3
end Cw
end
section
/-! CwP11: worths and wishes drawn. -/
namespace Cw
open PySem PySem.Spec PyProof.Rows L2
/-- a store after steps that touch the places X alone and add -/
structure Fx (S S' : Sto) (X : List Nat) : Prop where
  len : S.length ≤ S'.length
  same : ∀ i, i < S.length → i ∉ X → S'[i]? = S[i]?
theorem Fx.refl (S : Sto) (X : List Nat) : Fx S S X := ⟨Nat.le_refl _, fun _ _ _ => rfl⟩
theorem Fx.trans {S S' S'' : Sto} {X : List Nat} (a : Fx S S' X) (b : Fx S' S'' X) : Fx S S'' X :=
  ⟨Nat.le_trans a.len b.len, fun i h n => by rw [b.same i (Nat.lt_of_lt_of_le h a.len) n, a.same i h n]⟩
theorem fx_app (S J : Sto) (X : List Nat) : Fx S (S ++ J) X := ⟨by simp, fun i h _ => List.getElem?_append_left h⟩
theorem fx_set (S : Sto) (n : Nat) (o : Ob) (X : List Nat) (h : n ∈ X) : Fx S (S.set n o) X := ⟨by simp, fun i _ hn => List.getElem?_set_ne fun e => hn (by rw [← e]; exact h)⟩
theorem Fx.mono {S S' : Sto} {X Y : List Nat} (h : Fx S S' X) (e : ∀ x, x ∈ X → x < S.length → x ∈ Y) : Fx S S' Y := ⟨h.len, fun i h1 h2 => h.same i h1 fun h3 => h2 (e i h3 h1)⟩
theorem fx_fr {S S' : Sto} {p : Nat} (h : Fr S S' p) : Fx S S' [p] := ⟨h.len, fun i h1 h2 => h.same i h1 (by simpa using h2)⟩
theorem Fx.drop {S J S' : Sto} {X Y : List Nat} (h : Fx (S ++ J) S' X) (e : ∀ x, x ∈ X → x < S.length → x ∈ Y) : Fx S S' Y := by
  have h1 := (fx_app S J X).trans h
  exact h1.mono e
theorem Fx.at {S S' : Sto} {X : List Nat} (h : Fx S S' X) {n : Nat} {o : Ob} (hn : S[n]? = some o) (hx : n ∉ X) : S'[n]? = some o := by
  rw [h.same n (List.getElem?_eq_some_iff.mp hn).1 hx, hn]
theorem lt_of {S : Sto} {n : Nat} {o : Ob} (h : S[n]? = some o) : n < S.length := (List.getElem?_eq_some_iff.mp h).1
theorem set_at {S : Sto} {n : Nat} {o o' : Ob} (h : S[n]? = some o) : (S.set n o')[n]? = some o' := List.getElem?_set_self (lt_of h)
theorem set_off {S : Sto} {n m : Nat} {o o' : Ob} (h : S[n]? = some o) (e : n ≠ m) : (S.set m o')[n]? = some o := by rw [List.getElem?_set_ne e.symm, h]
def WS : List Int := [0, 1, 2, 3, 7, 10, 9999, 5000]
abbrev pickM : M := drawM (mVar 0) (mBin fSub (mLst (mCons (mCall fLen (mCons (mVar 2) mNil)) (mCons (mCall fMin2 (mCons (mC (.int 4)) (mCons (mCall fLen (mCons (mVar 2) mNil)) mNil))) mNil))) (drawM (mVar 0) (mC (.int 2))))
abbrev worthsBody : MS := mDrop (mMeth fAppend (mVar 3) (mCons (mMeth fPopAt (mVar 2) (mCons pickM mNil)) mNil))
theorem append_at {α : Type} (f : α → Val) {S : Sto} {n : Nat} {xs : List α} (h : S[n]? = some (.lst (xs.map f))) (x : α) (v : Val) (hv : v = f x) (hl : xs.length < 100000) :
    fAppend S (.loc n) [v] = some (.non, S.set n (.lst ((xs ++ [x]).map f))) := by
  subst hv
  unfold fAppend
  simp [h, hl]
theorem pick_eq {S : Sto} {p c n : Nat} {ws : List Int} (h : S[n]? = some (.lst (ws.map .int))) (hp : Pn S p c) (hn : n ≠ p) (hc : c + 2 ≤ 100000) (h0 : 0 < ws.length) (h1 : ws.length ≤ 1000) (v1 v3 v4 : Option Val) :
    ∃ (r : Nat) (o : Ob), pickM [some (.loc p), v1, some (.loc n), v3, v4] S = some (.int (r : Int), S.set p o) ∧ r < ws.length ∧ Pn (S.set p o) p (c + 2) := by
  obtain ⟨r0, o1, d1, d2, d3⟩ := draw hp (by omega) 2 (by omega) (by omega)
  obtain ⟨B, hB, b1, b2⟩ : ∃ B : Nat, atI [Val.int (ws.length : Int), .int (if (ws.length : Int) < 4 then (ws.length : Int) else 4)] (r0 : Int) = some (.int (B : Int)) ∧ 0 < B ∧ B ≤ ws.length := by
    have : r0 = 0 ∨ r0 = 1 := by omega
    rcases this with rfl | rfl
    · exact ⟨ws.length, atI_nat rfl, h0, Nat.le_refl _⟩
    · by_cases z : (ws.length : Int) < 4
      · exact ⟨ws.length, by rw [if_pos z]; exact atI_nat rfl, h0, Nat.le_refl _⟩
      · exact ⟨4, by rw [if_neg z]; exact atI_nat rfl, by omega, by omega⟩
  obtain ⟨r, o2, e1, e2, e3⟩ := draw d3 (by omega) (B : Int) (by omega) (by omega)
  rw [List.set_set] at e1 e3
  refine ⟨r, o2, ?_, by omega, e3⟩
  simp [fLen, seqOf, h, fMin2, d1, fSub, fIxSeq, hB, e1]
theorem worths_go (p n m : Nat) (h1 : n ≠ p) (h2 : m ≠ p) (h3 : n ≠ m) (v1 : Option Val) : ∀ (vs : List Val) (S : Sto) (ws found : List Int) (c : Nat) (a : Option Val), S[n]? = some (.lst (ws.map .int)) → S[m]? = some (.lst (found.map .int)) →
    Pn S p c → vs.length ≤ ws.length → ws.length ≤ 1000 → found.length + vs.length ≤ 1000 → c + 2 * vs.length ≤ 100000 →
    ∃ got rest S' a', forGo (mName 4) worthsBody vs [some (.loc p), v1, some (.loc n), some (.loc m), a] S = some (.nx [some (.loc p), v1, some (.loc n), some (.loc m), a'] S') ∧ got.length = vs.length ∧ (got ++ rest).Perm ws ∧
      S'[m]? = some (.lst ((found ++ got).map .int)) ∧ Fx S S' [p, n, m] ∧ Pn S' p (c + 2 * vs.length)
  | [], S, ws, found, c, a, g1, g2, hp, _, _, _, _ => ⟨[], ws, S, a, rfl, rfl, List.Perm.refl _, by simpa using g2, Fx.refl _ _, hp⟩
  | v :: vs, S, ws, found, c, a, g1, g2, hp, l1, l2, l3, l4 => by
    simp only [List.length_cons] at l1 l3 l4
    obtain ⟨r, o, d1, d2, d3⟩ := pick_eq g1 hp h1 (by omega) (by omega) l2 v1 (some (.loc m)) (some v)
    have g3 : (S.set p o)[n]? = some (.lst (ws.map .int)) := set_off g1 h1
    have q1 := pop_at Val.int g3 d2 (by omega)
    have g4 : ((S.set p o).set n (.lst ((ws.eraseIdx r).map .int)))[m]? = some (.lst (found.map .int)) := set_off (set_off g2 h2) h3.symm
    have q2 := append_at Val.int g4 ws[r] _ rfl (by omega)
    have g5 : ((S.set p o).set n (.lst ((ws.eraseIdx r).map .int)))[n]? = some (.lst ((ws.eraseIdx r).map .int)) := set_at g3
    have el : (ws.eraseIdx r).length = ws.length - 1 := List.length_eraseIdx_of_lt d2
    obtain ⟨got, rest, S', a', i1, i2, i3, i4, i5, i6⟩ := worths_go p n m h1 h2 h3 v1 vs _ (ws.eraseIdx r) (found ++ [ws[r]]) (c + 2) (some v) (set_off g5 h3) (set_at g4) ((d3.put h1).put h2) (by omega) (by omega) (by simp; omega) (by omega)
    refine ⟨ws[r] :: got, rest, S', a', ?_, by simp [i2], (List.Perm.cons _ i3).trans (erase_perm d2), by simpa using i4, ?_, ?_⟩
    · have hl : isL S (.loc m) = true := by simp [isL, lstOf, g2]
      have hl2 : isL S (.loc n) = true := by simp [isL, lstOf, g1]
      unfold forGo
      simp [-s_mBin, -s_mCallF, hl, hl2, d1, q1, q2]
      simp at i1
      exact i1
    · exact (((fx_set S p o _ (by simp)).trans (fx_set _ n _ _ (by simp))).trans (fx_set _ m _ _ (by simp))).trans i5
    · have e : c + 2 * (vs.length + 1) = c + 2 + 2 * vs.length := by omega
      simp only [List.length_cons]
      rw [e]
      exact i6
def worthsL : M := mLstN (mCons (mC (.int 0)) (mCons (mC (.int 1)) (mCons (mC (.int 2)) (mCons (mC (.int 3)) (mCons (mC (.int 7)) (mCons (mC (.int 10)) (mCons (mC (.int 9999)) (mCons (mC (.int 5000)) (mNil)))))))))
theorem worthsL_eq (ρ : Env') (S : Sto) : worthsL ρ S = some (.loc S.length, S ++ [.lst (WS.map .int)]) := by
  unfold worthsL
  rw [s_mLstN]
  simp only [s_mCons, s_mC, s_mNil, Option.bind_some]
  rw [if_pos (by decide)]
  rfl
theorem s_law_worths_eq : s_law_worths = mThen (mAsg worthsL (mName 2)) (mThen (mAsg (mLstN mNil) (mName 3)) (mThen (mFor (mRange (mCons (mBin fAddI (mC (.int 1)) (drawM (mVar 0) (mVar 1))) mNil)) (mName 4) worthsBody) (mRet (mCall fTuple (mCons (mVar 3) mNil))))) := rfl
def WG (ws : List Int) : Prop := ws ≠ [] ∧ ws.length ≤ 4 ∧ ws.Nodup ∧ ∀ x, x ∈ ws → x ∈ WS
theorem worths_eq {S : Sto} {p c : Nat} (h : Pn S p c) (k : Nat) (hk0 : 1 ≤ k) (hk : k ≤ 4) (hc : c + 9 ≤ 100000) :
    ∃ (ws : List Int) (S' : Sto), m_law_worths [.loc p, .int (k : Int)] S = some (itsE ws, S') ∧ WG ws ∧ Fx S S' [p] ∧ Pn S' p (c + 9) := by
  have hp := h.lt
  have h2 : Pn (S ++ [Ob.lst (WS.map .int), .lst []]) p c := h.app _
  obtain ⟨r, o, d1, d2, d3⟩ := draw h2 (by omega) (k : Int) (by omega) (by omega)
  have b1 : (S ++ [Ob.lst (WS.map .int), .lst []])[S.length]? = some (.lst (WS.map .int)) := by simp
  have b2 : (S ++ [Ob.lst (WS.map .int), .lst []])[S.length + 1]? = some (.lst (([] : List Int).map .int)) := by simp
  have lw : WS.length = 8 := rfl
  obtain ⟨got, rest, S', a', i1, i2, i3, i4, i5, i6⟩ := worths_go p S.length (S.length + 1) (by omega) (by omega) (by omega) (some (.int (k : Int))) (intsV (1 + r)) ((S ++ [Ob.lst (WS.map .int), .lst []]).set p o) WS [] (c + 1) none
    (set_off b1 (by omega)) (set_off b2 (by omega)) d3 (by rw [len_ints, lw]; omega) (by rw [lw]; omega) (by rw [len_ints]; simp; omega) (by rw [len_ints]; omega)
  rw [len_ints] at i2 i6
  have hnd : (got ++ rest).Nodup := i3.nodup_iff.mpr (by decide)
  refine ⟨got, S', ?_, ⟨fun e => by rw [e] at i2; simp at i2; omega, by omega, (List.nodup_append.mp hnd).1, fun x hx => i3.mem_iff.mp (List.mem_append_left _ hx)⟩, ?_, i6.more (by omega)⟩
  · have hw := fun ρ => worthsL_eq ρ S
    generalize hWL : WS.map Val.int = WL at *
    have hr : ∀ ρ St St', drawM (mVar 0) (mVar 1) ρ St = some (.int (r : Int), St') → mRange (mCons (mBin fAddI (mC (.int 1)) (drawM (mVar 0) (mVar 1))) mNil) ρ St = some (intsV (1 + r), St') := fun ρ St St' hd =>
      range_at (k := 1 + r) (by simp [-s_mCallF, hd]) (by omega)
    have hd : drawM (mVar 0) (mVar 1) [some (.loc p), some (.int (k : Int)), some (.loc S.length), some (.loc (S.length + 1)), none] (S ++ [Ob.lst WL, .lst []]) = some (.int (r : Int), (S ++ [Ob.lst WL, .lst []]).set p o) := by
      simp [d1]
    have hr2 := hr _ _ _ hd
    unfold m_law_worths
    rw [s_law_worths_eq]
    simp [-s_mCallF, hw, hr2, i1, fTuple, lstOf, i4, itsE]
  · have f1 : Fx (S ++ [Ob.lst (WS.map .int), .lst []]) S' [p, S.length, S.length + 1] := (fx_set _ p o _ (by simp)).trans i5
    exact f1.drop fun x hx hl => by simp at hx ⊢; omega
end Cw
end
section
/-! CwP12: wishes drawn. -/
namespace Cw
open PySem PySem.Spec PyProof.Rows L2
theorem okN_wishE (w : Wish) : OkN 2 (wishE w) := okN_tup fun v hv => by
  have : v = sK w.k ∨ v = itsE w.ws ∨ v = .bl w.must ∨ v = ndE w.needs := by simpa using hv
  rcases this with rfl | rfl | rfl | rfl
  · exact (okN_sK _).mono (by decide)
  · exact okN_itsE _
  · exact (okN_bl _).mono (by decide)
  · cases w.needs with
    | none => exact okN_non.mono (by decide)
    | some p => exact okN_prE p
theorem okN_wishesE (l : List Wish) : OkN 3 (wishesE l) := okN_map okN_wishE l
theorem fNe_loc0 {α : Type} {f : α → Val} {d : Nat} (hf : ∀ a, OkN d (f a)) (hd : d + 1 ≤ 64) {S : Sto} {n : Nat} {xs : List α} (h : S[n]? = some (.lst (xs.map f))) :
    fNe S (.loc n) (.lst []) = some (.bl (!xs.isEmpty), S) := by
  have h0 : okV (.lst []) = true := by decide
  have e : dr S (.loc n) = .lst (xs.map f) := by simp [dr, h]
  unfold fNe
  rw [e, dr_lst, if_pos ⟨(okN_mapL hf xs).ok hd, h0⟩, lst_nil]
  cases xs <;> rfl
abbrev needsS : MS := (mIfS (mAndT (mT (mBin fNe (mVar 4) (mLst (mNil)))) (mT (mBin fEq (mCallF 2 m_law_draw [] (mCons (mVar 0) (mCons (mC (.int 3)) (mNil)))) (mC (.int 0))))) (mThen (mAsg (mBin fSub (mVar 4) (mCallF 2 m_law_draw [] (mCons (mVar 0) (mCons (mCall fLen (mCons (mVar 4) (mNil))) (mNil))))) (mName 7))
  (mAsg (mTup (mCons (mBin fSub (mVar 7) (mC (.int 0))) (mCons (mBin fSub (mBin fCatT (mBin fSub (mVar 7) (mC (.int 1))) (mTup (mCons (mC (.int 4)) (mNil)))) (mCallF 2 m_law_draw [] (mCons (mVar 0) (mCons (mBin fAddI (mCall fLen (mCons (mBin fSub (mVar 7) (mC (.int 1))) (mNil))) (mC (.int 1))) (mNil))))) (mNil)))) (mName 6))) (mNext))
theorem needs_eq {S : Sto} {p m c : Nat} {found : List Wish} (g : S[m]? = some (.lst (found.map wishE))) (hm : m ≠ p) (hp : Pn S p c) (hw : ∀ w, w ∈ found → WG w.ws) (hl : found.length ≤ 100) (hc : c + 3 ≤ 100000) (v1 v2 v3 v5 a7 : Option Val) :
    ∃ nd a7' S', needsS [some (.loc p), v1, v2, v3, some (.loc m), v5, some .non, a7] S = some (.nx [some (.loc p), v1, v2, v3, some (.loc m), v5, some (ndE nd), a7'] S') ∧ S'.length = S.length ∧ Fx S S' [p] ∧ Pn S' p (c + 3) := by
  have hne := fNe_loc0 okN_wishE (by decide) g
  by_cases h0 : found = []
  · subst h0
    exact ⟨none, a7, S, by simp [hne, ndE], rfl, Fx.refl _ _, hp.more (by omega)⟩
  have hpos : 0 < found.length := List.length_pos_iff.mpr h0
  have hemp : found.isEmpty = false := by cases found <;> simp at h0 ⊢
  obtain ⟨r, o, d1, d2, d3⟩ := draw hp (by omega) 3 (by omega) (by omega)
  by_cases hr : r = 0
  · obtain ⟨r2, o2, e1, e2, e3⟩ := draw d3 (by omega) (found.length : Int) (by omega) (by omega)
    rw [List.set_set] at e1 e3
    have hr2 : r2 < found.length := by omega
    have g2 : (S.set p o2)[m]? = some (.lst (found.map wishE)) := set_off g hm
    have hat : atI (found.map wishE) (r2 : Int) = some (wishE found[r2]) := atI_nat (by rw [List.getElem?_map, List.getElem?_eq_getElem hr2]; rfl)
    have hg := hw found[r2] (List.getElem_mem hr2)
    generalize found[r2] = w at hat hg
    have hg1 := hg.2.1
    obtain ⟨r3, o3, f1, f2, f3⟩ := draw e3 (by omega) ((w.ws.length : Int) + 1) (by omega) (by omega)
    rw [List.set_set] at f1 f3
    have hr3 : r3 < (w.ws ++ [4]).length := by simp; omega
    have hat3 : atI ((w.ws ++ [4]).map Val.int) (r3 : Int) = some (.int (w.ws ++ [4])[r3]) := atI_nat (by rw [List.getElem?_map, List.getElem?_eq_getElem hr3]; rfl)
    generalize (w.ws ++ [4])[r3] = x at hat3
    have hcat : ∀ S', fCatT S' (itsE w.ws) (.tup [.int 4]) = some (itsE (w.ws ++ [4]), S') := fun S' => by
      unfold fCatT itsE
      simp
      omega
    have h70 : ∀ S', fSub S' (wishE w) (.int 0) = some (sK w.k, S') := fun S' => by simp [wishE, fSub, fIxSeq, seqOf, atI, ixN]
    have h71 : ∀ S', fSub S' (wishE w) (.int 1) = some (itsE w.ws, S') := fun S' => by simp [wishE, fSub, fIxSeq, seqOf, atI, ixN]
    have hle : ∀ S', fLen S' [itsE w.ws] = some (.int (w.ws.length : Int), S') := fun S' => by simp [fLen, itsE, seqOf]
    have hla : fLen (S.set p o) [.loc m] = some (.int (found.length : Int), S.set p o) := by simp [fLen, seqOf, set_off g hm]
    have hs : fSub (S.set p o2) (.loc m) (.int (r2 : Int)) = some (wishE w, S.set p o2) := by simp [fSub, g2, fIxSeq, seqOf, hat]
    have hs2 : fSub (S.set p o3) (itsE (w.ws ++ [4])) (.int (r3 : Int)) = some (.int x, S.set p o3) := by
      unfold fSub itsE fIxSeq seqOf
      simp only [Option.bind_some, hat3, Option.map_some]
    subst hr
    have hq : (((0 : Nat) : Int) = 0) := rfl
    refine ⟨some (w.k, x), some (wishE w), S.set p o3, ?_, by simp, fx_set _ _ _ _ (by simp), f3⟩
    simp [hne, hemp, d1, hla, e1, hs, h70, h71, hle, hcat, f1, hs2, ndE, prE]
  · have hr' : ¬ ((r : Int) = 0) := by omega
    refine ⟨none, a7, S.set p o, ?_, by simp, fx_set _ _ _ _ (by simp), d3.more (by omega)⟩
    simp [hne, hemp, d1, hr, ndE]
abbrev wishCond : MG Bool := (mT (mBin fNe (mVar 3) (mLst (mNil))))
abbrev wishPop : MS := (mAsg (mMeth fPopAt (mVar 3) (mCons (mCallF 2 m_law_draw [] (mCons (mVar 0) (mCons (mCall fLen (mCons (mVar 3) (mNil))) (mNil)))) (mNil))) (mName 5))
abbrev wishApp : MS := (mDrop (mMeth fAppend (mVar 4) (mCons (mTup (mCons (mVar 5) (mCons (mCallF 2 m_law_worths [] (mCons (mVar 0) (mCons (mVar 2) (mNil)))) (mCons (mBin fEq (mCallF 2 m_law_draw [] (mCons (mVar 0) (mCons (mC (.int 3)) (mNil)))) (mC (.int 0))) (mCons (mVar 6) (mNil)))))) (mNil))))
abbrev wishBody : MS := (mThen wishPop (mThen (mAsg (mC .non) (mName 6)) (mThen needsS wishApp)))
theorem wishPop_eq {S : Sto} {p n c : Nat} {ks : List Kd} (g : S[n]? = some (.lst (ks.map sK))) (hn : n ≠ p) (hp : Pn S p c) (h0 : 0 < ks.length) (hl : ks.length ≤ 100) (hc : c + 1 ≤ 100000) (v1 v2 v4 v5 v6 v7 : Option Val) :
    ∃ (r : Nat) (hr : r < ks.length) (S' : Sto), wishPop [some (.loc p), v1, v2, some (.loc n), v4, v5, v6, v7] S = some (.nx [some (.loc p), v1, v2, some (.loc n), v4, some (sK ks[r]), v6, v7] S') ∧ S'.length = S.length ∧
      S'[n]? = some (.lst ((ks.eraseIdx r).map sK)) ∧ Fx S S' [p, n] ∧ Pn S' p (c + 1) := by
  obtain ⟨r, o, d1, d2, d3⟩ := draw hp (by omega) (ks.length : Int) (by omega) (by omega)
  have hr : r < ks.length := by omega
  have g1 : (S.set p o)[n]? = some (.lst (ks.map sK)) := set_off g hn
  have q := pop_at sK g1 hr (by omega)
  have hl : isL S (.loc n) = true := by simp [isL, lstOf, g]
  have hla : fLen S [.loc n] = some (.int (ks.length : Int), S) := by simp [fLen, seqOf, g]
  refine ⟨r, hr, _, ?_, by simp, set_at g1, (fx_set S p o _ (by simp)).trans (fx_set _ n (.lst ((ks.eraseIdx r).map sK)) _ (by simp)), d3.put hn⟩
  simp [hl, hla, d1, q]
theorem wishApp_eq {S : Sto} {p m c : Nat} {found : List Wish} (g : S[m]? = some (.lst (found.map wishE))) (hm : m ≠ p) (hp : Pn S p c) (hl : found.length ≤ 100) (hc : c + 10 ≤ 100000) (mo : Nat) (hmo : 1 ≤ mo) (hmo2 : mo ≤ 4) (k : Kd) (nd : Option Pk) (v1 v3 v7 : Option Val) :
    ∃ (w : Wish) (S' : Sto), wishApp [some (.loc p), v1, some (.int (mo : Int)), v3, some (.loc m), some (sK k), some (ndE nd), v7] S = some (.nx [some (.loc p), v1, some (.int (mo : Int)), v3, some (.loc m), some (sK k), some (ndE nd), v7] S') ∧
      w.k = k ∧ WG w.ws ∧ S'[m]? = some (.lst ((found ++ [w]).map wishE)) ∧ Fx S S' [p, m] ∧ Pn S' p (c + 10) := by
  obtain ⟨ws, S1, w1, w2, w3, w4⟩ := worths_eq hp mo hmo hmo2 (by omega)
  obtain ⟨r, o, d1, d2, d3⟩ := draw w4 (by omega) 3 (by omega) (by omega)
  have g1 : S1[m]? = some (.lst (found.map wishE)) := w3.at g (by simpa using hm)
  have g2 : (S1.set p o)[m]? = some (.lst (found.map wishE)) := set_off g1 hm
  have q := append_at wishE g2 ⟨k, ws, decide ((r : Int) = 0), nd⟩ _ rfl (by omega)
  have hl2 : isL S (.loc m) = true := by simp [isL, lstOf, g]
  refine ⟨⟨k, ws, decide ((r : Int) = 0), nd⟩, _, ?_, rfl, w2, set_at g2, ((w3.mono (by simp)).trans (fx_set S1 p o _ (by simp))).trans (fx_set _ m _ _ (by simp)), d3.put hm⟩
  simp at q
  simp [hl2, w1, d1]
  simp [wishE] at q ⊢
  exact ⟨_, q⟩
theorem wishes_go (p n m : Nat) (h1 : n ≠ p) (h2 : m ≠ p) (h3 : n ≠ m) (mo : Nat) (hmo : 1 ≤ mo) (hmo2 : mo ≤ 4) (v1 : Option Val) : ∀ (j fuel : Nat) (S : Sto) (ks : List Kd) (found : List Wish) (c : Nat) (a5 a6 a7 : Option Val), ks.length = j → j < fuel →
    S[n]? = some (.lst (ks.map sK)) → S[m]? = some (.lst (found.map wishE)) → Pn S p c → found.length + j ≤ 100 → c + 20 * j ≤ 100000 → (∀ w, w ∈ found → WG w.ws) →
    ∃ (found' : List Wish) (S' : Sto) (a5' a6' a7' : Option Val), whileGo wishCond wishBody fuel [some (.loc p), v1, some (.int (mo : Int)), some (.loc n), some (.loc m), a5, a6, a7] S = some (.nx [some (.loc p), v1, some (.int (mo : Int)), some (.loc n), some (.loc m), a5', a6', a7'] S') ∧
      (found'.map (·.k)).Perm (found.map (·.k) ++ ks) ∧ (∀ w, w ∈ found' → WG w.ws) ∧ S'[m]? = some (.lst (found'.map wishE)) ∧ Fx S S' [p, n, m] ∧ Pn S' p (c + 20 * j)
  | _, 0, _, _, _, _, _, _, _, _, hf, _, _, _, _, _, _ => absurd hf (Nat.not_lt_zero _)
  | 0, fuel + 1, S, ks, found, c, a5, a6, a7, hj, hf, g1, g2, hp, _, _, hw => by
    have e : ks = [] := List.length_eq_zero_iff.mp hj
    subst e
    have hne := fNe_loc0 okN_sK (by decide) g1
    refine ⟨found, S, a5, a6, a7, ?_, by simp, hw, g2, Fx.refl _ _, hp⟩
    unfold whileGo
    simp [hne]
  | j + 1, fuel + 1, S, ks, found, c, a5, a6, a7, hj, hf, g1, g2, hp, l1, l2, hw => by
    have hpos : 0 < ks.length := by omega
    have hemp : ks.isEmpty = false := by cases ks <;> simp at hj ⊢
    have hne := fNe_loc0 okN_sK (by decide) g1
    obtain ⟨r, hr, S1, x1, x2, x3, x4, x5⟩ := wishPop_eq g1 h1 hp hpos (by omega) (by omega) v1 (some (.int (mo : Int))) (some (.loc m)) a5 a6 a7
    have y0 : S1[m]? = some (.lst (found.map wishE)) := x4.at g2 (by simp; exact ⟨h2, Ne.symm h3⟩)
    obtain ⟨nd, a7', S2, y1, y2, y3, y4⟩ := needs_eq y0 h2 x5 hw (by omega) (by omega) v1 (some (.int (mo : Int))) (some (.loc n)) (some (sK ks[r])) a7
    have z0 : S2[m]? = some (.lst (found.map wishE)) := y3.at y0 (by simpa using h2)
    obtain ⟨w, S3, z1, z2, z3, z4, z5, z6⟩ := wishApp_eq z0 h2 y4 (by omega) (by omega) mo hmo hmo2 ks[r] nd v1 (some (.loc n)) a7'
    have u0 : S3[n]? = some (.lst ((ks.eraseIdx r).map sK)) := z5.at (y3.at x3 (by simpa using h1)) (by simp; exact ⟨h1, h3⟩)
    have el : (ks.eraseIdx r).length = ks.length - 1 := List.length_eraseIdx_of_lt hr
    obtain ⟨found', S', b5, b6, b7, i1, i2, i3, i4, i5, i6⟩ := wishes_go p n m h1 h2 h3 mo hmo hmo2 v1 j fuel S3 (ks.eraseIdx r) (found ++ [w]) (c + 20) (some (sK ks[r])) (some (ndE nd)) a7' (by omega) (by omega) u0 z4 (z6.more (by omega)) (by simp; omega) (by omega)
      (fun v hv => by
        rcases List.mem_append.mp hv with hv | hv
        · exact hw v hv
        · rw [List.mem_singleton.mp hv]; exact z3)
    refine ⟨found', S', b5, b6, b7, ?_, ?_, i3, i4, (((x4.mono (by simp <;> omega)).trans (y3.mono (by simp))).trans (z5.mono (by simp <;> omega))).trans i5, i6.more (by omega)⟩
    · unfold whileGo
      have hc : wishCond [some (.loc p), v1, some (.int (mo : Int)), some (.loc n), some (.loc m), a5, a6, a7] S = some (true, S) := by simp [hne, hemp]
      have hb : wishBody [some (.loc p), v1, some (.int (mo : Int)), some (.loc n), some (.loc m), a5, a6, a7] S = some (.nx [some (.loc p), v1, some (.int (mo : Int)), some (.loc n), some (.loc m), some (sK ks[r]), some (ndE nd), a7'] S3) := by
        have hn : mAsg (mC .non) (mName 6) [some (.loc p), v1, some (.int (mo : Int)), some (.loc n), some (.loc m), some (sK ks[r]), a6, a7] S1 = some (.nx [some (.loc p), v1, some (.int (mo : Int)), some (.loc n), some (.loc m), some (sK ks[r]), some .non, a7] S1) := by simp
        exact (then_nx x1).trans ((then_nx hn).trans ((then_nx y1).trans z1))
      rw [hc]
      show (wishBody _ S).bind _ = _
      rw [hb]
      exact i1
    · refine i2.trans ?_
      rw [List.map_append, List.append_assoc]
      refine List.Perm.append_left _ ?_
      simp only [List.map_cons, List.map_nil, z2, List.singleton_append]
      exact erase_perm hr
theorem s_law_wishes_eq : s_law_wishes = mThen (mAsg (mCall fListN (mCons (mVar 1) mNil)) (mName 3)) (mThen (mAsg (mLstN mNil) (mName 4)) (mThen (mWhile 1000 wishCond wishBody) (mRet (mCall fTuple (mCons (mVar 4) mNil))))) := rfl
/-- wishes as they are drawn -/
def GW (ks : List Kd) (l : List Wish) : Prop := (l.map (·.k)).Perm ks ∧ ∀ w, w ∈ l → WG w.ws
theorem wishes_eq {S : Sto} {p c : Nat} (h : Pn S p c) (ks : List Kd) (mo : Nat) (hmo : 1 ≤ mo) (hmo2 : mo ≤ 4) (hk : ks.length ≤ 12) (hc : c + 240 ≤ 100000) :
    ∃ (l : List Wish) (S' : Sto), m_law_wishes [.loc p, .lst (ks.map sK), .int (mo : Int)] S = some (wishesE l, S') ∧ GW ks l ∧ Fx S S' [p] ∧ Pn S' p (c + 240) := by
  have hp := h.lt
  have b1 : (S ++ [Ob.lst (ks.map sK), .lst []])[S.length]? = some (.lst (ks.map sK)) := by simp
  have b2 : (S ++ [Ob.lst (ks.map sK), .lst []])[S.length + 1]? = some (.lst (([] : List Wish).map wishE)) := by simp
  obtain ⟨l, S', a5, a6, a7, i1, i2, i3, i4, i5, i6⟩ := wishes_go p S.length (S.length + 1) (by omega) (by omega) (by omega) mo hmo hmo2 (some (.lst (ks.map sK))) ks.length 1000 _ ks [] c none none none rfl (by omega) b1 b2 (h.app _) (by simp; omega) (by omega) (fun w hw => by cases hw)
  refine ⟨l, S', ?_, ⟨by simpa using i2, i3⟩, i5.drop fun x hx hl => by simp at hx ⊢; omega, i6.more (by omega)⟩
  unfold m_law_wishes
  rw [s_law_wishes_eq]
  have hwh : ∀ ρ St, mWhile 1000 wishCond wishBody ρ St = whileGo wishCond wishBody 1000 ρ St := fun _ _ => rfl
  simp [fListN, seqOf, hwh, i1, fTuple, lstOf, i4, wishesE]
end Cw
end
section
/-! CwP13: bounds, books, two new ends. -/
namespace Cw
open PySem PySem.Spec PyProof.Rows L2
abbrev bndApp : MS := (mDrop (mMeth fAppend (mVar 3) (mCons (mTup (mCons (mVar 4) (mCons (mCallF 2 m_law_worths [] (mCons (mVar 0) (mCons (mVar 2) (mNil)))) (mNil)))) (mNil))))
abbrev bndBody : MS := (mIfS (mT (mBin fGt (mCallF 2 m_law_draw [] (mCons (mVar 0) (mCons (mC (.int 5)) (mNil)))) (mC (.int 0)))) bndApp (mNext))
theorem bnd_go (p m : Nat) (hm : m ≠ p) (mo : Nat) (hmo : 1 ≤ mo) (hmo2 : mo ≤ 4) (v1 : Option Val) : ∀ (ks : List Kd) (S : Sto) (found : List Pl) (c : Nat) (a : Option Val), S[m]? = some (.lst (found.map plE)) → Pn S p c → found.length + ks.length ≤ 1000 → c + 10 * ks.length ≤ 100000 → (∀ q, q ∈ found → q.2 ≠ []) →
    ∃ (found' : List Pl) (S' : Sto) (a' : Option Val), forGo (mName 4) bndBody (ks.map sK) [some (.loc p), v1, some (.int (mo : Int)), some (.loc m), a] S = some (.nx [some (.loc p), v1, some (.int (mo : Int)), some (.loc m), a'] S') ∧ (∀ q, q ∈ found' → q.2 ≠ []) ∧
      S'[m]? = some (.lst (found'.map plE)) ∧ found'.length ≤ found.length + ks.length ∧ Fx S S' [p, m] ∧ Pn S' p (c + 10 * ks.length)
  | [], S, found, c, a, g, hp, _, _, hf => ⟨found, S, a, rfl, hf, g, Nat.le_refl _, Fx.refl _ _, hp⟩
  | k :: ks, S, found, c, a, g, hp, l1, l2, hf => by
    simp only [List.length_cons] at l1 l2
    obtain ⟨r, o, d1, d2, d3⟩ := draw hp (by omega) 5 (by omega) (by omega)
    have g1 : (S.set p o)[m]? = some (.lst (found.map plE)) := set_off g hm
    by_cases hr : 0 < r
    · have hr0 : ¬ r = 0 := by omega
      obtain ⟨ws, S1, w1, w2, w3, w4⟩ := worths_eq d3 mo hmo hmo2 (by omega)
      have g2 : S1[m]? = some (.lst (found.map plE)) := w3.at g1 (by simpa using hm)
      have q := append_at plE g2 (k, ws) _ rfl (by omega)
      obtain ⟨found', S', a', i1, i2, i3, i4, i5, i6⟩ := bnd_go p m hm mo hmo hmo2 v1 ks _ (found ++ [(k, ws)]) (c + 10) (some (sK k)) (set_at g2) ((w4.more (by omega)).put hm) (by simp; omega) (by omega) (fun z hz => by
        rcases List.mem_append.mp hz with hz | hz
        · exact hf z hz
        · rw [List.mem_singleton.mp hz]; exact w2.1)
      refine ⟨found', S', a', ?_, i2, i3, by simp at i4 ⊢; omega, (((fx_set S p o _ (by simp)).trans (w3.mono (by simp))).trans (fx_set _ m _ _ (by simp))).trans i5, i6.more (by simp; omega)⟩
      have hl2 : isL (S.set p o) (.loc m) = true := by simp [isL, lstOf, g1]
      simp only [plE] at q
      simp only [List.map_cons, forGo]
      have e1 : mName 4 (sK k) [some (.loc p), v1, some (.int (mo : Int)), some (.loc m), a] S = some ([some (.loc p), v1, some (.int (mo : Int)), some (.loc m), some (sK k)], S) := by simp
      have e2 : bndBody [some (.loc p), v1, some (.int (mo : Int)), some (.loc m), some (sK k)] S = some (.nx [some (.loc p), v1, some (.int (mo : Int)), some (.loc m), some (sK k)] (S1.set m (.lst ((found ++ [(k, ws)]).map plE)))) := by
        simp at q
        simp [d1, hr, hr0, hl2, w1, q]
      rw [e1]
      show (bndBody _ S).bind _ = _
      rw [e2]
      exact i1
    · have hr0 : r = 0 := by omega
      subst hr0
      obtain ⟨found', S', a', i1, i2, i3, i4, i5, i6⟩ := bnd_go p m hm mo hmo hmo2 v1 ks _ found (c + 1) (some (sK k)) g1 d3 (by omega) (by omega) hf
      refine ⟨found', S', a', ?_, i2, i3, by simp at i4 ⊢; omega, (fx_set S p o _ (by simp)).trans i5, i6.more (by simp; omega)⟩
      simp only [List.map_cons, forGo]
      have e1 : mName 4 (sK k) [some (.loc p), v1, some (.int (mo : Int)), some (.loc m), a] S = some ([some (.loc p), v1, some (.int (mo : Int)), some (.loc m), some (sK k)], S) := by simp
      have e2 : bndBody [some (.loc p), v1, some (.int (mo : Int)), some (.loc m), some (sK k)] S = some (.nx [some (.loc p), v1, some (.int (mo : Int)), some (.loc m), some (sK k)] (S.set p o)) := by
        simp [d1]
      rw [e1]
      show (bndBody _ S).bind _ = _
      rw [e2]
      exact i1
theorem qq_eq : Val.tup [.str "qq", .tup [.int 1]] = plE (12, [1]) := rfl
theorem bounds_eq {S : Sto} {p c : Nat} (h : Pn S p c) (ks : List Kd) (mo : Nat) (hmo : 1 ≤ mo) (hmo2 : mo ≤ 4) (hk : ks.length ≤ 12) (hc : c + 130 ≤ 100000) :
    ∃ (l : List Pl) (S' : Sto), m_law_bounds [.loc p, .lst (ks.map sK), .int (mo : Int)] S = some (planE l, S') ∧ (∀ q, q ∈ l → q.2 ≠ []) ∧ Fx S S' [p] ∧ Pn S' p (c + 130) := by
  have hp := h.lt
  have b2 : (S ++ [Ob.lst []])[S.length]? = some (.lst (([] : List Pl).map plE)) := by simp
  obtain ⟨l, S1, a, i1, i2, i3, i4, i5, i6⟩ := bnd_go p S.length (by omega) mo hmo hmo2 (some (.lst (ks.map sK))) ks _ [] c none b2 (h.app _) (by simp; omega) (by omega) (fun w hw => by cases hw)
  obtain ⟨r, o, d1, d2, d3⟩ := draw i6 (by omega) 4 (by omega) (by omega)
  have hm : S.length ≠ p := by omega
  have g1 : (S1.set p o)[S.length]? = some (.lst (l.map plE)) := set_off i3 hm
  have fx1 : Fx (S ++ [Ob.lst []]) (S1.set p o) [p, S.length] := i5.trans (fx_set S1 p o _ (by simp))
  by_cases hr : r = 0
  · have q := append_at plE g1 (12, [1]) _ qq_eq (by simp at i4; omega)
    have hl2 : isL (S1.set p o) (.loc S.length) = true := by simp [isL, lstOf, g1]
    have fx2 : Fx (S ++ [Ob.lst []]) ((S1.set p o).set S.length (.lst ((l ++ [(12, [1])]).map plE))) [p, S.length] := fx1.trans (fx_set _ _ _ _ (by simp))
    refine ⟨l ++ [(12, [1])], _, ?_, fun z hz => ?_, fx2.drop fun x hx hl => by simp at hx ⊢; omega, (d3.more (by omega)).put hm⟩
    · have g2 := set_at (o' := .lst ((l ++ [(12, [1])]).map plE)) g1
      unfold m_law_bounds s_law_bounds
      simp only [List.map_append] at g2 q ⊢
      simp at g2
      simp [i1, d1, hr, hl2, q, fTuple, lstOf, g2, planE]
    · rcases List.mem_append.mp hz with hz | hz
      · exact i2 z hz
      · rw [List.mem_singleton.mp hz]; simp
  · refine ⟨l, S1.set p o, ?_, i2, fx1.drop fun x hx hl => by simp at hx ⊢; omega, d3.more (by omega)⟩
    unfold m_law_bounds s_law_bounds
    simp [i1, d1, hr, fTuple, lstOf, g1, planE]
/-! ### books -/
structure Book where
  ws : List Wish
  bd : List Pl
def bookE (b : Book) : Val := .tup [wishesE b.ws, planE b.bd]
structure BookOk (K : List Kd) (b : Book) : Prop where
  gw : GW K b.ws
  nd : K.Nodup
  few : K.length ≤ 3
  bd : ∀ q, q ∈ b.bd → q.2 ≠ []
theorem books_eq {S : Sto} {p c : Nat} (h : Pn S p c) (k : Nat) (hk : k ≤ 3) (mo : Nat) (hmo : 1 ≤ mo) (hmo2 : mo ≤ 4) (hc : c + 1000 ≤ 100000) :
    ∃ (k1 k2 : List Kd) (b1 b2 : Book) (S' : Sto), m_law_books [.loc p, .int (k : Int), .int (mo : Int)] S = some (.tup [bookE b1, bookE b2], S') ∧ BookOk k1 b1 ∧ BookOk k2 b2 ∧ Fx S S' [p] ∧ Pn S' p (c + 1000) := by
  obtain ⟨r1, o1, d1, d2, d3⟩ := draw h (by omega) ((k : Int) + 1) (by omega) (by omega)
  obtain ⟨k1, S1, a1, a2, a3, a4, a5, a6⟩ := kinds_eq d3 r1 (by omega) (by omega)
  obtain ⟨r2, o2, e1, e2, e3⟩ := draw a6 (by omega) ((k : Int) + 1) (by omega) (by omega)
  obtain ⟨k2, S2, b1, b2, b3, b4, b5, b6⟩ := kinds_eq e3 r2 (by omega) (by omega)
  obtain ⟨w1, S3, f1, f2, f3, f4⟩ := wishes_eq b6 k1 mo hmo hmo2 (by omega) (by omega)
  obtain ⟨p1, S4, g1, g2, g3, g4⟩ := bounds_eq f4 k2 mo hmo hmo2 (by omega) (by omega)
  obtain ⟨w2, S5, h1, h2, h3, h4⟩ := wishes_eq g4 k2 mo hmo hmo2 (by omega) (by omega)
  obtain ⟨p2, S6, i1, i2, i3, i4⟩ := bounds_eq h4 k1 mo hmo hmo2 (by omega) (by omega)
  refine ⟨k1, k2, ⟨w1, p1⟩, ⟨w2, p2⟩, S6, ?_, ⟨f2, a3, by omega, g2⟩, ⟨h2, b3, by omega, i2⟩, ?_, i4.more (by omega)⟩
  · unfold m_law_books s_law_books
    simp -implicitDefEqProofs [d1, a1, e1, b1, f1, g1, h1, i1, bookE]
  · exact ((((((fx_set S p o1 _ (by simp)).trans (fx_fr a5)).trans (fx_set S1 p o2 _ (by simp))).trans (fx_fr b5)).trans f3).trans g3).trans (h3.trans i3)
/-! ### a new end -/
def newE (k : Kd) (ws : List Wish) : En := ⟨k, ws, .closed, 0, 0, 0, [], [], none, 0, none, none, 0, 0, .new⟩
def newD (k : Kd) (ws : List Wish) : List (Key × Val) := [(.inr "stand", .str "closed"), (.inr "number", .int 0), (.inr "plan", .tup []), (.inr "refused", .tup []), (.inr "given", .non), (.inr "heard", .int 0), (.inr "took", .non), (.inr "last", .non), (.inr "tries", .int 0),
  (.inr "name", sK k), (.inr "wishes", wishesE ws), (.inr "turn", .int 0), (.inr "yours", .int 0), (.inr "echoes", .int 0), (.inr "why", .str "new")]
theorem new_up (k : Kd) (ws : List Wish) : uK restK [(.inr "name", sK k), (.inr "wishes", wishesE ws), (.inr "turn", .int 0), (.inr "yours", .int 0), (.inr "echoes", .int 0), (.inr "why", .str "new")] = newD k ws := by
  simp [restK, newD]
theorem new_run (S : Sto) (n : Nat) (st : Val) (k : Kd) (ws : List Wish) (h : S[n]? = some (.dct (newD k ws))) :
    lcGo (mName 3) mYes (mIf (mT (mBin fEq (mVar 3) (mC (.str "stand")))) (mVar 2) (mBin fSub (mVar 0) (mVar 3))) [some (.loc n), some st, some (.str "closed"), none] partsV S = some ([sK k, wishesE ws, .str "closed", .int 0, .int 0, .int 0, .tup [], .tup [], .non, .int 0, .non, .non, .int 0, .int 0, .str "new"], S) := by
  have q := lcGo_map (mg := mName 3) (mt := mYes) (me := mIf (mT (mBin fEq (mVar 3) (mC (.str "stand")))) (mVar 2) (mBin fSub (mVar 0) (mVar 3))) (ρ := [some (.loc n), some st, some (.str "closed"), none])
    (f := fun p : Str × Val => .str p.1) (p := fun _ => true) (g := fun p => p.2) (S := S) [("name", sK k), ("wishes", wishesE ws), ("stand", .str "closed"), ("turn", .int 0), ("yours", .int 0), ("number", .int 0), ("plan", .tup []), ("refused", .tup []), ("given", .non), ("heard", .int 0), ("took", .non), ("last", .non), ("tries", .int 0), ("echoes", .int 0), ("why", .str "new")] (fun a ha => ⟨_, rfl, rfl, fun _ => by
      simp only [List.mem_cons, List.not_mem_nil, or_false] at ha
      rcases ha with rfl | rfl | rfl | rfl | rfl | rfl | rfl | rfl | rfl | rfl | rfl | rfl | rfl | rfl | rfl <;> simp [fSub, h, keyOf, newD, gK]⟩)
  simpa [partsV] using q
theorem new_end_eq (k : Kd) (ws : List Wish) (S : Sto) : Gives (m_new_end [sK k, wishesE ws] S) (enE (newE k ws)) S := by
  have hu := new_up k ws
  have e1 : partsV.length = 15 := rfl
  have q := fun J st => new_run (S ++ .dct (newD k ws) :: J) S.length st k ws (by simp)
  have g1 : gK (newD k ws) (.inr "given") = some .non := by simp [newD, gK]
  have g2 : gK (newD k ws) (.inr "stand") = some (.str "closed") := by simp [newD, gK]
  have ha : ∀ J, m_as_end [.loc S.length] (S ++ .dct (newD k ws) :: J) = some (enE (newE k ws), S ++ .dct (newD k ws) :: J) := fun J => by
    unfold m_as_end s_as_end
    simp [fSub, keyOf, g1, g2, fIsNot, fTuple, lstOf, q, e1, enE, newE, sdS, planE, prsE, opE, wyS]
  simp only [uK_cons, uK_nil] at hu
  unfold m_new_end s_new_end
  simp [mDictC, isDc, fUpd, hu]
  rw [ha]
  simp
end Cw
end
section
/-! CwP14: the pair: its dictionary, two, done, comes. -/
namespace Cw
open PySem PySem.Spec PyProof.Rows L2
structure Wo where
  nm : Bool → Kd
  en : Bool → En
  n : Nat
  fr : List Lt
  al : List Kd
  bk : Bool → Book
  t : Int
def bI (i : Bool) : Int := if i = true then 1 else 0
def airE (q : Bool × Lt) : Val := .tup [.int (bI q.1), ltE q.2]
def Wo.put (o : Wo) (i : Bool) (e : En) : Wo := { o with en := fun j => if j = i then e else o.en j }
def woD (o : Wo) : List (Key × Val) := [(.inr "names", .lst [sK (o.nm false), sK (o.nm true)]), (.inr "air", .loc o.n), (.inr "fresh", .lst (o.fr.map ltE)), (.inr "altered", .lst (o.al.map sK)), (.inr "books", .tup [bookE (o.bk false), bookE (o.bk true)]), (.inr "many", .int o.t),
  (.inr (kstr (o.nm false)), enE (o.en false)), (.inr (kstr (o.nm true)), enE (o.en true))]
theorem kn1 (k : Kd) : ¬ kstr k = Str.ofString "names" := by revert k; decide +kernel
theorem kn2 (k : Kd) : ¬ kstr k = Str.ofString "air" := by revert k; decide +kernel
theorem kn3 (k : Kd) : ¬ kstr k = Str.ofString "fresh" := by revert k; decide +kernel
theorem kn4 (k : Kd) : ¬ kstr k = Str.ofString "altered" := by revert k; decide +kernel
theorem kn5 (k : Kd) : ¬ kstr k = Str.ofString "books" := by revert k; decide +kernel
theorem kn6 (k : Kd) : ¬ kstr k = Str.ofString "many" := by revert k; decide +kernel
theorem kn1' (k : Kd) : ¬ Str.ofString "names" = kstr k := fun h => kn1 k h.symm
theorem kn2' (k : Kd) : ¬ Str.ofString "air" = kstr k := fun h => kn2 k h.symm
theorem kn3' (k : Kd) : ¬ Str.ofString "fresh" = kstr k := fun h => kn3 k h.symm
theorem kn4' (k : Kd) : ¬ Str.ofString "altered" = kstr k := fun h => kn4 k h.symm
theorem kn5' (k : Kd) : ¬ Str.ofString "books" = kstr k := fun h => kn5 k h.symm
theorem kn6' (k : Kd) : ¬ Str.ofString "many" = kstr k := fun h => kn6 k h.symm
theorem kne {a b : Kd} (h : a ≠ b) : ¬ kstr a = kstr b := fun e => h (kstr_inj a b e)
@[simp] theorem wg_names (o : Wo) : gK (woD o) (.inr "names") = some (.lst [sK (o.nm false), sK (o.nm true)]) := by simp [gK, woD]
@[simp] theorem wg_air (o : Wo) : gK (woD o) (.inr "air") = some (.loc o.n) := by simp [gK, woD]
@[simp] theorem wg_fresh (o : Wo) : gK (woD o) (.inr "fresh") = some (.lst (o.fr.map ltE)) := by simp [gK, woD]
@[simp] theorem wg_altered (o : Wo) : gK (woD o) (.inr "altered") = some (.lst (o.al.map sK)) := by simp [gK, woD]
@[simp] theorem wg_books (o : Wo) : gK (woD o) (.inr "books") = some (.tup [bookE (o.bk false), bookE (o.bk true)]) := by simp [gK, woD]
@[simp] theorem wg_many (o : Wo) : gK (woD o) (.inr "many") = some (.int o.t) := by simp [gK, woD]
theorem wg_end (o : Wo) (h : o.nm false ≠ o.nm true) (i : Bool) : gK (woD o) (.inr (kstr (o.nm i))) = some (enE (o.en i)) := by
  have h1 := kne h
  cases i <;> simp [gK, woD, kn1', kn2', kn3', kn4', kn5', kn6', h1]
@[simp] theorem wp_air (o : Wo) (m : Nat) : pK (woD o) (.inr "air") (.loc m) = woD { o with n := m } := by simp [pK, woD, kn2]
@[simp] theorem wp_fresh (o : Wo) (l : List Lt) : pK (woD o) (.inr "fresh") (.lst (l.map ltE)) = woD { o with fr := l } := by simp [pK, woD, kn3]
@[simp] theorem wp_altered (o : Wo) (l : List Kd) : pK (woD o) (.inr "altered") (.lst (l.map sK)) = woD { o with al := l } := by simp [pK, woD, kn4]
theorem wp_end (o : Wo) (h : o.nm false ≠ o.nm true) (i : Bool) (e : En) : pK (woD o) (.inr (kstr (o.nm i))) (enE e) = woD (o.put i e) := by
  have h1 := kne h
  have h2 := kne h.symm
  cases i <;> simp [pK, woD, kn1', kn2', kn3', kn4', kn5', kn6', h1, h2, Wo.put]
@[simp] theorem woD_len (o : Wo) : (woD o).length = 8 := rfl
theorem nm_at (o : Wo) (i : Bool) : atI [sK (o.nm false), sK (o.nm true)] (bI i) = some (sK (o.nm i)) := by cases i <;> rfl
theorem bk_at (o : Wo) (i : Bool) : atI [bookE (o.bk false), bookE (o.bk true)] (bI i) = some (bookE (o.bk i)) := by cases i <;> rfl
theorem bI_sub (i : Bool) : 1 - bI i = bI (!i) := by cases i <;> rfl
theorem key_sK (k : Kd) : keyOf (sK k) = some (.inr (kstr k)) := rfl
/-! ### two -/
theorem two_eq {S : Sto} {p c : Nat} (h : Pn S p c) (hc : c + 2000 ≤ 100000) :
    ∃ (o : Wo) (q : Nat) (K : Bool → List Kd) (S' : Sto), m_law_two [.loc p] S = some (.loc q, S') ∧ S'[q]? = some (.dct (woD o)) ∧ S'[o.n]? = some (.lst []) ∧ o.nm false ≠ o.nm true ∧ (∀ i, BookOk (K i) (o.bk i)) ∧
      (∀ i, o.en i = newE (o.nm i) (o.bk i).ws) ∧ o.fr = [] ∧ o.al = [] ∧ 2 ≤ o.t ∧ o.t ≤ 9 ∧ S.length ≤ q ∧ S.length ≤ o.n ∧ Fx S S' [p] ∧ Pn S' p (c + 2000) := by
  obtain ⟨ks, S1, a1, a2, a3, a4, a5, a6⟩ := kinds_eq h 2 (by omega) (by omega)
  obtain ⟨x, y, rfl⟩ : ∃ x y, ks = [x, y] := by
    match ks, a2 with
    | [x, y], _ => exact ⟨x, y, rfl⟩
  have hxy : x ≠ y := by simpa using a3
  obtain ⟨r1, o1, d1, d2, d3⟩ := draw a6 (by omega) 4 (by omega) (by omega)
  obtain ⟨r2, o2, e1, e2, e3⟩ := draw d3 (by omega) 3 (by omega) (by omega)
  rw [List.set_set] at e1 e3
  obtain ⟨m1, hm1, hm2, hm3⟩ : ∃ m : Nat, atI [Val.int 1, .int 2, .int 3, .int 3] (r1 : Int) = some (.int (m : Int)) ∧ 1 ≤ m ∧ m ≤ 3 := by
    have : r1 = 0 ∨ r1 = 1 ∨ r1 = 2 ∨ r1 = 3 := by omega
    rcases this with rfl | rfl | rfl | rfl
    · exact ⟨1, rfl, by omega, by omega⟩
    · exact ⟨2, rfl, by omega, by omega⟩
    · exact ⟨3, rfl, by omega, by omega⟩
    · exact ⟨3, rfl, by omega, by omega⟩
  obtain ⟨m2, hn1, hn2, hn3⟩ : ∃ m : Nat, atI [Val.int 2, .int 3, .int 4] (r2 : Int) = some (.int (m : Int)) ∧ 1 ≤ m ∧ m ≤ 4 := by
    have : r2 = 0 ∨ r2 = 1 ∨ r2 = 2 := by omega
    rcases this with rfl | rfl | rfl
    · exact ⟨2, rfl, by omega, by omega⟩
    · exact ⟨3, rfl, by omega, by omega⟩
    · exact ⟨4, rfl, by omega, by omega⟩
  obtain ⟨k1, k2, b1, b2, S2, f1, f2, f3, f4, f5⟩ := books_eq e3 m1 hm3 m2 hn2 hn3 (by omega)
  obtain ⟨r3, o3, g1, g2, g3⟩ := draw f5 (by omega) 4 (by omega) (by omega)
  obtain ⟨t, ht1, ht2, ht3⟩ : ∃ t : Int, atI [Val.int 0, .int 1, .int 1, .int 7] (r3 : Int) = some (.int t) ∧ 0 ≤ t ∧ t ≤ 7 := by
    have : r3 = 0 ∨ r3 = 1 ∨ r3 = 2 ∨ r3 = 3 := by omega
    rcases this with rfl | rfl | rfl | rfl
    · exact ⟨0, rfl, by omega, by omega⟩
    · exact ⟨1, rfl, by omega, by omega⟩
    · exact ⟨1, rfl, by omega, by omega⟩
    · exact ⟨7, rfl, by omega, by omega⟩
  have fx0 : Fx S (S2.set p o3) [p] := (((fx_fr a5).trans (fx_set S1 p o2 _ (by simp))).trans f4).trans (fx_set S2 p o3 _ (by simp))
  have hl0 := fx0.len
  generalize hS3 : S2.set p o3 = S3 at *
  obtain ⟨J1, j1⟩ := new_end_eq x b1.ws (S3 ++ [.lst [], .dct [(.inr "names", .lst [sK x, sK y]), (.inr "air", .loc S3.length), (.inr "fresh", .lst []), (.inr "altered", .lst []), (.inr "books", .tup [bookE b1, bookE b2]), (.inr "many", .int (2 + t))]])
  obtain ⟨J2, j2⟩ := new_end_eq y b2.ws (S3 ++ (.lst [] :: .dct [(.inr "names", .lst [sK x, sK y]), (.inr "air", .loc S3.length), (.inr "fresh", .lst []), (.inr "altered", .lst []), (.inr "books", .tup [bookE b1, bookE b2]), (.inr "many", .int (2 + t)), (.inr (kstr x), enE (newE x b1.ws))] :: J1))
  refine ⟨⟨fun i => if i = true then y else x, fun i => if i = true then newE y b2.ws else newE x b1.ws, S3.length, [], [], fun i => if i = true then b2 else b1, 2 + t⟩, S3.length + 1, fun i => if i = true then k2 else k1,
    S3 ++ .lst [] :: .dct (woD ⟨fun i => if i = true then y else x, fun i => if i = true then newE y b2.ws else newE x b1.ws, S3.length, [], [], fun i => if i = true then b2 else b1, 2 + t⟩) :: (J1 ++ J2), ?_, by simp, by simp, by simpa using hxy,
    fun i => by cases i <;> simp [f2, f3], fun i => by cases i <;> rfl, rfl, rfl, by simp; omega, by simp; omega, by omega, by omega, ?_, ?_⟩
  · have hk := kne hxy
    have hfs : ∀ S' (b : Book), fSub S' (bookE b) (.int 0) = some (wishesE b.ws, S') := fun S' b => by simp [bookE, fSub, fIxSeq, seqOf, atI, ixN]
    have hf1 : ∀ S', fSub S' (.lst [.int 1, .int 2, .int 3, .int 3]) (.int (r1 : Int)) = some (.int (m1 : Int), S') := fun S' => by simp [fSub, fIxSeq, seqOf, hm1]
    have hf2 : ∀ S', fSub S' (.lst [.int 2, .int 3, .int 4]) (.int (r2 : Int)) = some (.int (m2 : Int), S') := fun S' => by simp [fSub, fIxSeq, seqOf, hn1]
    have hf3 : ∀ S', fSub S' (.lst [.int 0, .int 1, .int 1, .int 7]) (.int (r3 : Int)) = some (.int t, S') := fun S' => by simp [fSub, fIxSeq, seqOf, ht1]
    have a1' : m_law_kinds [.loc p, .int 2] S = some (.lst [sK x, sK y], S1) := a1
    unfold m_law_two s_law_two
    have hko : ∀ x : Str, keyOf (.str x) = some (.inr x) := fun _ => rfl
    simp -implicitDefEqProofs [a1', d1, e1, hf1, hf2, f1, g1, hf3, hS3, fPut, hko, key_sK, itOf, zipV, forGo, hfs, j1, j2, kn1', kn2', kn3', kn4', kn5', kn6', hk]
    rfl
  · exact fx0.trans (fx_app _ _ _)
  · exact (g3.app _).more (by omega)
end Cw
end
section
/-! CwP15: what the law looks at in the asks. -/
namespace Cw
open PySem PySem.Spec PyProof.Rows L2
section
variable (S : Sto) (e : En)
@[simp] theorem en_0 : fSub S (enE e) (.int 0) = some (sK e.name, S) := by simp [enE, fSub, fIxSeq, seqOf, atI, ixN]
@[simp] theorem en_1 : fSub S (enE e) (.int 1) = some (wishesE e.wishes, S) := by simp [enE, fSub, fIxSeq, seqOf, atI, ixN]
@[simp] theorem en_2 : fSub S (enE e) (.int 2) = some (.str (sdS e.stand), S) := by simp [enE, fSub, fIxSeq, seqOf, atI, ixN]
@[simp] theorem en_3 : fSub S (enE e) (.int 3) = some (.int e.turn, S) := by simp [enE, fSub, fIxSeq, seqOf, atI, ixN]
@[simp] theorem en_4 : fSub S (enE e) (.int 4) = some (.int e.yours, S) := by simp [enE, fSub, fIxSeq, seqOf, atI, ixN]
@[simp] theorem en_6 : fSub S (enE e) (.int 6) = some (planE e.plan, S) := by simp [enE, fSub, fIxSeq, seqOf, atI, ixN]
@[simp] theorem en_7 : fSub S (enE e) (.int 7) = some (prsE e.refused, S) := by simp [enE, fSub, fIxSeq, seqOf, atI, ixN]
@[simp] theorem en_12 : fSub S (enE e) (.int 12) = some (.int e.tries, S) := by simp [enE, fSub, fIxSeq, seqOf, atI, ixN]
@[simp] theorem en_14 : fSub S (enE e) (.int 14) = some (.str (wyS e.why), S) := by simp [enE, fSub, fIxSeq, seqOf, atI, ixN]
end
/-! ### what is known of an opening -/
def knD (rf : List Pk) (al : Nat) (io : Bool) : List (Key × Val) := [(.inr "refused", prsE rf), (.inr "asks", .loc al), (.inr "is_other", .bl io)]
@[simp] theorem kn_g1 (rf : List Pk) (al : Nat) (io : Bool) : gK (knD rf al io) (.inr "refused") = some (prsE rf) := by simp [gK, knD]
@[simp] theorem kn_g2 (rf : List Pk) (al : Nat) (io : Bool) : gK (knD rf al io) (.inr "asks") = some (.loc al) := by simp [gK, knD]
@[simp] theorem kn_g3 (rf : List Pk) (al : Nat) (io : Bool) : gK (knD rf al io) (.inr "is_other") = some (.bl io) := by simp [gK, knD]
@[simp] theorem kn_p1 (rf rf' : List Pk) (al : Nat) (io : Bool) : pK (knD rf al io) (.inr "refused") (prsE rf') = knD rf' al io := by simp [pK, knD]
@[simp] theorem kn_p3 (rf : List Pk) (al : Nat) (io io' : Bool) : pK (knD rf al io) (.inr "is_other") (.bl io') = knD rf al io' := by simp [pK, knD]
@[simp] theorem kn_len (rf : List Pk) (al : Nat) (io : Bool) : (knD rf al io).length = 3 := rfl
def asD : Nat → List (List Pk) → List (Key × Val)
  | _, [] => []
  | s, x :: r => (.inl ((s : Int) + 1), prsE x) :: asD (s + 1) r
theorem asD_len : ∀ (as : List (List Pk)) (s : Nat), (asD s as).length = as.length
  | [], _ => rfl
  | x :: r, s => by simp [asD, asD_len r]
theorem gK_cons (k k' : Key) (v : Val) (r : List (Key × Val)) : gK ((k, v) :: r) k' = if k = k' then some v else gK r k' := by
  unfold gK
  by_cases e : k = k' <;> simp [List.find?_cons, e]
theorem gK_asD : ∀ (as : List (List Pk)) (s i : Nat), gK (asD s as) (.inl ((s : Int) + i + 1)) = (as[i]?).map prsE
  | [], s, i => by simp [asD, gK]
  | x :: r, s, 0 => by simp [asD, gK_cons]
  | x :: r, s, i + 1 => by
    have ih := gK_asD r (s + 1) i
    have e : ((s : Int) + ((i + 1 : Nat) : Int) + 1) = ((s + 1 : Nat) : Int) + i + 1 := by omega
    have ne : ¬ ((Sum.inl ((s : Int) + 1) : Key) = Sum.inl ((s : Int) + ((i + 1 : Nat) : Int) + 1)) := fun h => by
      have := Sum.inl.inj h
      omega
    simp only [asD, gK_cons, if_neg ne, List.getElem?_cons_succ]
    rw [e]
    exact ih
theorem pK_asD_new (x : List Pk) : ∀ (as : List (List Pk)) (s : Nat), pK (asD s as) (.inl ((s : Int) + as.length + 1)) (prsE x) = asD s (as ++ [x])
  | [], s => by simp [asD]
  | y :: r, s => by
    have ih := pK_asD_new x r (s + 1)
    have e : ((s : Int) + ((y :: r).length : Int) + 1) = ((s + 1 : Nat) : Int) + r.length + 1 := by simp; omega
    have ne : ¬ ((Sum.inl ((s : Int) + 1) : Key) = Sum.inl (((s + 1 : Nat) : Int) + r.length + 1)) := fun h => by
      have := Sum.inl.inj h
      omega
    rw [e]
    show pK ((Sum.inl ((s : Int) + 1), prsE y) :: asD (s + 1) r) _ _ = _
    rw [pK_ne _ _ _ _ _ ne, ih]
    rfl
theorem asD_keys : ∀ (as : List (List Pk)) (s : Nat) (kv : Key × Val), kv ∈ asD s as → ∃ j : Int, kv.1 = .inl j ∧ (s : Int) < j
  | [], _, kv, h => by cases h
  | x :: r, s, kv, h => by
    rcases List.mem_cons.mp h with h | h
    · exact ⟨_, by rw [h], by omega⟩
    · obtain ⟨j, h1, h2⟩ := asD_keys r (s + 1) kv h
      exact ⟨j, h1, by omega⟩
theorem pK_asD_same : ∀ (as : List (List Pk)) (s i : Nat) (x : List Pk), as[i]? = some x → pK (asD s as) (.inl ((s : Int) + i + 1)) (prsE x) = asD s as
  | [], s, i, x, h => by simp at h
  | y :: r, s, 0, x, h => by
    have e : y = x := by simpa using h
    subst e
    have hm : (asD (s + 1) r).map (fun kv => if kv.1 = (Sum.inl ((s : Int) + 1) : Key) then (kv.1, prsE y) else kv) = asD (s + 1) r := by
      refine (List.map_congr_left fun kv hkv => ?_).trans (List.map_id _)
      obtain ⟨j, h1, h2⟩ := asD_keys r (s + 1) kv hkv
      have ne : ¬ (kv.1 = (Sum.inl ((s : Int) + 1) : Key)) := fun h => by
        rw [h1] at h
        have := Sum.inl.inj h
        omega
      rw [if_neg ne]
      rfl
    simp [asD, pK, hm]
  | y :: r, s, i + 1, x, h => by
    have ih := pK_asD_same r (s + 1) i x (by simpa using h)
    have e : ((s : Int) + ((i + 1 : Nat) : Int) + 1) = ((s + 1 : Nat) : Int) + i + 1 := by omega
    have ne : ¬ ((Sum.inl ((s : Int) + 1) : Key) = Sum.inl (((s + 1 : Nat) : Int) + i + 1)) := fun h => by
      have := Sum.inl.inj h
      omega
    rw [e]
    show pK ((Sum.inl ((s : Int) + 1), prsE y) :: asD (s + 1) r) _ _ = _
    rw [pK_ne _ _ _ _ _ ne, ih]
    rfl
def keysI : Nat → List (List Pk) → List Int
  | _, [] => []
  | s, _ :: r => ((s : Int) + 1) :: keysI (s + 1) r
theorem keys_asD : ∀ (as : List (List Pk)) (s : Nat), ((asD s as).map fun kv => kVal kv.1) = (keysI s as).map Val.int
  | [], _ => rfl
  | x :: r, s => by
    show kVal (.inl ((s : Int) + 1)) :: ((asD (s + 1) r).map fun kv => kVal kv.1) = _
    rw [keys_asD r (s + 1)]
    rfl
theorem intsOf_map : ∀ l : List Int, intsOf (l.map Val.int) = some l
  | [] => rfl
  | x :: r => by simp [intsOf, intsOf_map r]
theorem max_keys : ∀ (as : List (List Pk)) (s : Nat), (keysI s as).foldl max (s : Int) = (s : Int) + as.length
  | [], s => by simp [keysI]
  | x :: r, s => by
    have ih := max_keys r (s + 1)
    simp only [keysI, List.foldl_cons]
    have e : max (s : Int) ((s : Int) + 1) = ((s + 1 : Nat) : Int) := by omega
    rw [e, ih]
    simp
    omega
/-! ### loops of the look -/
theorem fNe_nils (S : Sto) : fNe S (.lst []) (.lst []) = some (.bl false, S) := by
  have h0 : okV (.lst []) = true := by decide
  unfold fNe
  rw [dr_lst, if_pos ⟨h0, h0⟩, lst_nil]
  rfl
theorem fNe_lst0 {α : Type} {f : α → Val} {d : Nat} (hf : ∀ a, OkN d (f a)) (hd : d + 1 ≤ 64) (S : Sto) (xs : List α) : fNe S (.lst (xs.map f)) (.lst []) = some (.bl (!xs.isEmpty), S) := by
  have h0 : okV (.lst []) = true := by decide
  unfold fNe
  rw [dr_lst, dr_lst, if_pos ⟨(okN_mapL hf xs).ok hd, h0⟩, lst_nil]
  cases xs <;> rfl
theorem none_left {α : Type} {mg : MT} {mt : MG Bool} {me : M} {ρ : Env'} {f : α → Val} {S : Sto} (l : List α) (h : ∀ a, a ∈ l → ∃ ρ1, mg (f a) ρ S = some (ρ1, S) ∧ mt ρ1 S = some (false, S)) : lcGo mg mt me ρ (l.map f) S = some ([], S) := by
  have q := lcGo_map (mg := mg) (mt := mt) (me := me) (ρ := ρ) (f := f) (p := fun _ => false) (g := f) (S := S) l fun a ha => by
    obtain ⟨ρ1, h1, h2⟩ := h a ha
    exact ⟨ρ1, h1, h2, fun e => by cases e⟩
  rw [List.filter_eq_nil_iff.mpr (by simp)] at q
  simpa using q
def Clean (rf ps : List Pk) : Prop := ∀ p, p ∈ ps → p ∉ rf ∧ (p.1, -1) ∉ rf
/-- how the asks of an opening go on by letters -/
inductive Asks (rf : List Pk) : List (List Pk) → List Lt → List (List Pk) → Prop where
  | done (as : List (List Pk)) : Asks rf as [] as
  | skip {as as' : List (List Pk)} {L : Lt} {ls : List Lt} : L.w ≠ .ask → Asks rf as ls as' → Asks rf as (L :: ls) as'
  | again {as as' : List (List Pk)} {L : Lt} {ls : List Lt} {i : Nat} : L.w = .ask → Clean rf L.pairs → L.number = (i : Int) + 1 → as[i]? = some L.pairs → Asks rf as ls as' → Asks rf as (L :: ls) as'
  | new {as as' : List (List Pk)} {L : Lt} {ls : List Lt} : L.w = .ask → Clean rf L.pairs → L.number = (as.length : Int) + 1 → Asks rf (as ++ [L.pairs]) ls as' → Asks rf as (L :: ls) as'
abbrev E17 (a b c d : Val) (x4 x5 x6 x7 x8 x9 x10 x11 x12 x13 x14 x15 x16 : Option Val) : Env' := [some a, some b, some c, some d, x4, x5, x6, x7, x8, x9, x10, x11, x12, x13, x14, x15, x16]
abbrev askTest : MG Bool := (mT (mBin fNe (mLc (mSeq (mVar 12)) (mName 14) (mOrT (mT (mBin fIn (mVar 14) (mBin fSub (mVar 1) (mC (.int 7))))) (mT (mBin fIn (mTup (mCons (mBin fSub (mVar 14) (mC (.int 0))) (mCons (mUn fNeg (mC (.int 1))) (mNil)))) (mBin fSub (mVar 1) (mC (.int 7)))))) (mVar 14) [14]) (mLst (mNil))))
abbrev numTest : MG Bool := (mOrT (mT (mBin fNe (mGet2 (mBin fSub (mVar 4) (mC (.str "asks"))) (mVar 11) (mVar 12)) (mVar 12))) (mT (mBin fGt (mVar 11) (mBin fAddI (mC (.int 1)) (mCall fMaxL (mCons (mBin fCatL (mLst (mCons (mC (.int 0)) (mNil))) (mCall fKeys (mCons (mBin fSub (mVar 4) (mC (.str "asks"))) (mNil)))) (mNil)))))))
abbrev letTg : MT := (mTTup 6 (mTCons (mName 7) (mTCons (mName 8) (mTCons (mName 9) (mTCons (mName 10) (mTCons (mName 11) (mTCons (mName 12) (mTNil))))))))
abbrev letBody : MS := (mIfS (mT (mBin fEq (mVar 8) (mC (.str "ask")))) (mThen (mIfS askTest (mRet (mC (.bl false))) (mNext)) (mThen (mIfS numTest (mRet (mC (.bl false))) (mNext)) (mPut (mBin fSub (mVar 4) (mC (.str "asks"))) (mVar 11) (mVar 12)))) (mNext))
theorem neg_one (S : Sto) : fNeg S (.int 1) = some (.int (-1), S) := rfl
theorem askTest_eq (S : Sto) (e : En) (ps : List Pk) (hc : Clean e.refused ps) (hl : ps.length ≤ 100) (a c d : Val) (x4 x5 x6 x7 x8 x9 x10 x11 x13 x14 x15 x16 : Option Val) :
    askTest (E17 a (enE e) c d x4 x5 x6 x7 x8 x9 x10 x11 (some (prsE ps)) x13 x14 x15 x16) S = some (false, S) := by
  have q := none_left (mg := mName 14) (mt := (mOrT (mT (mBin fIn (mVar 14) (mBin fSub (mVar 1) (mC (.int 7))))) (mT (mBin fIn (mTup (mCons (mBin fSub (mVar 14) (mC (.int 0))) (mCons (mUn fNeg (mC (.int 1))) (mNil)))) (mBin fSub (mVar 1) (mC (.int 7)))))))
    (me := mVar 14) (ρ := E17 a (enE e) c d x4 x5 x6 x7 x8 x9 x10 x11 (some (prsE ps)) x13 none x15 x16) (f := prE) (S := S) ps (fun p hp => ⟨_, rfl, by
      have hq : ∀ S', fSub S' (prE p) (.int 0) = some (sK p.1, S') := fun S' => by simp [prE, fSub, fIxSeq, seqOf, atI, ixN]
      have e2 : Val.tup [sK p.1, .int (-1)] = prE (p.1, -1) := rfl
      have h := hc p hp
      simp [fIn, inB_prs, hq, neg_one, e2, h.1, h.2]⟩)
  have hl2 : ps.length ≤ 100000 := by omega
  simp [prsE, hl2] at q ⊢
  simp [q, fNe_nils]
theorem numTest_eq (S : Sto) (kl al : Nat) (rf : List Pk) (io : Bool) (as : List (List Pk)) (h1 : S[kl]? = some (.dct (knD rf al io))) (h2 : S[al]? = some (.dct (asD 0 as))) (num : Int) (ps : List Pk) (hlen : as.length ≤ 1000)
    (hn : (∃ i : Nat, num = (i : Int) + 1 ∧ as[i]? = some ps) ∨ num = (as.length : Int) + 1) (a b c d : Val) (x5 x6 x7 x8 x9 x10 x13 x14 x15 x16 : Option Val) :
    numTest (E17 a b c d (some (.loc kl)) x5 x6 x7 x8 x9 x10 (some (.int num)) (some (prsE ps)) x13 x14 x15 x16) S = some (false, S) := by
  have hg : (gK (asD 0 as) (.inl num)).getD (prsE ps) = prsE ps ∧ ¬ (1 + (as.length : Int) < num) := by
    rcases hn with ⟨i, e1, e2⟩ | e1
    · have hi : i < as.length := (List.getElem?_eq_some_iff.mp e2).1
      have q := gK_asD as 0 i
      have e3 : ((0 : Nat) : Int) + (i : Int) + 1 = num := by omega
      rw [e3, e2] at q
      rw [q]
      exact ⟨rfl, by omega⟩
    · have q := gK_asD as 0 as.length
      have e3 : ((0 : Nat) : Int) + (as.length : Int) + 1 = num := by omega
      rw [e3, List.getElem?_eq_none (Nat.le_refl _)] at q
      rw [q]
      exact ⟨rfl, by omega⟩
  have hk := keys_asD as 0
  have hm := max_keys as 0
  have hmx : (0 :: keysI 0 as).max? = some (as.length : Int) := by
    rw [List.max?_cons']
    simp at hm
    rw [hm]
  have hio : intsOf (Val.int 0 :: (keysI 0 as).map Val.int) = some (0 :: keysI 0 as) := intsOf_map (0 :: keysI 0 as)
  have hkl : (keysI 0 as).length ≤ 99999 := by
    have h3 : (keysI 0 as).length = (asD 0 as).length := by simpa using (congrArg List.length hk).symm
    rw [h3, asD_len]
    omega
  have hmL : ∀ S', fMaxL S' [.lst (.int 0 :: (keysI 0 as).map .int)] = some (.int (as.length : Int), S') := fun S' => by
    unfold fMaxL
    simp only [lstOf, Option.bind_some, hio, hmx, Option.map_some]
  have hg2 := hg.2
  have hK : fKeys S [.loc al] = some (.lst ((keysI 0 as).map .int), S) := by
    simp only [fKeys, h2, hk]
  have hC : fCatL S (.lst [.int 0]) (.lst ((keysI 0 as).map .int)) = some (.lst (.int 0 :: (keysI 0 as).map .int), S) := by
    simp [fCatL, lstOf]
    omega
  simp [mGet2, fSub, h1, h2, keyOf, isDc, hg.1, hK, hC, hmL]
  omega
theorem let_go (e : En) (kl al : Nat) (rf : List Pk) (io : Bool) (hne : kl ≠ al) (a c d : Val) {ls : List Lt} {as as' : List (List Pk)} (h : Asks e.refused as ls as') : ∀ (S : Sto) (x5 x6 x7 x8 x9 x10 x11 x12 x13 x14 x15 x16 : Option Val),
    S[kl]? = some (.dct (knD rf al io)) → S[al]? = some (.dct (asD 0 as)) → as.length + ls.length ≤ 1000 → (∀ L, L ∈ ls → L.pairs.length ≤ 100) →
    ∃ y7 y8 y9 y10 y11 y12, forGo letTg letBody (ls.map ltE) (E17 a (enE e) c d (some (.loc kl)) x5 x6 x7 x8 x9 x10 x11 x12 x13 x14 x15 x16) S =
      some (.nx (E17 a (enE e) c d (some (.loc kl)) x5 x6 y7 y8 y9 y10 y11 y12 x13 x14 x15 x16) (S.set al (.dct (asD 0 as')))) ∧ as'.length ≤ as.length + ls.length := by
  induction h with
  | done as => exact fun S x5 x6 x7 x8 x9 x10 x11 x12 x13 x14 x15 x16 h1 h2 _ _ => ⟨x7, x8, x9, x10, x11, x12, by rw [set_same h2]; rfl, by simp⟩
  | @skip as as' L ls hw ha ih =>
    intro S x5 x6 x7 x8 x9 x10 x11 x12 x13 x14 x15 x16 h1 h2 h3 h4
    simp only [List.length_cons] at h3
    obtain ⟨y7, y8, y9, y10, y11, y12, i1, i2⟩ := ih S x5 x6 (some (sK L.who)) (some (.str (wS L.w))) (some (.int L.mine)) (some (.int L.yours)) (some (.int L.number)) (some (prsE L.pairs)) x13 x14 x15 x16 h1 h2 (by omega) fun L' hL => h4 L' (List.mem_cons_of_mem _ hL)
    refine ⟨y7, y8, y9, y10, y11, y12, ?_, by simp only [List.length_cons]; omega⟩
    rw [← i1]
    have hk : (wS L.w = Str.ofString "ask") = False := by cases hz : L.w <;> simp [wS, hz] at hw ⊢
    simp [forGo, ltE, hk]
  | @again as as' L ls i hw hc hn hi ha ih =>
    intro S x5 x6 x7 x8 x9 x10 x11 x12 x13 x14 x15 x16 h1 h2 h3 h4
    simp only [List.length_cons] at h3
    obtain ⟨y7, y8, y9, y10, y11, y12, i1, i2⟩ := ih S x5 x6 (some (sK L.who)) (some (.str (wS L.w))) (some (.int L.mine)) (some (.int L.yours)) (some (.int L.number)) (some (prsE L.pairs)) x13 x14 x15 x16 h1 h2 (by omega) fun L' hL => h4 L' (List.mem_cons_of_mem _ hL)
    refine ⟨y7, y8, y9, y10, y11, y12, ?_, by simp only [List.length_cons]; omega⟩
    rw [← i1]
    have t1 := askTest_eq S e L.pairs hc (h4 L List.mem_cons_self) a c d (some (.loc kl)) x5 x6 (some (sK L.who)) (some (.str (wS L.w))) (some (.int L.mine)) (some (.int L.yours)) (some (.int L.number)) x13 x14 x15 x16
    have t2 := numTest_eq S kl al rf io as h1 h2 L.number L.pairs (by omega) (.inl ⟨i, hn, hi⟩) a (enE e) c d x5 x6 (some (sK L.who)) (some (.str (wS L.w))) (some (.int L.mine)) (some (.int L.yours)) x13 x14 x15 x16
    have t3 : fPut S (.loc al) (.int L.number) (prsE L.pairs) = some S := by
      have hp := pK_asD_same as 0 i L.pairs hi
      have e3 : ((0 : Nat) : Int) + (i : Int) + 1 = L.number := by omega
      rw [e3] at hp
      have hlt : as.length < 100000 := by omega
      simp [fPut, h2, keyOf, asD_len, hp, set_same h2, hlt]
    have t4 : fSub S (.loc kl) (.str "asks") = some (.loc al, S) := by simp [fSub, h1, keyOf]
    have hk : wS L.w = Str.ofString "ask" := by rw [hw]; rfl
    have tg : letTg (ltE L) (E17 a (enE e) c d (some (.loc kl)) x5 x6 x7 x8 x9 x10 x11 x12 x13 x14 x15 x16) S = some (E17 a (enE e) c d (some (.loc kl)) x5 x6 (some (sK L.who)) (some (.str (wS L.w))) (some (.int L.mine)) (some (.int L.yours)) (some (.int L.number)) (some (prsE L.pairs)) x13 x14 x15 x16, S) := by simp [ltE]
    have tb : letBody (E17 a (enE e) c d (some (.loc kl)) x5 x6 (some (sK L.who)) (some (.str (wS L.w))) (some (.int L.mine)) (some (.int L.yours)) (some (.int L.number)) (some (prsE L.pairs)) x13 x14 x15 x16) S = some (.nx (E17 a (enE e) c d (some (.loc kl)) x5 x6 (some (sK L.who)) (some (.str (wS L.w))) (some (.int L.mine)) (some (.int L.yours)) (some (.int L.number)) (some (prsE L.pairs)) x13 x14 x15 x16) S) := by
      generalize hA : askTest = A at t1
      generalize hN : numTest = N at t2
      show mIfS _ (mThen (mIfS askTest _ _) (mThen (mIfS numTest _ _) _)) _ _ _ = _
      rw [hA, hN]
      rw [hk] at t1 t2 ⊢
      simp [t1, t2, t3, t4]
    simp only [List.map_cons, forGo, tg, Option.bind_some, tb]
  | @new as as' L ls hw hc hn ha ih =>
    intro S x5 x6 x7 x8 x9 x10 x11 x12 x13 x14 x15 x16 h1 h2 h3 h4
    simp only [List.length_cons] at h3
    have g1 : (S.set al (.dct (asD 0 (as ++ [L.pairs]))))[kl]? = some (.dct (knD rf al io)) := set_off h1 hne
    obtain ⟨y7, y8, y9, y10, y11, y12, i1, i2⟩ := ih (S.set al (.dct (asD 0 (as ++ [L.pairs])))) x5 x6 (some (sK L.who)) (some (.str (wS L.w))) (some (.int L.mine)) (some (.int L.yours)) (some (.int L.number)) (some (prsE L.pairs)) x13 x14 x15 x16 g1 (set_at h2) (by simp; omega) fun L' hL => h4 L' (List.mem_cons_of_mem _ hL)
    rw [List.set_set] at i1
    refine ⟨y7, y8, y9, y10, y11, y12, ?_, by simp at i2 ⊢; omega⟩
    rw [← i1]
    have t1 := askTest_eq S e L.pairs hc (h4 L List.mem_cons_self) a c d (some (.loc kl)) x5 x6 (some (sK L.who)) (some (.str (wS L.w))) (some (.int L.mine)) (some (.int L.yours)) (some (.int L.number)) x13 x14 x15 x16
    have t2 := numTest_eq S kl al rf io as h1 h2 L.number L.pairs (by omega) (.inr hn) a (enE e) c d x5 x6 (some (sK L.who)) (some (.str (wS L.w))) (some (.int L.mine)) (some (.int L.yours)) x13 x14 x15 x16
    have t3 : fPut S (.loc al) (.int L.number) (prsE L.pairs) = some (S.set al (.dct (asD 0 (as ++ [L.pairs])))) := by
      have hp := pK_asD_new L.pairs as 0
      have e3 : ((0 : Nat) : Int) + (as.length : Int) + 1 = L.number := by omega
      rw [e3] at hp
      have hlt : as.length < 100000 := by omega
      simp [fPut, h2, keyOf, asD_len, hp, hlt]
    have t4 : fSub S (.loc kl) (.str "asks") = some (.loc al, S) := by simp [fSub, h1, keyOf]
    have hk : wS L.w = Str.ofString "ask" := by rw [hw]; rfl
    have tg : letTg (ltE L) (E17 a (enE e) c d (some (.loc kl)) x5 x6 x7 x8 x9 x10 x11 x12 x13 x14 x15 x16) S = some (E17 a (enE e) c d (some (.loc kl)) x5 x6 (some (sK L.who)) (some (.str (wS L.w))) (some (.int L.mine)) (some (.int L.yours)) (some (.int L.number)) (some (prsE L.pairs)) x13 x14 x15 x16, S) := by simp [ltE]
    have tb : letBody (E17 a (enE e) c d (some (.loc kl)) x5 x6 (some (sK L.who)) (some (.str (wS L.w))) (some (.int L.mine)) (some (.int L.yours)) (some (.int L.number)) (some (prsE L.pairs)) x13 x14 x15 x16) S = some (.nx (E17 a (enE e) c d (some (.loc kl)) x5 x6 (some (sK L.who)) (some (.str (wS L.w))) (some (.int L.mine)) (some (.int L.yours)) (some (.int L.number)) (some (prsE L.pairs)) x13 x14 x15 x16) (S.set al (.dct (asD 0 (as ++ [L.pairs]))))) := by
      generalize hA : askTest = A at t1
      generalize hN : numTest = N at t2
      show mIfS _ (mThen (mIfS askTest _ _) (mThen (mIfS numTest _ _) _)) _ _ _ = _
      rw [hA, hN]
      rw [hk] at t1 t2 ⊢
      simp [t1, t2, t3, t4]
    simp only [List.map_cons, forGo, tg, Option.bind_some, tb]
end Cw
end
section
/-! CwP16: the law's look at one end. -/
namespace Cw
open PySem PySem.Spec PyProof.Rows L2
/-- the plan has nothing refused -/
def PlanClean (rf : List Pk) (pl : List Pl) : Prop := ∀ q, q ∈ pl → (q.2 ≠ [] → (q.1, -1) ∉ rf) ∧ ∀ x, x ∈ q.2 → (q.1, x) ∉ rf
abbrev plTg : MT := (mTTup 2 (mTCons (mName 5) (mTCons (mName 6) (mTNil))))
abbrev plTest : MG Bool := (mOrT (mAndT (mT (mBin fNe (mVar 6) (mTup (mNil)))) (mT (mBin fIn (mTup (mCons (mVar 5) (mCons (mUn fNeg (mC (.int 1))) (mNil)))) (mBin fSub (mVar 1) (mC (.int 7)))))) (mT (mBin fNe (mLc (mSeq (mVar 6)) (mName 16) (mT (mBin fIn (mTup (mCons (mVar 5) (mCons (mVar 16) (mNil)))) (mBin fSub (mVar 1) (mC (.int 7))))) (mVar 16) [16]) (mLst (mNil)))))
abbrev plBody : MS := (mIfS plTest (mRet (mC (.bl false))) (mNext))
theorem fNe_its0 (S : Sto) (l : List Int) : fNe S (itsE l) (.tup []) = some (.bl (!l.isEmpty), S) := by
  have h0 : okV (.tup []) = true := by decide
  unfold fNe
  rw [dr_itsE, dr_tup, if_pos ⟨(okN_itsE l).ok, h0⟩, itsE_nil]
theorem plTest_eq (S : Sto) (e : En) (q : Pl) (h : (q.2 ≠ [] → (q.1, -1) ∉ e.refused) ∧ ∀ x, x ∈ q.2 → (q.1, x) ∉ e.refused) (hl : q.2.length ≤ 100) (a c d : Val) (x4 x7 x8 x9 x10 x11 x12 x13 x14 x15 x16 : Option Val) :
    plTest (E17 a (enE e) c d x4 (some (sK q.1)) (some (itsE q.2)) x7 x8 x9 x10 x11 x12 x13 x14 x15 x16) S = some (false, S) := by
  have q1 := none_left (mg := mName 16) (mt := (mT (mBin fIn (mTup (mCons (mVar 5) (mCons (mVar 16) (mNil)))) (mBin fSub (mVar 1) (mC (.int 7)))))) (me := mVar 16) (ρ := E17 a (enE e) c d x4 (some (sK q.1)) (some (itsE q.2)) x7 x8 x9 x10 x11 x12 x13 x14 x15 none) (f := Val.int) (S := S) q.2
    (fun x hx => ⟨_, rfl, by
      have e2 : Val.tup [sK q.1, .int x] = prE (q.1, x) := rfl
      have h2 := h.2 x hx
      simp [fIn, inB_prs, e2, h2]⟩)
  have hl2 : q.2.length ≤ 100000 := by omega
  have e1 : Val.tup [sK q.1, .int (-1)] = prE (q.1, -1) := rfl
  have hn := fNe_its0 S q.2
  cases hq : q.2 with
  | nil =>
    rw [hq] at hn
    simp [itsE] at hn
    simp [itsE, hn, fNe_nils, lcGo]
  | cons y r =>
    have h1 := h.1 (by rw [hq]; simp)
    rw [hq] at q1 hl2 hn
    simp [itsE] at q1 hn hl2 ⊢
    simp [hn, neg_one, e1, fIn, inB_prs, h1, hl2, q1, fNe_nils]
theorem pl_go (S : Sto) (e : En) (a c d : Val) (x4 x7 x8 x9 x10 x11 x12 x13 x14 x15 x16 : Option Val) : ∀ (pl : List Pl) (x5 x6 : Option Val), PlanClean e.refused pl → (∀ q, q ∈ pl → q.2.length ≤ 100) →
    ∃ y5 y6, forGo plTg plBody (pl.map plE) (E17 a (enE e) c d x4 x5 x6 x7 x8 x9 x10 x11 x12 x13 x14 x15 x16) S = some (.nx (E17 a (enE e) c d x4 y5 y6 x7 x8 x9 x10 x11 x12 x13 x14 x15 x16) S)
  | [], x5, x6, _, _ => ⟨x5, x6, rfl⟩
  | q :: pl, x5, x6, h, hl => by
    obtain ⟨y5, y6, ih⟩ := pl_go S e a c d x4 x7 x8 x9 x10 x11 x12 x13 x14 x15 x16 pl (some (sK q.1)) (some (itsE q.2)) (fun z hz => h z (List.mem_cons_of_mem _ hz)) fun z hz => hl z (List.mem_cons_of_mem _ hz)
    refine ⟨y5, y6, ?_⟩
    have t := plTest_eq S e q (h q List.mem_cons_self) (hl q List.mem_cons_self) a c d x4 x7 x8 x9 x10 x11 x12 x13 x14 x15 x16
    have tg : plTg (plE q) (E17 a (enE e) c d x4 x5 x6 x7 x8 x9 x10 x11 x12 x13 x14 x15 x16) S = some (E17 a (enE e) c d x4 (some (sK q.1)) (some (itsE q.2)) x7 x8 x9 x10 x11 x12 x13 x14 x15 x16, S) := by simp [plE]
    have tb : plBody (E17 a (enE e) c d x4 (some (sK q.1)) (some (itsE q.2)) x7 x8 x9 x10 x11 x12 x13 x14 x15 x16) S = some (.nx (E17 a (enE e) c d x4 (some (sK q.1)) (some (itsE q.2)) x7 x8 x9 x10 x11 x12 x13 x14 x15 x16) S) := by
      generalize hA : plTest = A at t
      show mIfS plTest _ _ _ _ = _
      rw [hA]
      simp [t]
    simp only [List.map_cons, forGo, tg, Option.bind_some, tb]
    exact ih
def wsum (l : List Wish) : Int := (l.map fun w => (w.ws.length : Int)).sum
abbrev sumM : M := (mBin fAddI (mC (.int 1)) (mCall fSum (mCons (mLc (mSeq (mBin fSub (mVar 1) (mC (.int 1)))) (mName 15) (mYes) (mCall fLen (mCons (mBin fSub (mVar 15) (mC (.int 1))) (mNil))) [15]) (mNil))))
theorem sum_eq (S : Sto) (e : En) (hl : e.wishes.length ≤ 100) (a c d : Val) (x4 x5 x6 x7 x8 x9 x10 x11 x12 x13 x14 x15 x16 : Option Val) :
    sumM (E17 a (enE e) c d x4 x5 x6 x7 x8 x9 x10 x11 x12 x13 x14 x15 x16) S = some (.int (1 + wsum e.wishes), S) := by
  have q := lcGo_map (mg := mName 15) (mt := mYes) (me := mCall fLen (mCons (mBin fSub (mVar 15) (mC (.int 1))) (mNil))) (ρ := E17 a (enE e) c d x4 x5 x6 x7 x8 x9 x10 x11 x12 x13 x14 none x16) (f := wishE) (p := fun _ => true) (g := fun w => .int (w.ws.length : Int)) (S := S) e.wishes
    (fun w hw => ⟨_, rfl, rfl, fun _ => by
      have h1 : ∀ S', fSub S' (wishE w) (.int 1) = some (itsE w.ws, S') := fun S' => by simp [wishE, fSub, fIxSeq, seqOf, atI, ixN]
      simp [h1, fLen, itsE, seqOf]⟩)
  rw [List.filter_eq_self.mpr (fun _ _ => rfl)] at q
  have hl2 : e.wishes.length ≤ 100000 := by omega
  have hi : intsOf (e.wishes.map fun w => Val.int (w.ws.length : Int)) = some (e.wishes.map fun w => (w.ws.length : Int)) := by
    have := intsOf_map (e.wishes.map fun w => (w.ws.length : Int))
    rwa [List.map_map] at this
  simp [wishesE, hl2] at q ⊢
  simp [q, fSum, lstOf, hi, wsum]
abbrev refTest : MG Bool := (mOrT (mT (mBin fNe (mLc (mSeq (mBin fSub (mVar 4) (mC (.str "refused")))) (mName 14) (mT (mBin fNotIn (mVar 14) (mBin fSub (mVar 1) (mC (.int 7))))) (mVar 14) [14]) (mLst (mNil)))) (mT (mBin fNe (mCall fList (mCons (mBin fSub (mVar 1) (mC (.int 7))) (mNil))) (mUn fSortSet (mBin fSub (mVar 1) (mC (.int 7)))))))
theorem refTest_eq (S : Sto) (e : En) (kl al : Nat) (rf : List Pk) (io : Bool) (h1 : S[kl]? = some (.dct (knD rf al io))) (hs : ∀ p, p ∈ rf → p ∈ e.refused) (hn : Neat e.refused) (hl : e.refused.length < 64) (hr : rf.length ≤ 100) (a c d : Val) (x5 x6 x7 x8 x9 x10 x11 x12 x13 x14 x15 x16 : Option Val) :
    refTest (E17 a (enE e) c d (some (.loc kl)) x5 x6 x7 x8 x9 x10 x11 x12 x13 x14 x15 x16) S = some (false, S) := by
  have q := none_left (mg := mName 14) (mt := (mT (mBin fNotIn (mVar 14) (mBin fSub (mVar 1) (mC (.int 7)))))) (me := mVar 14) (ρ := E17 a (enE e) c d (some (.loc kl)) x5 x6 x7 x8 x9 x10 x11 x12 x13 none x15 x16) (f := prE) (S := S) rf (fun p hp => ⟨_, rfl, by
    have h := hs p hp
    simp [fNotIn, inB_prs, h]⟩)
  have hr2 : rf.length ≤ 100000 := by omega
  have hq := neat_same S e.refused hl hn
  have he : fNe S (.lst (e.refused.map prE)) (.lst (e.refused.map prE)) = some (.bl false, S) := by
    unfold fNe
    have ok := (okN_mapL okN_prE e.refused).ok
    have e1 : vEq (.lst (e.refused.map prE)) (.lst (e.refused.map prE)) = decide (e.refused = e.refused) := faith_lst faith_prE e.refused e.refused
    rw [dr_lst, if_pos ⟨ok, ok⟩, e1]
    simp
  have hsub : fSub S (.loc kl) (.str "refused") = some (prsE rf, S) := by simp [fSub, h1, keyOf]
  have hfl : fList S [prsE e.refused] = some (.lst (e.refused.map prE), S) := by simp [fList, prsE, seqOf]
  have hlc : mLc (mSeq (mBin fSub (mVar 4) (mC (.str "refused")))) (mName 14) (mT (mBin fNotIn (mVar 14) (mBin fSub (mVar 1) (mC (.int 7))))) (mVar 14) [14] (E17 a (enE e) c d (some (.loc kl)) x5 x6 x7 x8 x9 x10 x11 x12 x13 x14 x15 x16) S = some (.lst [], S) := by
    refine lc_of (vs := rf.map prE) ?_ (by simpa using hr2) q
    simp [hsub]
    simp [prsE]
  generalize hL : mLc (mSeq (mBin fSub (mVar 4) (mC (.str "refused")))) (mName 14) (mT (mBin fNotIn (mVar 14) (mBin fSub (mVar 1) (mC (.int 7))))) (mVar 14) [14] = L at hlc
  show mOrT (mT (mBin fNe (mLc _ _ _ _ _) (mLst mNil))) _ _ _ = _
  rw [hL]
  simp [hlc, fNe_nils, hfl, hq, he]
/-- what the look asks of an end that isn't closed -/
structure LookOk (rf0 : List Pk) (as : List (List Pk)) (io : Bool) (e : En) (ls : List Lt) (alt : Bool) (as' : List (List Pk)) : Prop where
  sub : ∀ p, p ∈ rf0 → p ∈ e.refused
  few0 : rf0.length ≤ 100
  neat : Neat e.refused
  few : e.refused.length < 64
  plan : PlanClean e.refused e.plan
  pl : ∀ q, q ∈ e.plan → q.2.length ≤ 100
  asks : Asks e.refused as ls as'
  la : as.length + ls.length ≤ 1000
  pr : ∀ L, L ∈ ls → L.pairs.length ≤ 100
  wi : e.wishes.length ≤ 100
  many : io = true ∨ alt = true ∨ (as'.length : Int) ≤ 1 + wsum e.wishes
abbrev restS : MS := (mThen (mPut (mVar 4) (mC (.str "is_other")) (mOrV (mBin fSub (mVar 4) (mC (.str "is_other"))) (mVar 3)))
  (mThen (mIfS refTest (mRet (mC (.bl false))) (mNext))
  (mThen (mPut (mVar 4) (mC (.str "refused")) (mBin fSub (mVar 1) (mC (.int 7))))
  (mThen (mFor (mSeq (mBin fSub (mVar 1) (mC (.int 6)))) plTg plBody)
  (mThen (mFor (mSeq (mVar 2)) letTg letBody)
  (mThen (mAsg sumM (mName 13))
  (mRet (mOrV (mBin fSub (mVar 4) (mC (.str "is_other"))) (mBin fLe (mCall fLenD (mCons (mBin fSub (mVar 4) (mC (.str "asks"))) (mNil))) (mVar 13))))))))))
theorem rest_eq (S : Sto) (e : En) (kl al : Nat) (rf : List Pk) (io alt : Bool) (as as' : List (List Pk)) (ls : List Lt) (hne : kl ≠ al) (h1 : S[kl]? = some (.dct (knD rf al io))) (h2 : S[al]? = some (.dct (asD 0 as))) (g : LookOk rf as io e ls alt as') (a : Val) :
    restS (E17 a (enE e) (.lst (ls.map ltE)) (.bl alt) (some (.loc kl)) none none none none none none none none none none none none) S = some (.rt (.bl true) ((S.set kl (.dct (knD e.refused al (io || alt)))).set al (.dct (asD 0 as')))) := by
  have k1 : ∀ S' rf' io', S'[kl]? = some (.dct (knD rf' al io')) → (∀ b : Bool, fPut S' (.loc kl) (.str "is_other") (.bl b) = some (S'.set kl (.dct (knD rf' al b)))) ∧ (∀ r : List Pk, fPut S' (.loc kl) (.str "refused") (prsE r) = some (S'.set kl (.dct (knD r al io')))) ∧
      fSub S' (.loc kl) (.str "is_other") = some (.bl io', S') ∧ fSub S' (.loc kl) (.str "asks") = some (.loc al, S') := fun S' rf' io' h => by
    refine ⟨fun b => by simp [fPut, h, keyOf], fun r => by simp [fPut, h, keyOf], by simp [fSub, h, keyOf], by simp [fSub, h, keyOf]⟩
  have p1 := k1 S rf io h1
  have s1 : (S.set kl (.dct (knD rf al (io || alt))))[kl]? = some (.dct (knD rf al (io || alt))) := set_at h1
  have p2 := k1 _ rf (io || alt) s1
  have s2 : (S.set kl (.dct (knD e.refused al (io || alt))))[kl]? = some (.dct (knD e.refused al (io || alt))) := set_at h1
  have s3 : (S.set kl (.dct (knD e.refused al (io || alt))))[al]? = some (.dct (asD 0 as)) := set_off h2 hne.symm
  have s4 : ((S.set kl (.dct (knD e.refused al (io || alt)))).set al (.dct (asD 0 as')))[kl]? = some (.dct (knD e.refused al (io || alt))) := set_off s2 hne
  have s5 : ((S.set kl (.dct (knD e.refused al (io || alt)))).set al (.dct (asD 0 as')))[al]? = some (.dct (asD 0 as')) := set_at s3
  have p3 := k1 _ e.refused (io || alt) s4
  have r1 := refTest_eq _ e kl al rf (io || alt) s1 g.sub g.neat g.few g.few0 a (.lst (ls.map ltE)) (.bl alt) none none none none none none none none none none none none
  obtain ⟨y5, y6, r2⟩ := pl_go (S.set kl (.dct (knD e.refused al (io || alt)))) e a (.lst (ls.map ltE)) (.bl alt) (some (.loc kl)) none none none none none none none none none none e.plan none none g.plan g.pl
  obtain ⟨y7, y8, y9, y10, y11, y12, r3, -⟩ := let_go e kl al e.refused (io || alt) hne a (.lst (ls.map ltE)) (.bl alt) g.asks (S.set kl (.dct (knD e.refused al (io || alt)))) y5 y6 none none none none none none none none none none s2 s3 g.la g.pr
  have r4 := sum_eq ((S.set kl (.dct (knD e.refused al (io || alt)))).set al (.dct (asD 0 as'))) e g.wi a (.lst (ls.map ltE)) (.bl alt) (some (.loc kl)) y5 y6 y7 y8 y9 y10 y11 y12 none none none none
  have hld : fLenD ((S.set kl (.dct (knD e.refused al (io || alt)))).set al (.dct (asD 0 as'))) [.loc al] = some (.int (as'.length : Int), (S.set kl (.dct (knD e.refused al (io || alt)))).set al (.dct (asD 0 as'))) := by
    simp only [fLenD, s5, asD_len]
  have hpl : ∀ S', mSeq (mBin fSub (mVar 1) (mC (.int 6))) (E17 a (enE e) (.lst (ls.map ltE)) (.bl alt) (some (.loc kl)) none none none none none none none none none none none none) S' = some (e.plan.map plE, S') := fun S' => by
    simp
    simp [planE]
  generalize hT : refTest = T at r1
  generalize hU : sumM = U at r4
  generalize hG : plTg = G1 at r2
  generalize hB : plBody = B1 at r2
  generalize hG2 : letTg = G2 at r3
  generalize hB2 : letBody = B2 at r3
  have hor : ∀ S' : Sto, mOrV (mBin fSub (mVar 4) (mC (.str "is_other"))) (mVar 3) (E17 a (enE e) (.lst (ls.map ltE)) (.bl alt) (some (.loc kl)) none none none none none none none none none none none none) S = some (.bl (io || alt), S) := fun _ => by
    simp [p1.2.2.1]
    cases io <;> simp
  show mThen _ (mThen (mIfS refTest _ _) (mThen _ (mThen (mFor _ plTg plBody) (mThen (mFor _ letTg letBody) (mThen (mAsg sumM _) _))))) _ _ = _
  rw [hT, hU, hG, hB, hG2, hB2]
  have st1 : mPut (mVar 4) (mC (.str "is_other")) (mOrV (mBin fSub (mVar 4) (mC (.str "is_other"))) (mVar 3)) (E17 a (enE e) (.lst (ls.map ltE)) (.bl alt) (some (.loc kl)) none none none none none none none none none none none none) S = some (.nx (E17 a (enE e) (.lst (ls.map ltE)) (.bl alt) (some (.loc kl)) none none none none none none none none none none none none) (S.set kl (.dct (knD rf al (io || alt))))) := by
    rw [s_mPut, hor S]
    simp [p1.1]
  rw [s_mThen, st1]
  simp [r1, p2.2.1]
  simp at r2 r3 r4 hpl
  simp [planE, r2, r3, r4, p3.2.2.1, p3.2.2.2, hld]
  rcases g.many with z | z | z
  · simp [z]
  · cases io <;> simp [z]
  · cases io <;> cases alt <;> simp [z]
def keyE (e : En) : List Key := [.inr (kstr e.name), .inl e.turn, .inl e.yours]
abbrev setdM : M := (mSetd (mVar 0) (mCons (mBin fSub (mVar 1) (mC (.int 0))) (mCons (mBin fSub (mVar 1) (mC (.int 3))) (mCons (mBin fSub (mVar 1) (mC (.int 4))) (mNil)))) (mDisp [(.inr "refused", mTup (mNil)), (.inr "asks", mNewK), (.inr "is_other", mC (.bl false))]))
theorem s_law_asks_right_eq : s_law_asks_right = mThen (mAsg setdM (mName 4)) (mThen (mIfS (mT (mBin fEq (mBin fSub (mVar 1) (mC (.int 2))) (mC (.str "closed")))) (mRet (mC (.bl true))) (mNext)) restS) := rfl
theorem setd_eq (S : Sto) (s : Nat) (tb : List (List Key × Val)) (h : S[s]? = some (.dcT tb)) (hl : tb.length < 100000) (e : En) (c d : Val) :
    setdM (E17 (.loc s) (enE e) c d none none none none none none none none none none none none none) S = match gK tb (keyE e) with
      | some v => some (v, S ++ [.dct [], .dct (knD [] S.length false)])
      | none => some (.loc (S.length + 1), S.set s (.dcT (pK tb (keyE e) (.loc (S.length + 1)))) ++ [.dct [], .dct (knD [] S.length false)]) := by
  have hs := lt_of h
  have h3 : isDT S (.loc s) = true := by simp [isDT, h]
  have g : (S ++ [Ob.dct [], .dct (knD [] S.length false)])[s]? = some (.dcT tb) := by rw [List.getElem?_append_left hs, h]
  have hm : mDisp [(.inr "refused", mTup (mNil)), (.inr "asks", mNewK), (.inr "is_other", mC (.bl false))] (E17 (.loc s) (enE e) c d none none none none none none none none none none none none none) S = some (.loc (S.length + 1), S ++ [.dct [], .dct (knD [] S.length false)]) := by
    simp [mNewK, knD, prsE]
  rw [show setdM (E17 (.loc s) (enE e) c d none none none none none none none none none none none none none) S = (if isDT S (.loc s) = true then (if [sK e.name, Val.int e.turn, .int e.yours].length ≤ 1000 then ((mDisp [(.inr "refused", mTup (mNil)), (.inr "asks", mNewK), (.inr "is_other", mC (.bl false))] (E17 (.loc s) (enE e) c d none none none none none none none none none none none none none) S).bind fun r => (keysOf [sK e.name, Val.int e.turn, .int e.yours]).bind fun key => fSetd r.2 (.loc s) key r.1) else none) else none) from by
    unfold setdM mSetd
    simp [-s_mDisp]]
  rw [if_pos h3, if_pos (show [sK e.name, Val.int e.turn, .int e.yours].length ≤ 1000 from by show 3 ≤ 1000; omega), hm]
  have hk : keysOf [sK e.name, Val.int e.turn, .int e.yours] = some (keyE e) := rfl
  simp only [Option.bind_some, hk, fSetd, g, if_pos hl]
  cases hg : gK tb (keyE e) with
  | some v => rfl
  | none => simp [List.set_append_left _ _ hs]
end Cw
end
section
/-! CwP17: the look at one end, whole. -/
namespace Cw
open PySem PySem.Spec PyProof.Rows L2
section
variable {κ : Type} [DecidableEq κ]
theorem pK_new {kvs : List (κ × Val)} {k : κ} (v : Val) (h : gK kvs k = none) : pK kvs k v = kvs ++ [(k, v)] := by
  have h1 : (kvs.any fun kv => decide (kv.1 = k)) = false := by
    unfold gK at h
    rw [Option.map_eq_none_iff, List.find?_eq_none] at h
    rw [List.any_eq_false]
    exact h
  unfold pK
  rw [h1]
  rfl
theorem gK_app (kvs : List (κ × Val)) (k k' : κ) (v : Val) : gK (kvs ++ [(k, v)]) k' = (gK kvs k').or (if k = k' then some v else none) := by
  unfold gK
  rw [List.find?_append]
  cases h : kvs.find? fun kv => decide (kv.1 = k') with
  | some x => simp
  | none => by_cases e : k = k' <;> simp [List.find?_cons, e]
end
/-- the end's opening stands in the table -/
structure Tk (S : Sto) (tb : List (List Key × Val)) (e : En) (kl al : Nat) (rf : List Pk) (as : List (List Pk)) (io : Bool) : Prop where
  key : gK tb (keyE e) = some (.loc kl)
  kn : S[kl]? = some (.dct (knD rf al io))
  ad : S[al]? = some (.dct (asD 0 as))
  ne : kl ≠ al
inductive Ready (S : Sto) (s : Nat) (tb : List (List Key × Val)) (e : En) (ls : List Lt) (alt : Bool) (kl al : Nat) (as' : List (List Pk)) : Bool → List Nat → Prop where
  | shut (io' : Bool) : e.stand = .closed → Ready S s tb e ls alt kl al as' io' [s]
  | old (rf0 : List Pk) (as : List (List Pk)) (io : Bool) : e.stand ≠ .closed → Tk S tb e kl al rf0 as io → LookOk rf0 as io e ls alt as' → Ready S s tb e ls alt kl al as' (io || alt) [s, kl, al]
  | new : e.stand ≠ .closed → gK tb (keyE e) = none → LookOk [] [] false e ls alt as' → Ready S s tb e ls alt kl al as' alt [s]
theorem ob_ne {S : Sto} {a b : Nat} {x y : Ob} (h1 : S[a]? = some x) (h2 : S[b]? = some y) (h : x ≠ y) : a ≠ b := fun e => by
  subst e
  rw [h1] at h2
  exact h (Option.some.inj h2)
theorem look {S : Sto} {s : Nat} {tb : List (List Key × Val)} {e : En} {ls : List Lt} {alt : Bool} {kl al : Nat} {as' : List (List Pk)} {io' : Bool} {X : List Nat} (h : S[s]? = some (.dcT tb)) (hl : tb.length < 100000) (r : Ready S s tb e ls alt kl al as' io' X) :
    ∃ tb' kl' al' S', m_law_asks_right [.loc s, enE e, .lst (ls.map ltE), .bl alt] S = some (.bl true, S') ∧ S'[s]? = some (.dcT tb') ∧ tb'.length ≤ tb.length + 1 ∧ (∀ k, k ≠ keyE e → gK tb' k = gK tb k) ∧
      (e.stand ≠ .closed → Tk S' tb' e kl' al' e.refused as' io') ∧ Fx S S' X ∧ ((X = [s, kl, al] ∧ kl' = kl ∧ al' = al) ∨ (S.length ≤ kl' ∧ S.length ≤ al')) := by
  have q := setd_eq S s tb h hl e (.lst (ls.map ltE)) (.bl alt)
  have hs := lt_of h
  have hst : ∀ (a : Val) (x4 : Option Val) (S' : Sto), (mT (mBin fEq (mBin fSub (mVar 1) (mC (.int 2))) (mC (.str "closed")))) (E17 a (enE e) (.lst (ls.map ltE)) (.bl alt) x4 none none none none none none none none none none none none) S' = some (decide (e.stand = .closed), S') := fun a x4 S' => by
    simp [Sd_str]
  cases r with
  | shut io' hc =>
    cases hg : gK tb (keyE e) with
    | some v =>
      rw [hg] at q
      refine ⟨tb, S.length, S.length, S ++ [.dct [], .dct (knD [] S.length false)], ?_, by rw [List.getElem?_append_left hs, h], by omega, fun _ _ => rfl, fun hn => absurd hc hn, fx_app _ _ _, .inr ⟨Nat.le_refl _, Nat.le_refl _⟩⟩
      unfold m_law_asks_right
      rw [s_law_asks_right_eq]
      generalize hA : setdM = A at q ⊢
      simp [q, Sd_str, hc]
    | none =>
      rw [hg] at q
      refine ⟨pK tb (keyE e) (.loc (S.length + 1)), S.length, S.length, S.set s (.dcT (pK tb (keyE e) (.loc (S.length + 1)))) ++ [.dct [], .dct (knD [] S.length false)], ?_, ?_, ?_, fun k hk => ?_, fun hn => absurd hc hn, (fx_set _ _ _ _ (by simp)).trans (fx_app _ _ _), .inr ⟨Nat.le_refl _, Nat.le_refl _⟩⟩
      · unfold m_law_asks_right
        rw [s_law_asks_right_eq]
        generalize hA : setdM = A at q ⊢
        simp [q, Sd_str, hc]
      · rw [List.getElem?_append_left (by simpa using hs)]
        exact set_at h
      · rw [pK_new _ hg]
        simp
      · rw [pK_new _ hg, gK_app, if_neg (fun z => hk z.symm)]
        cases gK tb k <;> rfl
  | old rf0 as io hc tk lk =>
    have hg := tk.key
    rw [hg] at q
    have hkl := lt_of tk.kn
    have hal := lt_of tk.ad
    have g1 : (S ++ [Ob.dct [], .dct (knD [] S.length false)])[kl]? = some (.dct (knD rf0 al io)) := by rw [List.getElem?_append_left hkl, tk.kn]
    have g2 : (S ++ [Ob.dct [], .dct (knD [] S.length false)])[al]? = some (.dct (asD 0 as)) := by rw [List.getElem?_append_left hal, tk.ad]
    have r1 := rest_eq _ e kl al rf0 io alt as as' ls tk.ne g1 g2 lk (.loc s)
    have n1 : s ≠ kl := ob_ne h tk.kn (by simp)
    have n2 : s ≠ al := ob_ne h tk.ad (by simp)
    refine ⟨tb, kl, al, ((S ++ [Ob.dct [], .dct (knD [] S.length false)]).set kl (.dct (knD e.refused al (io || alt)))).set al (.dct (asD 0 as')), ?_, ?_, by omega, fun _ _ => rfl, fun _ => ⟨hg, ?_, ?_, tk.ne⟩, ?_, .inl ⟨rfl, rfl, rfl⟩⟩
    · unfold m_law_asks_right
      rw [s_law_asks_right_eq]
      generalize hA : setdM = A at q ⊢
      generalize hR : restS = R at r1 ⊢
      simp [q, Sd_str, hc, r1]
    · rw [List.getElem?_set_ne n2.symm, List.getElem?_set_ne n1.symm, List.getElem?_append_left hs, h]
    · rw [List.getElem?_set_ne tk.ne.symm]
      exact set_at g1
    · exact set_at (set_off g2 tk.ne.symm)
    · exact ((fx_app _ _ _).trans (fx_set _ _ _ _ (by simp))).trans (fx_set _ _ _ _ (by simp))
  | new hc hg lk =>
    rw [hg] at q
    have ls0 : (S.set s (.dcT (pK tb (keyE e) (.loc (S.length + 1))))).length = S.length := by simp
    have g1 : (S.set s (.dcT (pK tb (keyE e) (.loc (S.length + 1)))) ++ [Ob.dct [], .dct (knD [] S.length false)])[S.length + 1]? = some (.dct (knD [] S.length false)) := by
      rw [List.getElem?_append_right (by simp)]
      simp
    have g2 : (S.set s (.dcT (pK tb (keyE e) (.loc (S.length + 1)))) ++ [Ob.dct [], .dct (knD [] S.length false)])[S.length]? = some (.dct (asD 0 [])) := by
      rw [List.getElem?_append_right (by simp)]
      simp [asD]
    have g3 : (S.set s (.dcT (pK tb (keyE e) (.loc (S.length + 1)))) ++ [Ob.dct [], .dct (knD [] S.length false)])[s]? = some (.dcT (pK tb (keyE e) (.loc (S.length + 1)))) := by
      rw [List.getElem?_append_left (by simpa using hs)]
      exact set_at h
    have r1 := rest_eq _ e (S.length + 1) S.length [] false alt [] as' ls (by omega) g1 g2 lk (.loc s)
    refine ⟨pK tb (keyE e) (.loc (S.length + 1)), S.length + 1, S.length, ((S.set s (.dcT (pK tb (keyE e) (.loc (S.length + 1)))) ++ [Ob.dct [], .dct (knD [] S.length false)]).set (S.length + 1) (.dct (knD e.refused S.length (false || alt)))).set S.length (.dct (asD 0 as')), ?_, ?_, ?_, fun k hk => ?_, fun _ => ⟨?_, ?_, ?_, by omega⟩, ?_, .inr ⟨by omega, by omega⟩⟩
    · unfold m_law_asks_right
      rw [s_law_asks_right_eq]
      generalize hA : setdM = A at q ⊢
      generalize hR : restS = R at r1 ⊢
      simp [-set_app, q, Sd_str, hc]
      simp [-set_app] at r1
      simp [-set_app, r1]
    · rw [List.getElem?_set_ne (by omega), List.getElem?_set_ne (by omega), g3]
    · rw [pK_new _ hg]
      simp
    · rw [pK_new _ hg, gK_app, if_neg (fun z => hk z.symm)]
      cases gK tb k <;> rfl
    · rw [pK_new _ hg, gK_app, hg]
      simp
    · rw [List.getElem?_set_ne (by omega)]
      simpa using set_at (o' := .dct (knD e.refused S.length (false || alt))) g1
    · exact set_at (set_off g2 (by omega))
    · have f1 : Fx S (S.set s (.dcT (pK tb (keyE e) (.loc (S.length + 1)))) ++ [Ob.dct [], .dct (knD [] S.length false)]) [s] := (fx_set _ _ _ _ (by simp)).trans (fx_app _ _ _)
      refine ⟨by simp, fun i hi hx => ?_⟩
      rw [List.getElem?_set_ne (by omega), List.getElem?_set_ne (by omega)]
      exact f1.same i hi hx
end Cw
end
section
/-! CwP18: an end's events keep what the law looks at (plain). -/
namespace Cw
open PySem PySem.Spec PyProof.Rows L2
section
variable (e : En)
@[simp] theorem stl_name : (settled e).name = e.name := by unfold settled; split <;> rfl
@[simp] theorem stl_wishes : (settled e).wishes = e.wishes := by unfold settled; split <;> rfl
@[simp] theorem stl_turn : (settled e).turn = e.turn := by unfold settled; split <;> rfl
@[simp] theorem stl_yours : (settled e).yours = e.yours := by unfold settled; split <;> rfl
@[simp] theorem stl_number : (settled e).number = e.number := by unfold settled; split <;> rfl
@[simp] theorem stl_plan : (settled e).plan = e.plan := by unfold settled; split <;> rfl
@[simp] theorem stl_refused : (settled e).refused = e.refused := by unfold settled; split <;> rfl
@[simp] theorem stl_given : (settled e).given = e.given := by unfold settled; split <;> rfl
@[simp] theorem stl_heard : (settled e).heard = e.heard := by unfold settled; split <;> rfl
@[simp] theorem stl_last : (settled e).last = e.last := by unfold settled; split <;> rfl
@[simp] theorem stl_tries : (settled e).tries = e.tries := by unfold settled; split <;> rfl
@[simp] theorem stl_stand : ((settled e).stand = .closed) = (e.stand = .closed) := by
  unfold settled
  split
  · rfl
  · rename_i h
    simp only [h, eq_iff_iff, iff_false]
    split <;> simp
end
def lsum (l : List Pl) : Int := (l.map fun q => (q.2.length : Int)).sum
/-- what an open opening keeps -/
structure OpenOk (K : List Kd) (e : En) : Prop where
  kinds : e.plan.map (·.1) = e.wishes.map (·.k)
  left : ∀ q, q ∈ e.plan → q.2.Nodup ∧ q.2.length ≤ 4 ∧ ∀ x, x ∈ q.2 → x ∈ WS
  clean : PlanClean e.refused e.plan
  neat : Neat e.refused
  nd : e.refused.Nodup
  rin : ∀ p, p ∈ e.refused → p.1 ∈ K ∧ (p.2 = -1 ∨ p.2 ∈ WS)
  last : e.heard = 0 ∨ e.last.isSome = true
  num : 1 ≤ e.number
structure EndOk (K : List Kd) (e : En) : Prop where
  nd : (e.wishes.map (·.k)).Nodup
  sub : ∀ w, w ∈ e.wishes → w.k ∈ K ∧ WG w.ws
  kn : K.length ≤ 3
  t0 : 0 ≤ e.tries
  t1 : e.tries ≤ 9
  op : e.stand ≠ .closed → OpenOk K e
structure Trk (as : List (List Pk)) (io : Bool) (e : En) : Prop where
  len : (as.length : Int) = e.number
  ask : e.given = none → as[as.length - 1]? = some (askOf e.wishes e.plan)
  many : io = true ∨ e.number + lsum e.plan ≤ 1 + wsum e.wishes
theorem nodup_len {α : Type} [DecidableEq α] : ∀ (l m : List α), l.Nodup → (∀ x, x ∈ l → x ∈ m) → l.length ≤ m.length
  | [], m, _, _ => Nat.zero_le _
  | x :: l, m, h, s => by
    obtain ⟨h1, h2⟩ := List.nodup_cons.mp h
    have hx : x ∈ m := s x List.mem_cons_self
    have ih := nodup_len l (m.erase x) h2 fun y hy => (List.mem_erase_of_ne fun (e : y = x) => h1 (e ▸ hy)).mpr (s y (List.mem_cons_of_mem _ hy))
    have hl := List.length_erase_of_mem hx
    have hp : 0 < m.length := List.length_pos_of_mem hx
    simp only [List.length_cons]
    omega
theorem map_nodup_len {α : Type} (K : List Kd) (f : α → Kd) (l : List α) (h : (l.map f).Nodup) (s : ∀ x, x ∈ l → f x ∈ K) : l.length ≤ K.length := by
  have := nodup_len (l.map f) K h fun k hk => by
    obtain ⟨x, hx, rfl⟩ := List.mem_map.mp hk
    exact s x hx
  simpa using this
def prod (K : List Kd) : List Pk := K.flatMap fun k => ((-1) :: WS).map fun x => (k, x)
theorem prod_len : ∀ K : List Kd, (prod K).length = 9 * K.length
  | [] => rfl
  | k :: K => by
    have ih := prod_len K
    have h9 : (((-1 : Int) :: WS).map fun x => (k, x)).length = 9 := by simp [WS]
    simp only [prod, List.flatMap_cons, List.length_append, List.length_cons] at ih ⊢
    rw [h9, ih]
    omega
theorem OpenOk.few {K : List Kd} {e : En} (h : OpenOk K e) (hk : K.length ≤ 3) : e.refused.length ≤ 27 := by
  have := nodup_len e.refused (prod K) h.nd fun p hp => by
    obtain ⟨h1, h2⟩ := h.rin p hp
    refine List.mem_flatMap.mpr ⟨p.1, h1, List.mem_map.mpr ⟨p.2, ?_, rfl⟩⟩
    rcases h2 with h2 | h2
    · rw [h2]; exact List.mem_cons_self
    · exact List.mem_cons_of_mem _ h2
  rw [prod_len] at this
  omega
theorem EndOk.wlen {K : List Kd} {e : En} (h : EndOk K e) : e.wishes.length ≤ 3 := Nat.le_trans (map_nodup_len K (·.k) e.wishes h.nd fun w hw => (h.sub w hw).1) h.kn
theorem EndOk.small {K : List Kd} {e : En} (h : EndOk K e) : Small e.wishes := ⟨by have := h.wlen; omega, fun w hw => by have := (h.sub w hw).2.2.1; omega⟩
theorem OpenOk.hears {K : List Kd} {e : En} (h : OpenOk K e) (g : EndOk K e) : Hears e := ⟨g.small, h.kinds, fun q hq => by have := (h.left q hq).2.1; omega, by have := h.few g.kn; omega, h.last⟩
theorem ask_clean {rf : List Pk} {ws : List Wish} {pl : List Pl} (hk : pl.map (·.1) = ws.map (·.k)) (h : PlanClean rf pl) : Clean rf (askOf ws pl) := fun p hp => by
  obtain ⟨l, hl⟩ := askOf_mem hk hp
  have h1 := h _ hl
  exact ⟨h1.2 p.2 List.mem_cons_self, h1.1 (by simp)⟩
theorem asks_len {rf : List Pk} {as as' : List (List Pk)} {ls : List Lt} (h : Asks rf as ls as') : as'.length ≤ as.length + ls.length := by
  induction h with
  | done => simp
  | skip _ _ ih => simp; omega
  | again _ _ _ _ _ ih => simp; omega
  | new _ _ _ _ ih => simp at ih ⊢; omega
/-! ### a plan made anew -/
theorem leftOf_sub (k : Kd) (ws : List Int) (rf : List Pk) : (leftOf k ws rf).Sublist ws := by
  unfold leftOf
  split
  · exact List.nil_sublist _
  · exact List.filter_sublist
theorem planOf_clean (ws : List Wish) (rf : List Pk) : PlanClean rf (planOf ws rf) := fun q hq => by
  obtain ⟨w, hw, rfl⟩ := List.mem_map.mp hq
  refine ⟨fun h => ?_, fun x hx => ?_⟩
  · intro hr
    exact h (by show leftOf w.k w.ws rf = []; unfold leftOf; rw [if_pos hr])
  · have hx' : x ∈ leftOf w.k w.ws rf := hx
    unfold leftOf at hx'
    split at hx'
    · cases hx'
    · simpa using (List.mem_filter.mp hx').2
theorem planOf_left {ws : List Wish} (rf : List Pk) (h : ∀ w, w ∈ ws → WG w.ws) : ∀ q, q ∈ planOf ws rf → q.2.Nodup ∧ q.2.length ≤ 4 ∧ ∀ x, x ∈ q.2 → x ∈ WS := fun q hq => by
  obtain ⟨w, hw, rfl⟩ := List.mem_map.mp hq
  have hs := leftOf_sub w.k w.ws rf
  have hg := h w hw
  exact ⟨hs.nodup hg.2.2.1, Nat.le_trans hs.length_le hg.2.1, fun x hx => hg.2.2.2 x (hs.mem hx)⟩
theorem planOf_kinds (ws : List Wish) (rf : List Pk) : (planOf ws rf).map (·.1) = ws.map (·.k) := by simp [planOf]
theorem planOf_sum (rf : List Pk) : ∀ ws : List Wish, lsum (planOf ws rf) ≤ wsum ws
  | [] => Int.le_refl _
  | w :: ws => by
    have ih := planOf_sum rf ws
    have h := leftOf_len w.k w.ws rf
    simp only [planOf, lsum, wsum, List.map_cons, List.sum_cons] at ih ⊢
    omega
theorem wsum_nonneg : ∀ ws : List Wish, 0 ≤ wsum ws
  | [] => Int.le_refl _
  | w :: ws => by
    have ih := wsum_nonneg ws
    simp only [wsum, List.map_cons, List.sum_cons] at ih ⊢
    omega
theorem lsum_nonneg : ∀ pl : List Pl, 0 ≤ lsum pl
  | [] => Int.le_refl _
  | q :: pl => by
    have ih := lsum_nonneg pl
    simp only [lsum, List.map_cons, List.sum_cons] at ih ⊢
    omega
/-! ### a plan behind a refusal -/
theorem nodup_fst {k : Kd} {l l' : List Int} : ∀ {pl : List Pl}, (pl.map (·.1)).Nodup → (k, l) ∈ pl → (k, l') ∈ pl → l = l'
  | [], _, h, _ => by cases h
  | q :: pl, hn, h, h' => by
    simp only [List.map_cons, List.nodup_cons] at hn
    rcases List.mem_cons.mp h with h | h <;> rcases List.mem_cons.mp h' with h' | h'
    · rw [← h] at h'
      exact (Prod.mk.inj h').2.symm
    · exact absurd (List.mem_map.mpr ⟨_, h', by rw [← h]⟩) hn.1
    · exact absurd (List.mem_map.mpr ⟨_, h, by rw [← h']⟩) hn.1
    · exact nodup_fst hn.2 h h'
theorem left_tail (w : Wd) (x : Int) (l : List Int) : ∀ y, y ∈ leftBehind w x l → y ∈ l.tail := fun y hy => by
  unfold leftBehind at hy
  split at hy
  · cases hy
  · split at hy
    · rename_i hx
      rcases List.mem_cons.mp hy with h | h
      · rw [h]; exact hx
      · exact (List.mem_filter.mp h).1
    · exact hy
theorem left_nodup (w : Wd) (x : Int) (l : List Int) (h : l.Nodup) : (leftBehind w x l).Nodup := by
  have ht : l.tail.Nodup := (List.tail_sublist l).nodup h
  unfold leftBehind
  split
  · exact List.nodup_nil
  · split
    · refine List.nodup_cons.mpr ⟨fun hm => ?_, List.filter_sublist.nodup ht⟩
      have := (List.mem_filter.mp hm).2
      simp at this
    · exact ht
theorem left_short (w : Wd) (x : Int) (l : List Int) : (leftBehind w x l).length ≤ l.length - 1 := by
  unfold leftBehind
  split
  · simp
  · split
    · rename_i hx
      have h1 : (l.tail.filter fun y => decide (y ≠ x)).length < l.tail.length := by
        rw [List.length_filter_lt_length_iff_exists]
        exact ⟨x, hx, by simp⟩
      simp only [List.length_cons]
      rw [List.length_tail] at h1
      omega
    · rw [List.length_tail]
      omega
theorem sum_map_le (nw : Kd → List Int) : ∀ pl : List Pl, (∀ q, q ∈ pl → (nw q.1).length ≤ q.2.length) → lsum (pl.map fun q => (q.1, nw q.1)) ≤ lsum pl
  | [], _ => Int.le_refl _
  | q :: pl, h => by
    have ih := sum_map_le nw pl fun z hz => h z (List.mem_cons_of_mem _ hz)
    have h1 := h q List.mem_cons_self
    simp only [lsum, List.map_cons, List.sum_cons] at ih ⊢
    omega
theorem sum_map_lt (nw : Kd → List Int) : ∀ pl : List Pl, (∀ q, q ∈ pl → (nw q.1).length ≤ q.2.length) → (∃ q, q ∈ pl ∧ (nw q.1).length < q.2.length) → lsum (pl.map fun q => (q.1, nw q.1)) + 1 ≤ lsum pl
  | [], _, ⟨q, hq, _⟩ => by cases hq
  | q :: pl, h, ⟨z, hz, hlt⟩ => by
    have h1 := h q List.mem_cons_self
    rcases List.mem_cons.mp hz with rfl | hz
    · have ih := sum_map_le nw pl fun y hy => h y (List.mem_cons_of_mem _ hy)
      simp only [lsum, List.map_cons, List.sum_cons] at ih ⊢
      omega
    · have ih := sum_map_lt nw pl (fun y hy => h y (List.mem_cons_of_mem _ hy)) ⟨z, hz, hlt⟩
      simp only [lsum, List.map_cons, List.sum_cons] at ih ⊢
      omega
theorem ws_pos : (-1 : Int) ∉ WS := by decide
structure After (K : List Kd) (e : En) (pl' : List Pl) (R : List Pk) : Prop where
  kinds : pl'.map (·.1) = e.wishes.map (·.k)
  left : ∀ q, q ∈ pl' → q.2.Nodup ∧ q.2.length ≤ 4 ∧ ∀ x, x ∈ q.2 → x ∈ WS
  clean : PlanClean R pl'
  rin : ∀ p, p ∈ R → p.1 ∈ K ∧ (p.2 = -1 ∨ p.2 ∈ WS)
  sum : lsum pl' + 1 ≤ lsum e.plan
theorem after_refused {K : List Kd} {e : En} (g : EndOk K e) (h : OpenOk K e) {w : Wd} {ps : List Pk} {pl' : List Pl} {rf R : List Pk} (r : Refused w ps (askOf e.wishes e.plan) e.plan pl' rf) (hR : ∀ p, p ∈ R ↔ p ∈ e.refused ∨ p ∈ rf) : After K e pl' R := by
  obtain ⟨hw, h0, hk, -, ⟨nw, rfl, hnw⟩, hrf⟩ := r
  have hnd : (e.plan.map (·.1)).Nodup := by rw [h.kinds]; exact g.nd
  have inK : ∀ q, q ∈ e.plan → q.1 ∈ K := fun q hq => by
    have : q.1 ∈ e.plan.map (·.1) := List.mem_map.mpr ⟨q, hq, rfl⟩
    rw [h.kinds] at this
    obtain ⟨v, hv, e1⟩ := List.mem_map.mp this
    rw [← e1]
    exact (g.sub v hv).1
  have cases' : ∀ q, q ∈ e.plan → (¬ q.1 ∈ ksOf ps ∧ nw q.1 = q.2) ∨ (∃ p, p ∈ ps ∧ p.1 = q.1 ∧ nw q.1 = leftBehind w p.2 q.2) := fun q hq => by
    rcases hnw q.1 (List.mem_map.mpr ⟨q, hq, rfl⟩) with ⟨a, b⟩ | ⟨p, l, a, b, c, d⟩
    · exact .inl ⟨a, nodup_fst hnd b hq⟩
    · have e1 := nodup_fst hnd c hq
      exact .inr ⟨p, a, b, by rw [d, e1]⟩
  refine ⟨?_, fun q hq => ?_, fun q hq => ?_, fun p hp => ?_, ?_⟩
  · rw [← h.kinds, List.map_map]
    rfl
  · obtain ⟨q0, hq0, rfl⟩ := List.mem_map.mp hq
    have hl := h.left q0 hq0
    show (nw q0.1).Nodup ∧ (nw q0.1).length ≤ 4 ∧ ∀ x, x ∈ nw q0.1 → x ∈ WS
    rcases cases' q0 hq0 with ⟨-, b⟩ | ⟨p, -, -, b⟩
    · rw [b]; exact hl
    · rw [b]
      have := left_short w p.2 q0.2
      exact ⟨left_nodup w p.2 q0.2 hl.1, by omega, fun x hx => hl.2.2 x ((List.tail_sublist _).mem (left_tail w p.2 q0.2 x hx))⟩
  · obtain ⟨q0, hq0, rfl⟩ := List.mem_map.mp hq
    have hl := h.left q0 hq0
    have hc := h.clean q0 hq0
    show (nw q0.1 ≠ [] → (q0.1, -1) ∉ R) ∧ ∀ x, x ∈ nw q0.1 → (q0.1, x) ∉ R
    rcases cases' q0 hq0 with ⟨a, b⟩ | ⟨p, p1, p2, b⟩
    · have no : ∀ x, (q0.1, x) ∉ rf := fun x hx => a (hrf _ hx).1
      rw [b]
      exact ⟨fun z hz => ((hR _).mp hz).elim (hc.1 z) (no _), fun x hx hz => ((hR _).mp hz).elim (hc.2 x hx) (no _)⟩
    · rcases hw with rfl | rfl
      · have : nw q0.1 = [] := by rw [b]; rfl
        rw [this]
        exact ⟨fun z => absurd rfl z, fun x hx => by cases hx⟩
      · have rfm : ∀ x, (q0.1, x) ∈ rf → ∃ l, q0.2 = x :: l := fun x hx => by
          rcases (hrf _ hx).2 with ⟨z, -⟩ | ⟨-, z⟩
          · cases z
          · obtain ⟨l, hl2⟩ := askOf_mem h.kinds z
            exact ⟨l, nodup_fst hnd hq0 hl2⟩
        refine ⟨fun z hz => ?_, fun x hx hz => ?_⟩
        · rcases (hR _).mp hz with y | y
          · refine hc.1 (fun e0 => z ?_) y
            rw [b, e0]
            rfl
          · obtain ⟨l, e0⟩ := rfm _ y
            exact ws_pos (hl.2.2 (-1) (by rw [e0]; exact List.mem_cons_self))
        · rw [b] at hx
          have ht := left_tail _ _ _ x hx
          rcases (hR _).mp hz with y | y
          · exact hc.2 x ((List.tail_sublist _).mem ht) y
          · obtain ⟨l, e0⟩ := rfm _ y
            rw [e0] at ht
            have hn := hl.1
            rw [e0] at hn
            exact (List.nodup_cons.mp hn).1 ht
  · rcases (hR p).mp hp with y | y
    · exact h.rin p y
    · obtain ⟨a, b⟩ := hrf p y
      obtain ⟨p', hp', e1⟩ := List.mem_map.mp a
      have hka := hk p' hp'
      obtain ⟨p2, hp2, e2⟩ := List.mem_map.mp hka
      obtain ⟨l, hl⟩ := askOf_mem h.kinds hp2
      have e3 : p.1 = p2.1 := by rw [← e1, ← e2]
      refine ⟨by rw [e3]; exact inK _ hl, ?_⟩
      rcases b with ⟨-, b⟩ | ⟨-, b⟩
      · exact .inl b
      · obtain ⟨l', hl'⟩ := askOf_mem h.kinds b
        exact .inr ((h.left _ hl').2.2 p.2 List.mem_cons_self)
  · refine sum_map_lt nw e.plan (fun q hq => ?_) ?_
    · rcases cases' q hq with ⟨-, b⟩ | ⟨p, -, -, b⟩
      · rw [b]; exact Nat.le_refl _
      · rw [b]; have := left_short w p.2 q.2; omega
    · obtain ⟨p, hp⟩ := List.exists_mem_of_ne_nil ps h0
      obtain ⟨p2, hp2, e2⟩ := List.mem_map.mp (hk p hp)
      obtain ⟨l, hl⟩ := askOf_mem h.kinds hp2
      refine ⟨_, hl, ?_⟩
      rcases cases' _ hl with ⟨a, -⟩ | ⟨p', -, -, b⟩
      · exact absurd (List.mem_map.mpr ⟨p, hp, e2.symm⟩) a
      · show (nw p2.1).length < (p2.2 :: l).length
        have b' : nw p2.1 = leftBehind w p'.2 (p2.2 :: l) := b
        rw [b']
        have := left_short w p'.2 (p2.2 :: l)
        simp only [List.length_cons] at this ⊢
        omega
end Cw
end
section
/-! CwP19: what happens at the pair. -/
namespace Cw
open PySem PySem.Spec PyProof.Rows L2
structure PairAt (S : Sto) (q : Nat) (o : Wo) (air : List (Bool × Lt)) : Prop where
  pair : S[q]? = some (.dct (woD o))
  air : S[o.n]? = some (.lst (air.map airE))
theorem hko (x : Str) : keyOf (.str x) = some (.inr x) := rfl
section
variable {S : Sto} {q : Nat} {o : Wo}
theorem ps_names (h : S[q]? = some (.dct (woD o))) : fSub S (.loc q) (.str "names") = some (.lst [sK (o.nm false), sK (o.nm true)], S) := by simp [fSub, h, hko]
theorem ps_air (h : S[q]? = some (.dct (woD o))) : fSub S (.loc q) (.str "air") = some (.loc o.n, S) := by simp [fSub, h, hko]
theorem ps_fresh (h : S[q]? = some (.dct (woD o))) : fSub S (.loc q) (.str "fresh") = some (.lst (o.fr.map ltE), S) := by simp [fSub, h, hko]
theorem ps_altered (h : S[q]? = some (.dct (woD o))) : fSub S (.loc q) (.str "altered") = some (.lst (o.al.map sK), S) := by simp [fSub, h, hko]
theorem ps_books (h : S[q]? = some (.dct (woD o))) : fSub S (.loc q) (.str "books") = some (.tup [bookE (o.bk false), bookE (o.bk true)], S) := by simp [fSub, h, hko]
theorem ps_many (h : S[q]? = some (.dct (woD o))) : fSub S (.loc q) (.str "many") = some (.int o.t, S) := by simp [fSub, h, hko]
theorem ps_end (h : S[q]? = some (.dct (woD o))) (hn : o.nm false ≠ o.nm true) (i : Bool) : fSub S (.loc q) (sK (o.nm i)) = some (enE (o.en i), S) := by simp [fSub, h, key_sK, wg_end o hn i]
theorem ps_nm (i : Bool) (S : Sto) : fSub S (.lst [sK (o.nm false), sK (o.nm true)]) (.int (bI i)) = some (sK (o.nm i), S) := by simp [fSub, fIxSeq, seqOf, nm_at]
theorem ps_bk (i : Bool) (S : Sto) : fSub S (.tup [bookE (o.bk false), bookE (o.bk true)]) (.int (bI i)) = some (bookE (o.bk i), S) := by simp [fSub, fIxSeq, seqOf, bk_at]
theorem pp_end (h : S[q]? = some (.dct (woD o))) (hn : o.nm false ≠ o.nm true) (i : Bool) (e : En) : fPut S (.loc q) (sK (o.nm i)) (enE e) = some (S.set q (.dct (woD (o.put i e)))) := by simp [fPut, h, key_sK, wp_end o hn i e]
theorem pp_air (h : S[q]? = some (.dct (woD o))) (m : Nat) : fPut S (.loc q) (.str "air") (.loc m) = some (S.set q (.dct (woD { o with n := m }))) := by simp [fPut, h, hko]
theorem pp_fresh (h : S[q]? = some (.dct (woD o))) (l : List Lt) : fPut S (.loc q) (.str "fresh") (.lst (l.map ltE)) = some (S.set q (.dct (woD { o with fr := l }))) := by simp [fPut, h, hko]
theorem pp_altered (h : S[q]? = some (.dct (woD o))) (l : List Kd) : fPut S (.loc q) (.str "altered") (.lst (l.map sK)) = some (S.set q (.dct (woD { o with al := l }))) := by simp [fPut, h, hko]
end
theorem put_of {x i v : M} {ρ : Env'} {S S1 S2 S3 S' : Sto} {a b c : Val} (h1 : v ρ S = some (c, S1)) (h2 : x ρ S1 = some (a, S2)) (h3 : i ρ S2 = some (b, S3)) (h4 : fPut S3 a b c = some S') : mPut x i v ρ S = some (.nx ρ S') := by
  rw [s_mPut, h1, Option.bind_some, h2, Option.bind_some, h3, Option.bind_some, h4]
  rfl
theorem bin_of {f : F2} {a b : M} {ρ : Env'} {S S1 S2 S' : Sto} {x y v : Val} (h1 : a ρ S = some (x, S1)) (h2 : b ρ S1 = some (y, S2)) (h3 : f S2 x y = some (v, S')) : mBin f a b ρ S = some (v, S') := by
  rw [s_mBin, h1, Option.bind_some, h2, Option.bind_some, h3]
theorem callF_of {n : Nat} {F : FV} {dv : List Val} {a : MG (List Val)} {ρ : Env'} {S S1 : Sto} {vs : List Val} {r : Option (Val × Sto)} (h1 : a ρ S = some (vs, S1)) (h2 : (vs ++ dv).length = n) (h3 : F (vs ++ dv) S1 = r) : mCallF n F dv a ρ S = r := by
  rw [s_mCallF, h1, Option.bind_some]
  dsimp only
  rw [if_pos h2, h3]
theorem callK_of {n np nk : Nat} {F : FV} {g : List Val → List Val → List Val} {a b : MG (List Val)} {ρ : Env'} {S S1 S2 : Sto} {vs ws : List Val} {r : Option (Val × Sto)} (h1 : a ρ S = some (vs, S1)) (h2 : b ρ S1 = some (ws, S2)) (h3 : vs.length = np ∧ ws.length = nk ∧ (g vs ws).length = n) (h4 : F (g vs ws) S2 = r) : mCallK n np nk F g a b ρ S = r := by
  rw [s_mCallK, h1, Option.bind_some, h2, Option.bind_some]
  dsimp only
  rw [if_pos h3, h4]
theorem cons_of {a : M} {r : MG (List Val)} {ρ : Env'} {S S1 S2 : Sto} {v : Val} {vs : List Val} (h1 : a ρ S = some (v, S1)) (h2 : r ρ S1 = some (vs, S2)) : mCons a r ρ S = some (v :: vs, S2) := by
  rw [s_mCons, h1, Option.bind_some, h2]
  rfl
theorem nil_of {ρ : Env'} {S : Sto} : mNil ρ S = some ([], S) := rfl
theorem var_of {i : Nat} {ρ : Env'} {S : Sto} {v : Val} (h : ρ[i]? = some (some v)) : mVar i ρ S = some (v, S) := by rw [s_mVar, h]
theorem c_of {v : Val} {ρ : Env'} {S : Sto} : mC v ρ S = some (v, S) := rfl
theorem t_of {a : M} {ρ : Env'} {S S' : Sto} {b : Bool} (h : a ρ S = some (.bl b, S')) : mT a ρ S = some (b, S') := by rw [s_mT, h]; rfl
theorem meth_of {f : Sto → Val → List Val → Option (Val × Sto)} {x : M} {a : MG (List Val)} {ρ : Env'} {S S1 S2 : Sto} {v : Val} {vs : List Val} {r : Option (Val × Sto)} (h1 : x ρ S = some (v, S1)) (h2 : isL S1 v = true) (h3 : a ρ S1 = some (vs, S2)) (h4 : f S2 v vs = r) : mMeth f x a ρ S = r := by
  rw [s_mMeth, h1, Option.bind_some]
  dsimp only
  rw [if_pos h2, h3, Option.bind_some, h4]
theorem done_eq {S : Sto} {q : Nat} {o : Wo} {air : List (Bool × Lt)} (h : PairAt S q o air) (hn : o.nm false ≠ o.nm true) (i : Bool) (e : En) (ls : List Lt) (h1 : air.length + ls.length ≤ 100000) (h2 : o.fr.length + ls.length ≤ 100000) :
    ∃ S', m_law_done [.loc q, .int (bI i), .tup [enE e, .lst (ls.map ltE)]] S = some (.non, S') ∧ PairAt S' q { o.put i e with n := S.length, fr := o.fr ++ ls } (air ++ ls.map fun L => (!i, L)) ∧ Fx S S' [q] := by
  have hq := lt_of h.pair
  have hnl := lt_of h.air
  have nq : o.n ≠ q := ob_ne h.air h.pair (by simp)
  have a1 : (S.set q (.dct (woD (o.put i e))))[q]? = some (.dct (woD (o.put i e))) := set_at h.pair
  have a2 : (S.set q (.dct (woD (o.put i e))))[o.n]? = some (.lst (air.map airE)) := set_off h.air nq
  have e1 := pp_end h.pair hn i e
  have e2 := ps_air a1
  have lc := lcGo_map (mg := mName 4) (mt := mYes) (me := (mTup (mCons (mBin fSubI (mC (.int 1)) (mVar 1)) (mCons (mVar 4) (mNil))))) (ρ := [some (.loc q), some (.int (bI i)), some (.tup [enE e, .lst (ls.map ltE)]), some (sK (o.nm i)), none]) (f := ltE) (p := fun _ => true) (g := fun L => airE (!i, L)) (S := S.set q (.dct (woD (o.put i e)))) ls
    (fun L _ => ⟨_, rfl, rfl, fun _ => by simp [airE, bI_sub]⟩)
  rw [List.filter_eq_self.mpr (fun _ _ => rfl)] at lc
  have hf : ∀ S', fSub S' (.tup [enE e, .lst (ls.map ltE)]) (.int 0) = some (enE e, S') := fun S' => by simp [fSub, fIxSeq, seqOf, atI, ixN]
  have hf1 : ∀ S', fSub S' (.tup [enE e, .lst (ls.map ltE)]) (.int 1) = some (.lst (ls.map ltE), S') := fun S' => by simp [fSub, fIxSeq, seqOf, atI, ixN]
  have e3 : fCatN (S.set q (.dct (woD (o.put i e)))) (.loc o.n) (.lst (ls.map fun L => airE (!i, L))) = some (.loc S.length, S.set q (.dct (woD (o.put i e))) ++ [.lst (air.map airE ++ ls.map fun L => airE (!i, L))]) := by
    simp [fCatN, lstOf, a2, h1]
  have a3 : (S.set q (.dct (woD (o.put i e))) ++ [Ob.lst (air.map airE ++ ls.map fun L => airE (!i, L))])[q]? = some (.dct (woD (o.put i e))) := by
    rw [List.getElem?_append_left (by simpa using hq), a1]
  have e4 := pp_air a3 S.length
  have a4 := set_at (o' := .dct (woD { o.put i e with n := S.length })) a3
  have e5 := ps_fresh a4
  have e6 := pp_fresh a4 (o.fr ++ ls)
  have hl : ls.length ≤ 100000 := by omega
  have hC : ∀ S', fCatL S' (.lst ((o.put i e).fr.map ltE)) (.lst (ls.map ltE)) = some (.lst ((o.fr ++ ls).map ltE), S') := fun S' => by
    have : (o.put i e).fr = o.fr := rfl
    simp [fCatL, lstOf, this, h2]
  have nle : S.length ≠ q := by omega
  have a5 := set_at (o' := .dct (woD { o.put i e with n := S.length, fr := o.fr ++ ls })) a4
  have n3 : (S.set q (.dct (woD (o.put i e))) ++ [Ob.lst (air.map airE ++ ls.map fun L => airE (!i, L))])[S.length]? = some (.lst ((air ++ ls.map fun L => (!i, L)).map airE)) := by
    rw [List.getElem?_append_right (by simp)]
    simp
  have n4 := set_off (o' := .dct (woD { o.put i e with n := S.length })) n3 nle
  have n5 := set_off (o' := .dct (woD { o.put i e with n := S.length, fr := o.fr ++ ls })) n4 nle
  have fx : Fx S (((S.set q (.dct (woD (o.put i e))) ++ [Ob.lst (air.map airE ++ ls.map fun L => airE (!i, L))]).set q (.dct (woD { o.put i e with n := S.length }))).set q (.dct (woD { o.put i e with n := S.length, fr := o.fr ++ ls }))) [q] :=
    (((fx_set _ _ _ _ (by simp)).trans (fx_app _ _ _)).trans (fx_set _ _ _ _ (by simp))).trans (fx_set _ _ _ _ (by simp))
  have p0 := ps_names h.pair
  generalize hSA : S.set q (.dct (woD (o.put i e))) = SA at *
  generalize hSB : SA ++ [Ob.lst (air.map airE ++ ls.map fun L => airE (!i, L))] = SB at *
  generalize hSC : SB.set q (.dct (woD { o.put i e with n := S.length })) = SC at *
  generalize hSD : SC.set q (.dct (woD { o.put i e with n := S.length, fr := o.fr ++ ls })) = SD at *
  refine ⟨SD, ?_, ⟨a5, n5⟩, fx⟩
  have t1 : mAsg (mBin fSub (mBin fSub (mVar 0) (mC (.str "names"))) (mVar 1)) (mName 3) [some (.loc q), some (.int (bI i)), some (.tup [enE e, .lst (ls.map ltE)]), none, none] S = some (.nx [some (.loc q), some (.int (bI i)), some (.tup [enE e, .lst (ls.map ltE)]), some (sK (o.nm i)), none] S) :=
    asg_of (bin_of (bin_of (var_of rfl) c_of p0) (var_of rfl) (ps_nm i S)) rfl
  have t2 : mPut (mVar 0) (mVar 3) (mBin fSub (mVar 2) (mC (.int 0))) [some (.loc q), some (.int (bI i)), some (.tup [enE e, .lst (ls.map ltE)]), some (sK (o.nm i)), none] S = some (.nx [some (.loc q), some (.int (bI i)), some (.tup [enE e, .lst (ls.map ltE)]), some (sK (o.nm i)), none] SA) :=
    put_of (bin_of (var_of rfl) c_of (hf S)) (var_of rfl) (var_of rfl) e1
  have l1 : mLc (mSeq (mBin fSub (mVar 2) (mC (.int 1)))) (mName 4) (mYes) (mTup (mCons (mBin fSubI (mC (.int 1)) (mVar 1)) (mCons (mVar 4) (mNil)))) [4] [some (.loc q), some (.int (bI i)), some (.tup [enE e, .lst (ls.map ltE)]), some (sK (o.nm i)), none] SA = some (.lst (ls.map fun L => airE (!i, L)), SA) := by
    refine lc_of (vs := ls.map ltE) ?_ (by simpa using hl) lc
    rw [s_mSeqT, bin_of (var_of rfl) c_of (hf1 SA)]
    rfl
  have t3 : mPut (mVar 0) (mC (.str "air")) (mBin fCatN (mBin fSub (mVar 0) (mC (.str "air"))) (mLc (mSeq (mBin fSub (mVar 2) (mC (.int 1)))) (mName 4) (mYes) (mTup (mCons (mBin fSubI (mC (.int 1)) (mVar 1)) (mCons (mVar 4) (mNil)))) [4])) [some (.loc q), some (.int (bI i)), some (.tup [enE e, .lst (ls.map ltE)]), some (sK (o.nm i)), none] SA = some (.nx [some (.loc q), some (.int (bI i)), some (.tup [enE e, .lst (ls.map ltE)]), some (sK (o.nm i)), none] SC) :=
    put_of (bin_of (bin_of (var_of rfl) c_of e2) l1 e3) (var_of rfl) c_of e4
  have t4 : mPut (mVar 0) (mC (.str "fresh")) (mBin fCatL (mBin fSub (mVar 0) (mC (.str "fresh"))) (mBin fSub (mVar 2) (mC (.int 1)))) [some (.loc q), some (.int (bI i)), some (.tup [enE e, .lst (ls.map ltE)]), some (sK (o.nm i)), none] SC = some (.nx [some (.loc q), some (.int (bI i)), some (.tup [enE e, .lst (ls.map ltE)]), some (sK (o.nm i)), none] SD) :=
    put_of (bin_of (bin_of (var_of rfl) c_of e5) (bin_of (var_of rfl) c_of (hf1 SC)) (hC SC)) (var_of rfl) c_of e6
  exact body_nx (N := 5) (as := [.loc q, .int (bI i), .tup [enE e, .lst (ls.map ltE)]]) ((then_nx t1).trans ((then_nx t2).trans ((then_nx t3).trans t4)))
end Cw
end
section
/-! CwP20: what an end does of itself; a letter comes; one thing more. -/
namespace Cw
open PySem PySem.Spec PyProof.Rows L2
def En.up (e : En) : En := { e with turn := e.turn + 1, echoes := 0 }
inductive Ev (e : En) (t : Int) : En → List Lt → Bool → Prop where
  | opened : e.stand = .closed → Ev e t (settled (e.up.begun t)) [askL (e.up.begun t)] false
  | closing : e.stand ≠ .closed → Ev e t (e.rest .closed) [byeL e] false
  | out : e.stand ≠ .closed → e.tries = 0 → Ev e t (e.rest .tries) [byeL e] false
  | tick : e.stand ≠ .closed → e.tries ≠ 0 → Ev e t (settled e.low) [if e.given = none then askL e else hereL e] false
  | wishF (ks : List Kd) (ws : List Wish) : e.stand ≠ .closed → ks.Sublist (e.wishes.map (·.k)) → GW ks ws → Ev e t ({ e with wishes := ws }.rest .failed) [byeL e] true
  | wish (ks : List Kd) (ws : List Wish) : e.stand ≠ .closed → ks.Sublist (e.wishes.map (·.k)) → GW ks ws → Ev e t (settled (e.wished ws t)) [askL (e.wished ws t)] true
abbrev keepTest : MG Bool := (mT (mBin fGt (mCallF 2 m_law_draw [] (mCons (mVar 0) (mCons (mC (.int 4)) (mNil)))) (mC (.int 0))))
theorem keep_go (p : Nat) (v1 v2 v3 v4 v5 : Option Val) : ∀ (l : List Wish) (S : Sto) (c : Nat), Pn S p c → c + l.length ≤ 100000 →
    ∃ (ks : List Kd) (S' : Sto), lcGo (mName 6) keepTest (mBin fSub (mVar 6) (mC (.int 0))) [some (.loc p), v1, v2, v3, v4, v5, none] (l.map wishE) S = some (ks.map sK, S') ∧ ks.Sublist (l.map (·.k)) ∧ Fx S S' [p] ∧ Pn S' p (c + l.length)
  | [], S, c, h, _ => ⟨[], S, rfl, List.Sublist.refl _, Fx.refl _ _, h⟩
  | w :: l, S, c, h, hc => by
    simp only [List.length_cons] at hc
    obtain ⟨r, o, d1, d2, d3⟩ := draw h (by omega) 4 (by omega) (by omega)
    obtain ⟨ks, S', i1, i2, i3, i4⟩ := keep_go p v1 v2 v3 v4 v5 l (S.set p o) (c + 1) d3 (by omega)
    have fx : Fx S S' [p] := (fx_set S p o _ (by simp)).trans i3
    have hp : Pn S' p (c + (w :: l).length) := i4.more (by simp; omega)
    have hw : ∀ S', fSub S' (wishE w) (.int 0) = some (sK w.k, S') := fun S' => by simp [wishE, fSub, fIxSeq, seqOf, atI, ixN]
    have g1 : mName 6 (wishE w) [some (.loc p), v1, v2, v3, v4, v5, none] S = some ([some (.loc p), v1, v2, v3, v4, v5, some (wishE w)], S) := rfl
    by_cases hr : 0 < r
    · have g2 : keepTest [some (.loc p), v1, v2, v3, v4, v5, some (wishE w)] S = some (true, S.set p o) := by
        refine t_of (bin_of (callF_of (cons_of (var_of rfl) (cons_of c_of nil_of)) rfl d1) c_of ?_)
        simp [hr]
      have g3 : mBin fSub (mVar 6) (mC (.int 0)) [some (.loc p), v1, v2, v3, v4, v5, some (wishE w)] (S.set p o) = some (sK w.k, S.set p o) := bin_of (var_of rfl) c_of (hw _)
      refine ⟨w.k :: ks, S', ?_, by simpa using i2.cons₂ w.k, fx, hp⟩
      simp only [List.map_cons, lcGo, g1, Option.bind_some, g2, if_true, g3, i1, Option.map_some]
    · have g2 : keepTest [some (.loc p), v1, v2, v3, v4, v5, some (wishE w)] S = some (false, S.set p o) := by
        refine t_of (bin_of (callF_of (cons_of (var_of rfl) (cons_of c_of nil_of)) rfl d1) c_of ?_)
        simp [hr]
      refine ⟨ks, S', ?_, by simpa using i2.cons w.k, fx, hp⟩
      simp only [List.map_cons, lcGo, g1, Option.bind_some, g2]
      exact i1
/-- the pair behind an event at i -/
def Wo.after (o : Wo) (i : Bool) (e : En) (ls : List Lt) (alt : Bool) (m : Nat) : Wo := { o.put i e with n := m, fr := o.fr ++ ls, al := if alt = true then o.al ++ [o.nm i] else o.al }
abbrev doneM (x : M) : MS := mDrop (mCallF 3 m_law_done [] (mCons (mVar 1) (mCons (mVar 2) (mCons x mNil))))
theorem doneM_eq {S S1 : Sto} {q : Nat} {o : Wo} {air : List (Bool × Lt)} {x : M} {ρ : Env'} (i : Bool) (e : En) (ls : List Lt) (h1 : ρ[1]? = some (some (.loc q))) (h2 : ρ[2]? = some (some (.int (bI i)))) (hx : x ρ S = some (.tup [enE e, .lst (ls.map ltE)], S1)) (h : PairAt S1 q o air) (hn : o.nm false ≠ o.nm true)
    (l1 : air.length + ls.length ≤ 100000) (l2 : o.fr.length + ls.length ≤ 100000) :
    ∃ S', doneM x ρ S = some (.nx ρ S') ∧ PairAt S' q (o.after i e ls false S1.length) (air ++ ls.map fun L => (!i, L)) ∧ Fx S1 S' [q] := by
  obtain ⟨S', e1, e2, e3⟩ := done_eq h hn i e ls l1 l2
  exact ⟨S', drop_of (callF_of (cons_of (var_of h1) (cons_of (var_of h2) (cons_of hx nil_of))) rfl e1), e2, e3⟩
theorem PairAt.app {S : Sto} {q : Nat} {o : Wo} {air : List (Bool × Lt)} (h : PairAt S q o air) (J : Sto) : PairAt (S ++ J) q o air :=
  ⟨by rw [List.getElem?_append_left (lt_of h.pair), h.pair], by rw [List.getElem?_append_left (lt_of h.air), h.air]⟩
theorem PairAt.fx {S S' : Sto} {q : Nat} {o : Wo} {air : List (Bool × Lt)} (h : PairAt S q o air) {X : List Nat} (f : Fx S S' X) (h1 : q ∉ X) (h2 : o.n ∉ X) : PairAt S' q o air := ⟨f.at h.pair h1, f.at h.air h2⟩
theorem pen_ob {S : Sto} {p c : Nat} (h : Pn S p c) : ∃ cs a l, S[p]? = some (.dct (penD cs a l)) := by
  obtain ⟨cs, a, l, h⟩ := h
  exact ⟨cs, a, l, h.here⟩
theorem pen_ne {S : Sto} {p c q : Nat} {o : Wo} {air : List (Bool × Lt)} (h : Pn S p c) (g : PairAt S q o air) : q ≠ p ∧ o.n ≠ p := by
  obtain ⟨cs, a, l, h⟩ := pen_ob h
  exact ⟨ob_ne g.pair h (by simp [woD, penD]), ob_ne g.air h (by simp)⟩
theorem Pn.fx {S S' : Sto} {p c : Nat} (h : Pn S p c) {X : List Nat} (f : Fx S S' X) (hx : p ∉ X) : Pn S' p c := by
  obtain ⟨cs, a, l, h⟩ := h
  exact ⟨cs, a, l, f.at h.here hx, h.few, h.a0, h.a1, h.l0⟩
theorem itself_eq {S : Sto} {p c q : Nat} {o : Wo} {air : List (Bool × Lt)} {K : List Kd} (h : PairAt S q o air) (hp : Pn S p c) (hn : o.nm false ≠ o.nm true) (i : Bool) (g : EndOk K (o.en i)) (hnm : (o.en i).name = o.nm i) (way : Nat) (hc : c + 300 ≤ 100000)
    (l1 : air.length + 1 ≤ 100000) (l2 : o.fr.length + 1 ≤ 100000) (l3 : o.al.length + 1 ≤ 100000) :
    ∃ e' ls alt n S', Ev (o.en i) o.t e' ls alt ∧ m_law_of_itself [.loc p, .loc q, .int (bI i), .int (way : Int)] S = some (.non, S') ∧ PairAt S' q (o.after i e' ls alt n) (air ++ ls.map fun L => (!i, L)) ∧ S.length ≤ n ∧ Fx S S' [p, q] ∧ Pn S' p (c + 300) := by
  obtain ⟨n1, n2⟩ := pen_ne hp h
  have nq : o.n ≠ q := ob_ne h.air h.pair (by simp)
  have t1 : mAsg (mBin fSub (mVar 1) (mBin fSub (mBin fSub (mVar 1) (mC (.str "names"))) (mVar 2))) (mName 4) [some (.loc p), some (.loc q), some (.int (bI i)), some (.int (way : Int)), none, none, none] S = some (.nx [some (.loc p), some (.loc q), some (.int (bI i)), some (.int (way : Int)), some (enE (o.en i)), none, none] S) :=
    asg_of (bin_of (var_of rfl) (bin_of (bin_of (var_of rfl) c_of (ps_names h.pair)) (var_of rfl) (ps_nm i S)) (ps_end h.pair hn i)) rfl
  have tc : ∀ (x4 x5 : Option Val) S', mT (mBin fEq (mBin fSub (mVar 4) (mC (.int 2))) (mC (.str "closed"))) [some (.loc p), some (.loc q), some (.int (bI i)), some (.int (way : Int)), some (enE (o.en i)), x4, x5] S' = some (decide ((o.en i).stand = .closed), S') := fun x4 x5 S' => by simp [Sd_str]
  have tm : mBin fSub (mVar 1) (mC (.str "many")) [some (.loc p), some (.loc q), some (.int (bI i)), some (.int (way : Int)), some (enE (o.en i)), none, none] S = some (.int o.t, S) := bin_of (var_of rfl) c_of (ps_many h.pair)
  have fin : ∀ {x : M} {e' : En} {ls : List Lt} {J : Sto}, ls.length ≤ 1 → x [some (.loc p), some (.loc q), some (.int (bI i)), some (.int (way : Int)), some (enE (o.en i)), none, none] S = some (.tup [enE e', .lst (ls.map ltE)], S ++ J) →
      ∃ n S', doneM x [some (.loc p), some (.loc q), some (.int (bI i)), some (.int (way : Int)), some (enE (o.en i)), none, none] S = some (.nx [some (.loc p), some (.loc q), some (.int (bI i)), some (.int (way : Int)), some (enE (o.en i)), none, none] S') ∧
        PairAt S' q (o.after i e' ls false n) (air ++ ls.map fun L => (!i, L)) ∧ S.length ≤ n ∧ Fx S S' [p, q] ∧ Pn S' p (c + 300) := fun {x e' ls J} hl hx => by
    obtain ⟨S', d1, d2, d3⟩ := doneM_eq (q := q) i e' ls rfl rfl hx (h.app J) hn (by omega) (by omega)
    exact ⟨_, S', d1, d2, by simp, (fx_app S J _).trans (d3.mono (by simp)), ((hp.app J).fx d3 (by simpa using n1.symm)).more (by omega)⟩
  have bodyOf : ∀ {S' : Sto} {ρ : Env'} {R : Option Res}, R = some (.nx ρ S') → s_law_of_itself [some (.loc p), some (.loc q), some (.int (bI i)), some (.int (way : Int)), none, none, none] S = R → m_law_of_itself [.loc p, .loc q, .int (bI i), .int (way : Int)] S = some (.non, S') := fun h1 h2 => body_nx (N := 7) (as := [.loc p, .loc q, .int (bI i), .int (way : Int)]) (h2.trans h1)
  by_cases hcl : (o.en i).stand = .closed
  · obtain ⟨J, hJ⟩ := opened_eq (o.en i) S g.small hcl o.t
    obtain ⟨n, S', f1, f2, f3, f4, f5⟩ := fin (x := mCallK 2 1 1 m_opened (fun as bs => as ++ bs) (mCons (mVar 4) (mNil)) (mCons (mBin fSub (mVar 1) (mC (.str "many"))) (mNil))) (e' := settled ((o.en i).up.begun o.t)) (ls := [askL ((o.en i).up.begun o.t)]) (by simp) (callK_of (cons_of (var_of rfl) nil_of) (cons_of tm nil_of) ⟨rfl, rfl, rfl⟩ hJ)
    refine ⟨_, _, false, n, S', .opened hcl, bodyOf f1 ?_, f2, f3, f4, f5⟩
    refine (then_nx t1).trans ((ifs_of (tc _ _ _)).trans ?_)
    rw [decide_eq_true hcl, if_pos rfl]
  have hc2 : decide ((o.en i).stand = .closed) = false := decide_eq_false hcl
  have w0 : mT (mBin fEq (mVar 3) (mC (.int 0))) [some (.loc p), some (.loc q), some (.int (bI i)), some (.int (way : Int)), some (enE (o.en i)), none, none] S = some (decide (way = 0), S) := by simp
  have w1 : mT (mBin fEq (mVar 3) (mC (.int 1))) [some (.loc p), some (.loc q), some (.int (bI i)), some (.int (way : Int)), some (enE (o.en i)), none, none] S = some (decide ((way : Int) = 1), S) := by simp
  by_cases h0 : way = 0
  · obtain ⟨J, hJ⟩ := closing_eq (o.en i) S hcl
    obtain ⟨n, S', f1, f2, f3, f4, f5⟩ := fin (x := mCallF 1 m_closing [] (mCons (mVar 4) (mNil))) (ls := [byeL (o.en i)]) (by simp) (callF_of (cons_of (var_of rfl) nil_of) rfl hJ)
    refine ⟨_, _, false, n, S', .closing hcl, bodyOf f1 ?_, f2, f3, f4, f5⟩
    refine (then_nx t1).trans ((ifs_of (tc _ _ _)).trans ?_)
    rw [hc2, if_neg (by simp), ifs_of w0, decide_eq_true h0, if_pos rfl]
  have hw0 : decide (way = 0) = false := decide_eq_false h0
  by_cases h1 : (way : Int) = 1
  · obtain ⟨ks, S1, k1, k2, k3, k4⟩ := keep_go p (some (.loc q)) (some (.int (bI i))) (some (.int (way : Int))) (some (enE (o.en i))) none (o.en i).wishes S c hp (by have := g.wlen; omega)
    have wl := g.wlen
    have ksl : ks.length ≤ 3 := by have := k2.length_le; simp at this; omega
    obtain ⟨ws, S2, x1, x2, x3, x4⟩ := wishes_eq k4 ks 3 (by omega) (by omega) (by omega) (by omega)
    have f12 : Fx S S2 [p] := k3.trans x3
    have h2 : PairAt S2 q o air := h.fx f12 (by simpa using n1) (by simpa using n2)
    have hp2 : Pn S2 p (c + 250) := x4.more (by omega)
    have wsl : ws.length ≤ 3 := by
      have := x2.1.length_eq
      simp at this
      omega
    have sm : Small ws := ⟨by omega, fun w hw => by have := (x2.2 w hw).2.1; omega⟩
    have u1 : mAsg (mCallF 3 m_law_wishes [] (mCons (mVar 0) (mCons (mLc (mSeq (mBin fSub (mVar 4) (mC (.int 1)))) (mName 6) keepTest (mBin fSub (mVar 6) (mC (.int 0))) [6]) (mCons (mC (.int 3)) (mNil))))) (mName 5) [some (.loc p), some (.loc q), some (.int (bI i)), some (.int (way : Int)), some (enE (o.en i)), none, none] S = some (.nx [some (.loc p), some (.loc q), some (.int (bI i)), some (.int (way : Int)), some (enE (o.en i)), some (wishesE ws), none] S2) := by
      refine asg_of (callF_of (cons_of (var_of rfl) (cons_of (lc_of (vs := (o.en i).wishes.map wishE) ?_ (by simp; omega) k1) (cons_of c_of nil_of))) rfl x1) rfl
      rw [s_mSeqT, bin_of (var_of rfl) c_of (en_1 S (o.en i))]
      rfl
    have u2 : mPut (mVar 1) (mC (.str "altered")) (mBin fCatL (mBin fSub (mVar 1) (mC (.str "altered"))) (mLst (mCons (mBin fSub (mVar 4) (mC (.int 0))) (mNil)))) [some (.loc p), some (.loc q), some (.int (bI i)), some (.int (way : Int)), some (enE (o.en i)), some (wishesE ws), none] S2 =
        some (.nx [some (.loc p), some (.loc q), some (.int (bI i)), some (.int (way : Int)), some (enE (o.en i)), some (wishesE ws), none] (S2.set q (.dct (woD { o with al := o.al ++ [o.nm i] })))) := by
      refine put_of (bin_of (bin_of (var_of rfl) c_of (ps_altered h2.pair)) (y := .lst [sK (o.nm i)]) (S2 := S2) ?_ (v := .lst ((o.al ++ [o.nm i]).map sK)) (S' := S2) ?_) (var_of rfl) c_of (pp_altered h2.pair _)
      · simp [hnm]
      · simp [fCatL, lstOf]
        omega
    have h3 : PairAt (S2.set q (.dct (woD { o with al := o.al ++ [o.nm i] }))) q { o with al := o.al ++ [o.nm i] } air := ⟨set_at h2.pair, set_off h2.air nq⟩
    have f3 : Fx S2 (S2.set q (.dct (woD { o with al := o.al ++ [o.nm i] }))) [p, q] := fx_set _ _ _ _ (by simp)
    have hp3 : Pn (S2.set q (.dct (woD { o with al := o.al ++ [o.nm i] }))) p (c + 250) := hp2.put n1
    generalize hS3 : S2.set q (.dct (woD { o with al := o.al ++ [o.nm i] })) = S3 at *
    have tm3 : mBin fSub (mVar 1) (mC (.str "many")) [some (.loc p), some (.loc q), some (.int (bI i)), some (.int (way : Int)), some (enE (o.en i)), some (wishesE ws), none] S3 = some (.int o.t, S3) := bin_of (var_of rfl) c_of (ps_many (o := { o with al := o.al ++ [o.nm i] }) h3.pair)
    have fin3 : ∀ {e' : En} {ls : List Lt}, ls.length ≤ 1 → Gives (m_wished [enE (o.en i), wishesE ws, .int o.t] S3) (.tup [enE e', .lst (ls.map ltE)]) S3 →
        ∃ n S', m_law_of_itself [.loc p, .loc q, .int (bI i), .int (way : Int)] S = some (.non, S') ∧ PairAt S' q (o.after i e' ls true n) (air ++ ls.map fun L => (!i, L)) ∧ S.length ≤ n ∧ Fx S S' [p, q] ∧ Pn S' p (c + 300) := fun {e' ls} hl hx => by
      obtain ⟨J, hJ⟩ := hx
      obtain ⟨S', d1, d2, d3⟩ := doneM_eq (q := q) (ρ := [some (.loc p), some (.loc q), some (.int (bI i)), some (.int (way : Int)), some (enE (o.en i)), some (wishesE ws), none]) (x := mCallK 3 2 1 m_wished (fun as bs => as ++ bs) (mCons (mVar 4) (mCons (mVar 5) (mNil))) (mCons (mBin fSub (mVar 1) (mC (.str "many"))) (mNil))) i e' ls rfl rfl
        (callK_of (cons_of (var_of rfl) (cons_of (var_of rfl) nil_of)) (cons_of tm3 nil_of) ⟨rfl, rfl, rfl⟩ hJ) (h3.app J) hn (by omega) (by simpa using by omega)
      refine ⟨_, S', bodyOf d1 ?_, d2, ?_, (((f12.mono (by simp)).trans f3).trans (fx_app _ _ _)).trans (d3.mono (by simp)), ((hp3.app J).fx d3 (by simpa using n1.symm)).more (by omega)⟩
      · refine (then_nx t1).trans ((ifs_of (tc _ _ _)).trans ?_)
        rw [hc2, if_neg (by simp), ifs_of w0, hw0, if_neg (by simp), ifs_of w1, decide_eq_true h1, if_pos rfl]
        exact (then_nx u1).trans (then_nx u2)
      · have a := f12.len
        have b := f3.len
        simp
        omega
    rcases wished_on (o.en i) ws S3 o.t hcl sm with hx | hx
    · obtain ⟨n, S', y⟩ := fin3 (ls := [byeL (o.en i)]) (by simp) hx
      exact ⟨_, _, true, n, S', .wishF ks ws hcl k2 x2, y⟩
    · obtain ⟨n, S', y⟩ := fin3 (ls := [askL ((o.en i).wished ws o.t)]) (by simp) hx
      exact ⟨_, _, true, n, S', .wish ks ws hcl k2 x2, y⟩
  have hw1 : decide ((way : Int) = 1) = false := decide_eq_false h1
  have run : ∀ {R : Option Res}, doneM (mCallF 1 m_ticked [] (mCons (mVar 4) (mNil))) [some (.loc p), some (.loc q), some (.int (bI i)), some (.int (way : Int)), some (enE (o.en i)), none, none] S = R → s_law_of_itself [some (.loc p), some (.loc q), some (.int (bI i)), some (.int (way : Int)), none, none, none] S = R := fun hR => by
    refine (then_nx t1).trans ((ifs_of (tc _ _ _)).trans ?_)
    rw [hc2, if_neg (by simp), ifs_of w0, hw0, if_neg (by simp), ifs_of w1, hw1, if_neg (by simp)]
    exact hR
  by_cases ht : (o.en i).tries = 0
  · obtain ⟨J, hJ⟩ := ticked_out (o.en i) S hcl ht
    obtain ⟨n, S', f1, f2, f3, f4, f5⟩ := fin (x := mCallF 1 m_ticked [] (mCons (mVar 4) (mNil))) (ls := [byeL (o.en i)]) (by simp) (callF_of (cons_of (var_of rfl) nil_of) rfl hJ)
    exact ⟨_, _, false, n, S', .out hcl ht, bodyOf f1 (run rfl), f2, f3, f4, f5⟩
  · have go := g.op hcl
    obtain ⟨J, hJ⟩ := ticked_on (o.en i) S ⟨g.small, by simpa using congrArg List.length go.kinds⟩ hcl ht
    obtain ⟨n, S', f1, f2, f3, f4, f5⟩ := fin (x := mCallF 1 m_ticked [] (mCons (mVar 4) (mNil))) (ls := [if (o.en i).given = none then askL (o.en i) else hereL (o.en i)]) (by simp) (callF_of (cons_of (var_of rfl) nil_of) rfl hJ)
    exact ⟨_, _, false, n, S', .tick hcl ht, bodyOf f1 (run rfl), f2, f3, f4, f5⟩
end Cw
end
section
/-! CwP21: a letter comes; one thing more. -/
namespace Cw
open PySem PySem.Spec PyProof.Rows L2
def isAns (w : Wd) : Prop := w = .yes ∨ w = .no ∨ w = .rather
structure LOk (nm : Kd) (my oy : Int) (L : Lt) : Prop where
  who : L.who = nm
  few : L.pairs.length ≤ 10
  ask : L.w = .ask → 1 ≤ L.number ∧ L.yours ≤ my
  ans : isAns L.w → L.mine ≤ oy
structure WOk (K : Bool → List Kd) (o : Wo) (air : List (Bool × Lt)) : Prop where
  ne : o.nm false ≠ o.nm true
  en : ∀ i, EndOk (K i) (o.en i)
  nm : ∀ i, (o.en i).name = o.nm i
  last : ∀ i l, (o.en i).last = some l → isAns l.w ∧ LOk (o.nm i) (o.en i).yours (o.en (!i)).yours l
  air : ∀ x, x ∈ air → LOk (o.nm (!x.1)) (o.en (!x.1)).yours (o.en x.1).yours x.2
  bd : ∀ i q, q ∈ (o.bk i).bd → q.2 ≠ []
  t0 : 0 ≤ o.t
  t1 : o.t ≤ 9
theorem WOk.nm_ne {K : Bool → List Kd} {o : Wo} {air : List (Bool × Lt)} (h : WOk K o air) (i : Bool) : o.nm (!i) ≠ o.nm i := by
  cases i
  · exact h.ne.symm
  · exact h.ne
theorem okN_ltE (L : Lt) : OkN 3 (ltE L) := okN_tup fun v hv => by
  have : v = sK L.who ∨ v = .str (wS L.w) ∨ v = .int L.mine ∨ v = .int L.yours ∨ v = .int L.number ∨ v = prsE L.pairs := by simpa using hv
  rcases this with rfl | rfl | rfl | rfl | rfl | rfl
  · exact (okN_sK _).mono (by decide)
  · exact (okN_str (wS_ok _)).mono (by decide)
  · exact (okN_int _).mono (by decide)
  · exact (okN_int _).mono (by decide)
  · exact (okN_int _).mono (by decide)
  · exact okN_prsE _
theorem okN_airE (x : Bool × Lt) : OkN 4 (airE x) := okN_tup fun v hv => by
  have : v = .int (bI x.1) ∨ v = ltE x.2 := by simpa using hv
  rcases this with rfl | rfl
  · exact (okN_int _).mono (by decide)
  · exact okN_ltE _
theorem fEq_loc0 {α : Type} {f : α → Val} {d : Nat} (hf : ∀ a, OkN d (f a)) (hd : d + 1 ≤ 64) {S : Sto} {n : Nat} {xs : List α} (h : S[n]? = some (.lst (xs.map f))) :
    fEq S (.loc n) (.lst []) = some (.bl xs.isEmpty, S) := by
  have h0 : okV (.lst []) = true := by decide
  have e : dr S (.loc n) = .lst (xs.map f) := by simp [dr, h]
  unfold fEq
  rw [e, dr_lst, if_pos ⟨(okN_mapL hf xs).ok hd, h0⟩, lst_nil]
  cases xs <;> rfl
theorem heard_len {e e' : En} {L : Lt} {t : Int} {ls : List Lt} (h : Heard e L t e' ls) : ls.length ≤ 2 := by
  cases h with
  | shut _ => simp
  | back _ => simp
  | old _ _ => simp
  | word e2 ls _ _ _ w => have := word_len w; omega
  | begins _ _ => simp
  | beginsWord e2 ls _ _ _ w => have := word_len w; simp; omega
theorem ev_len {e e' : En} {t : Int} {ls : List Lt} {alt : Bool} (h : Ev e t e' ls alt) : ls.length ≤ 1 := by cases h <;> simp
inductive Led (o : Wo) (air : List (Bool × Lt)) : Wo → List (Bool × Lt) → Prop where
  | only (air' : List (Bool × Lt)) : (∀ x, x ∈ air' → x ∈ air) → air'.length ≤ air.length + 1 → Led o air o air'
  | event (i : Bool) (e' : En) (ls : List Lt) (alt : Bool) (n : Nat) (air0 : List (Bool × Lt)) : (Ev (o.en i) o.t e' ls alt ∨ (alt = false ∧ ∃ L, (i, L) ∈ air ∧ Heard (o.en i) L o.t e' ls)) → (∀ x, x ∈ air0 → x ∈ air) → air0.length ≤ air.length → ls.length ≤ 2 →
      Led o air (o.after i e' ls alt n) (air0 ++ ls.map fun L => (!i, L))
theorem comes_eq {S : Sto} {q : Nat} {o : Wo} {air : List (Bool × Lt)} {K : Bool → List Kd} (h : PairAt S q o air) (g : WOk K o air) (r : Nat) (hr : r < air.length) (l1 : air.length + 2 ≤ 100000) (l2 : o.fr.length + 2 ≤ 100000) :
    ∃ i L e' ls n S', (i, L) ∈ air ∧ Heard (o.en i) L o.t e' ls ∧ m_law_comes [.loc q, .int (r : Int)] S = some (.non, S') ∧ PairAt S' q (o.after i e' ls false n) (air.eraseIdx r ++ ls.map fun L => (!i, L)) ∧ S.length ≤ n ∧ Fx S S' [q, o.n] := by
  have nq : o.n ≠ q := ob_ne h.air h.pair (by simp)
  have hm : air[r] ∈ air := List.getElem_mem hr
  have pop := pop_at airE h.air hr (by omega)
  rcases hx : air[r] with ⟨i, L⟩
  rw [hx] at hm pop
  have gl := g.air _ hm
  have ge := g.en i
  have gne : L.who ≠ (o.en i).name := by
    rw [gl.who, g.nm i]
    exact g.nm_ne i
  have s1 : PairAt (S.set o.n (.lst ((air.eraseIdx r).map airE))) q o (air.eraseIdx r) := ⟨set_off h.pair nq.symm, set_at h.air⟩
  have el : (air.eraseIdx r).length = air.length - 1 := List.length_eraseIdx_of_lt hr
  obtain ⟨e', ls, w1, J, w2⟩ := heard_eq (o.en i) (S.set o.n (.lst ((air.eraseIdx r).map airE))) ge.small (fun hc => (ge.op hc).hears ge) L (o.bk i).bd o.t gne (fun ha => (gl.ask ha).1) (g.bd i) gl.few
  have hl := heard_len w1
  obtain ⟨S', d1, d2, d3⟩ := done_eq (s1.app J) g.ne i e' ls (by omega) (by omega)
  refine ⟨i, L, e', ls, _, S', hm, w1, ?_, d2, by simp, ((fx_set S o.n _ _ (by simp)).trans (fx_app _ J _)).trans (d3.mono (by simp))⟩
  have t1 : mAsg (mMeth fPopAt (mBin fSub (mVar 0) (mC (.str "air"))) (mCons (mVar 1) (mNil))) (mTTup 2 (mTCons (mName 2) (mTCons (mName 3) (mTNil)))) [some (.loc q), some (.int (r : Int)), none, none, none] S =
      some (.nx [some (.loc q), some (.int (r : Int)), some (.int (bI i)), some (ltE L), none] (S.set o.n (.lst ((air.eraseIdx r).map airE)))) := by
    refine asg_of (meth_of (bin_of (var_of rfl) c_of (ps_air h.pair)) (by simp [isL, lstOf, h.air]) (cons_of (var_of rfl) nil_of) pop) ?_
    simp [airE]
  have t2 : mAsg (mBin fSub (mBin fSub (mVar 0) (mC (.str "names"))) (mVar 2)) (mName 4) [some (.loc q), some (.int (r : Int)), some (.int (bI i)), some (ltE L), none] (S.set o.n (.lst ((air.eraseIdx r).map airE))) =
      some (.nx [some (.loc q), some (.int (r : Int)), some (.int (bI i)), some (ltE L), some (sK (o.nm i))] (S.set o.n (.lst ((air.eraseIdx r).map airE)))) :=
    asg_of (bin_of (bin_of (var_of rfl) c_of (ps_names s1.pair)) (var_of rfl) (ps_nm i _)) rfl
  have hb : ∀ S', fSub S' (bookE (o.bk i)) (.int 1) = some (planE (o.bk i).bd, S') := fun S' => by simp [bookE, fSub, fIxSeq, seqOf, atI, ixN]
  have t3 := drop_of (ρ := [some (.loc q), some (.int (r : Int)), some (.int (bI i)), some (ltE L), some (sK (o.nm i))]) (callF_of (n := 3) (F := m_law_done) (dv := []) (cons_of (a := mVar 0) (var_of rfl) (cons_of (a := mVar 2) (var_of rfl) (cons_of (callK_of (n := 4) (np := 3) (nk := 1) (F := m_heard) (g := fun as bs => as ++ bs)
    (cons_of (bin_of (a := mVar 0) (b := mVar 4) (var_of rfl) (var_of rfl) (ps_end s1.pair g.ne i)) (cons_of (a := mVar 3) (var_of rfl) (cons_of (bin_of (a := mBin fSub (mBin fSub (mVar 0) (mC (.str "books"))) (mVar 2)) (b := mC (.int 1)) (bin_of (bin_of (var_of rfl) c_of (ps_books s1.pair)) (var_of rfl) (ps_bk i _)) c_of (hb _)) nil_of)))
    (cons_of (bin_of (a := mVar 0) (b := mC (.str "many")) (var_of rfl) c_of (ps_many s1.pair)) nil_of) ⟨rfl, rfl, rfl⟩ w2) nil_of))) rfl d1)
  exact body_nx (N := 5) (as := [.loc q, .int (r : Int)]) ((then_nx t1).trans ((then_nx t2).trans t3))
theorem bin_at {i : Bool} : ∀ {r : Nat}, (r : Int) < 2 → i = decide (r = 1) → Val.int (r : Int) = .int (bI i)
  | 0, _, e => by subst e; rfl
  | 1, _, e => by subst e; rfl
  | r + 2, h, _ => by omega
abbrev spotM : M := (mBin fSub (mLst (mCons (mC (.int 0)) (mCons (mC (.int 0)) (mCons (mCallF 2 m_law_draw [] (mCons (mVar 0) (mCons (mCall fMax2 (mCons (mC (.int 1)) (mCons (mCall fLen (mCons (mBin fSub (mVar 1) (mC (.str "air"))) (mNil))) (mNil)))) (mNil)))) (mNil))))) (mCallF 2 m_law_draw [] (mCons (mVar 0) (mCons (mC (.int 3)) (mNil)))))
theorem spot_eq {S : Sto} {p c q : Nat} {o : Wo} {air : List (Bool × Lt)} (h : PairAt S q o air) (hp : Pn S p c) (hc : c + 2 ≤ 100000) (hl : air.length ≤ 90000) (x2 x3 x4 : Option Val) :
    ∃ (r : Nat) (S' : Sto), spotM [some (.loc p), some (.loc q), x2, x3, x4] S = some (.int (r : Int), S') ∧ (0 < air.length → r < air.length) ∧ Fx S S' [p] ∧ Pn S' p (c + 2) := by
  obtain ⟨m, hm, m1, m2⟩ : ∃ m : Nat, fMax2 S [.int 1, .int (air.length : Int)] = some (.int (m : Int), S) ∧ 1 ≤ m ∧ (m = air.length ∨ (m = 1 ∧ air.length ≤ 1)) := by
    by_cases z : 1 < air.length
    · exact ⟨air.length, by simp [fMax2]; omega, by omega, .inl rfl⟩
    · exact ⟨1, by simp [fMax2]; omega, by omega, .inr ⟨rfl, by omega⟩⟩
  obtain ⟨r1, o1, d1, d2, d3⟩ := draw hp (by omega) (m : Int) (by omega) (by omega)
  obtain ⟨r2, o2, e1, e2, e3⟩ := draw d3 (by omega) 3 (by omega) (by omega)
  have la : fLen S [.loc o.n] = some (.int (air.length : Int), S) := by simp [fLen, seqOf, h.air]
  obtain ⟨r, hr, hr2⟩ : ∃ r : Nat, atI [Val.int 0, .int 0, .int (r1 : Int)] (r2 : Int) = some (.int (r : Int)) ∧ (0 < air.length → r < air.length) := by
    have : r2 = 0 ∨ r2 = 1 ∨ r2 = 2 := by omega
    rcases this with rfl | rfl | rfl
    · exact ⟨0, rfl, fun z => z⟩
    · exact ⟨0, rfl, fun z => z⟩
    · exact ⟨r1, rfl, fun z => by omega⟩
  refine ⟨r, (S.set p o1).set p o2, ?_, hr2, (fx_set S p o1 _ (by simp)).trans (fx_set _ p o2 _ (by simp)), e3⟩
  have v : mCallF 2 m_law_draw [] (mCons (mVar 0) (mCons (mCall fMax2 (mCons (mC (.int 1)) (mCons (mCall fLen (mCons (mBin fSub (mVar 1) (mC (.str "air"))) (mNil))) (mNil)))) (mNil))) [some (.loc p), some (.loc q), x2, x3, x4] S = some (.int (r1 : Int), S.set p o1) := by
    refine callF_of (cons_of (var_of rfl) (cons_of (v := .int (m : Int)) (S1 := S) ?_ nil_of)) rfl d1
    rw [s_mCall, cons_of c_of (cons_of (v := .int (air.length : Int)) (S1 := S) ?_ nil_of)]
    · exact hm
    · rw [s_mCall, cons_of (bin_of (var_of rfl) c_of (ps_air h.pair)) nil_of]
      exact la
  have l : mLst (mCons (mC (.int 0)) (mCons (mC (.int 0)) (mCons (mCallF 2 m_law_draw [] (mCons (mVar 0) (mCons (mCall fMax2 (mCons (mC (.int 1)) (mCons (mCall fLen (mCons (mBin fSub (mVar 1) (mC (.str "air"))) (mNil))) (mNil)))) (mNil)))) (mNil)))) [some (.loc p), some (.loc q), x2, x3, x4] S = some (.lst [.int 0, .int 0, .int (r1 : Int)], S.set p o1) := by
    rw [s_mLst, cons_of c_of (cons_of c_of (cons_of v nil_of)), Option.bind_some]
    rfl
  refine bin_of l (callF_of (cons_of (var_of rfl) (cons_of c_of nil_of)) rfl e1) ?_
  simp [fSub, fIxSeq, seqOf, hr]
theorem ifs_t {c : MG Bool} {a b : MS} {ρ : Env'} {S S1 : Sto} (h : c ρ S = some (true, S1)) : mIfS c a b ρ S = a ρ S1 := by rw [ifs_of h, if_pos rfl]
theorem ifs_f {c : MG Bool} {a b : MS} {ρ : Env'} {S S1 : Sto} (h : c ρ S = some (false, S1)) : mIfS c a b ρ S = b ρ S1 := by rw [ifs_of h]; rfl
theorem or_t {a b : MG Bool} {ρ : Env'} {S S1 : Sto} (h : a ρ S = some (true, S1)) : mOrT a b ρ S = some (true, S1) := by rw [s_mOrT, h]; rfl
theorem or_f {a b : MG Bool} {ρ : Env'} {S S1 : Sto} {r : Option (Bool × Sto)} (h : a ρ S = some (false, S1)) (h2 : b ρ S1 = r) : mOrT a b ρ S = r := by rw [s_mOrT, h]; exact h2
abbrev airTest : MG Bool := (mOrT (mT (mBin fEq (mBin fSub (mVar 1) (mC (.str "air"))) (mLst (mNil)))) (mT (mBin fGt (mVar 2) (mC (.int 9)))))
abbrev ledEnd : MS := (mIfS airTest (mDrop (mCallF 4 m_law_of_itself [] (mCons (mVar 0) (mCons (mVar 1) (mCons (mVar 3) (mCons (mCallF 2 m_law_draw [] (mCons (mVar 0) (mCons (mC (.int 9)) (mNil)))) (mNil))))))) (mIfS (mT (mBin fEq (mVar 2) (mC (.int 0)))) (mDrop (mMeth fPopAt (mBin fSub (mVar 1) (mC (.str "air"))) (mCons (mVar 4) (mNil)))) (mIfS (mT (mBin fEq (mVar 2) (mC (.int 1)))) (mDrop (mMeth fAppend (mBin fSub (mVar 1) (mC (.str "air"))) (mCons (mBin fSub (mBin fSub (mVar 1) (mC (.str "air"))) (mVar 4)) (mNil)))) (mDrop (mCallF 2 m_law_comes [] (mCons (mVar 1) (mCons (mVar 4) (mNil))))))))
theorem led_end {S : Sto} {p c q : Nat} {o : Wo} {air : List (Bool × Lt)} {K : Bool → List Kd} (h : PairAt S q o air) (hp : Pn S p c) (g : WOk K o air) (way r : Nat) (i : Bool) (hr : 0 < air.length → r < air.length) (hc : c + 301 ≤ 100000) (l1 : air.length ≤ 90000) (l2 : o.fr.length + 2 ≤ 90000) (l3 : o.al.length + 1 ≤ 90000) :
    ∃ o' air' S' ρ, Led o air o' air' ∧ ledEnd [some (.loc p), some (.loc q), some (.int (way : Int)), some (.int (bI i)), some (.int (r : Int))] S = some (.nx ρ S') ∧ PairAt S' q o' air' ∧ (o'.n = o.n ∨ S.length ≤ o'.n) ∧ Fx S S' [p, q, o.n] ∧ Pn S' p (c + 301) := by
  obtain ⟨n1, n2⟩ := pen_ne hp h
  have nq : o.n ≠ q := ob_ne h.air h.pair (by simp)
  have a1 : mT (mBin fEq (mBin fSub (mVar 1) (mC (.str "air"))) (mLst (mNil))) [some (.loc p), some (.loc q), some (.int (way : Int)), some (.int (bI i)), some (.int (r : Int))] S = some (air.isEmpty, S) :=
    t_of (bin_of (bin_of (var_of rfl) c_of (ps_air h.pair)) (y := .lst []) (S2 := S) rfl (fEq_loc0 okN_airE (by decide) h.air))
  have self : (airTest [some (.loc p), some (.loc q), some (.int (way : Int)), some (.int (bI i)), some (.int (r : Int))] S = some (true, S)) →
      ∃ o' air' S' ρ, Led o air o' air' ∧ ledEnd [some (.loc p), some (.loc q), some (.int (way : Int)), some (.int (bI i)), some (.int (r : Int))] S = some (.nx ρ S') ∧ PairAt S' q o' air' ∧ (o'.n = o.n ∨ S.length ≤ o'.n) ∧ Fx S S' [p, q, o.n] ∧ Pn S' p (c + 301) := fun ht => by
    obtain ⟨w2, o1, d1, d2, d3⟩ := draw hp (by omega) 9 (by omega) (by omega)
    have h1 : PairAt (S.set p o1) q o air := h.fx (fx_set S p o1 [p] (by simp)) (by simpa using n1) (by simpa using n2)
    obtain ⟨e', ls, alt, n, S', v1, v2, v3, v4, v5, v6⟩ := itself_eq h1 d3 g.ne i (g.en i) (g.nm i) w2 (by omega) (by omega) (by omega) (by omega)
    refine ⟨_, _, S', _, .event i e' ls alt n air (.inl v1) (fun x hx => hx) (Nat.le_refl _) (by have := ev_len v1; omega), (ifs_t ht).trans (drop_of (callF_of (cons_of (var_of rfl) (cons_of (var_of rfl) (cons_of (var_of rfl) (cons_of (callF_of (cons_of (var_of rfl) (cons_of c_of nil_of)) rfl d1) nil_of)))) rfl v2)), v3, .inr (show S.length ≤ n from by simpa using v4), ((fx_set S p o1 _ (by simp)).trans v5).mono (by simp <;> omega), v6.more (by omega)⟩
  by_cases h0 : air = []
  · subst h0
    exact self (or_t a1)
  have hpos : 0 < air.length := List.length_pos_iff.mpr h0
  have hrl := hr hpos
  have ae : air.isEmpty = false := by cases air <;> simp at h0 ⊢
  rw [ae] at a1
  by_cases h9 : 9 < way
  · refine self (or_f a1 ?_)
    simp
    omega
  have af : airTest [some (.loc p), some (.loc q), some (.int (way : Int)), some (.int (bI i)), some (.int (r : Int))] S = some (false, S) := by
    refine or_f a1 ?_
    simp
    omega
  have pa := fun (S' : Sto) (hh : S'[q]? = some (.dct (woD o))) => bin_of (a := mVar 1) (b := mC (.str "air")) (ρ := [some (.loc p), some (.loc q), some (.int (way : Int)), some (.int (bI i)), some (.int (r : Int))]) (var_of rfl) c_of (ps_air hh)
  have isl : isL S (.loc o.n) = true := by simp [isL, lstOf, h.air]
  by_cases w0 : way = 0
  · have t0 : mT (mBin fEq (mVar 2) (mC (.int 0))) [some (.loc p), some (.loc q), some (.int (way : Int)), some (.int (bI i)), some (.int (r : Int))] S = some (true, S) := by simp [w0]
    have pop := pop_at airE h.air hrl (by omega)
    refine ⟨o, air.eraseIdx r, S.set o.n (.lst ((air.eraseIdx r).map airE)), _, .only _ (fun x hx => List.mem_of_mem_eraseIdx hx) (by rw [List.length_eraseIdx_of_lt hrl]; omega), (ifs_f af).trans ((ifs_t t0).trans (drop_of (meth_of (pa S h.pair) isl (cons_of (var_of rfl) nil_of) pop))), ⟨set_off h.pair nq.symm, set_at h.air⟩, .inl rfl, fx_set _ _ _ _ (by simp), (hp.put n2).more (by omega)⟩
  have t0 : mT (mBin fEq (mVar 2) (mC (.int 0))) [some (.loc p), some (.loc q), some (.int (way : Int)), some (.int (bI i)), some (.int (r : Int))] S = some (false, S) := by simp [w0]
  by_cases w1 : (way : Int) = 1
  · have t1 : mT (mBin fEq (mVar 2) (mC (.int 1))) [some (.loc p), some (.loc q), some (.int (way : Int)), some (.int (bI i)), some (.int (r : Int))] S = some (true, S) := by simp [w1]
    have hat : fSub S (.loc o.n) (.int (r : Int)) = some (airE air[r], S) := by
      have : atI (air.map airE) (r : Int) = some (airE air[r]) := atI_nat (by rw [List.getElem?_map, List.getElem?_eq_getElem hrl]; rfl)
      simp [fSub, h.air, fIxSeq, seqOf, this]
    have app := append_at airE h.air air[r] _ rfl (by omega)
    refine ⟨o, air ++ [air[r]], S.set o.n (.lst ((air ++ [air[r]]).map airE)), _, .only _ (fun x hx => ?_) (by simp), (ifs_f af).trans ((ifs_f t0).trans ((ifs_t t1).trans (drop_of (meth_of (pa S h.pair) isl (cons_of (bin_of (pa S h.pair) (var_of rfl) hat) nil_of) app)))), ⟨set_off h.pair nq.symm, set_at h.air⟩, .inl rfl, fx_set _ _ _ _ (by simp), (hp.put n2).more (by omega)⟩
    rcases List.mem_append.mp hx with hx | hx
    · exact hx
    · rw [List.mem_singleton.mp hx]; exact List.getElem_mem hrl
  have t1 : mT (mBin fEq (mVar 2) (mC (.int 1))) [some (.loc p), some (.loc q), some (.int (way : Int)), some (.int (bI i)), some (.int (r : Int))] S = some (false, S) := by simp [w1]
  obtain ⟨i2, L, e', ls, n, S', v1, v2, v3, v4, v5, v6⟩ := comes_eq h g r hrl (by omega) (by omega)
  refine ⟨_, _, S', _, .event i2 e' ls false n (air.eraseIdx r) (.inr ⟨rfl, L, v1, v2⟩) (fun x hx => List.mem_of_mem_eraseIdx hx) (by rw [List.length_eraseIdx_of_lt hrl]; omega) (heard_len v2), (ifs_f af).trans ((ifs_f t0).trans ((ifs_f t1).trans (drop_of (callF_of (cons_of (var_of rfl) (cons_of (var_of rfl) nil_of)) rfl v3)))), v4, .inr v5, v6.mono (by simp <;> omega), (hp.fx v6 (by simp; exact ⟨n1.symm, n2.symm⟩)).more (by omega)⟩
theorem s_law_led_eq : s_law_led = mThen (mAsg (drawM (mVar 0) (mC (.int 12))) (mName 2)) (mThen (mAsg (drawM (mVar 0) (mC (.int 2))) (mName 3)) (mThen (mAsg spotM (mName 4)) ledEnd)) := rfl
theorem led_eq {S : Sto} {p c q : Nat} {o : Wo} {air : List (Bool × Lt)} {K : Bool → List Kd} (h : PairAt S q o air) (hp : Pn S p c) (g : WOk K o air) (hc : c + 305 ≤ 100000) (l1 : air.length ≤ 90000) (l2 : o.fr.length + 2 ≤ 90000) (l3 : o.al.length + 1 ≤ 90000) :
    ∃ o' air' S', Led o air o' air' ∧ m_law_led [.loc p, .loc q] S = some (.non, S') ∧ PairAt S' q o' air' ∧ (o'.n = o.n ∨ S.length ≤ o'.n) ∧ Fx S S' [p, q, o.n] ∧ Pn S' p (c + 305) := by
  obtain ⟨n1, n2⟩ := pen_ne hp h
  obtain ⟨w, o1, a1, a2, a3⟩ := draw hp (by omega) 12 (by omega) (by omega)
  obtain ⟨b, o2, b1, b2, b3⟩ := draw a3 (by omega) 2 (by omega) (by omega)
  have f2 : Fx S ((S.set p o1).set p o2) [p] := (fx_set S p o1 _ (by simp)).trans (fx_set _ p o2 _ (by simp))
  have h2 : PairAt ((S.set p o1).set p o2) q o air := h.fx f2 (by simpa using n1) (by simpa using n2)
  rw [bin_at b2 rfl] at b1
  obtain ⟨r, S3, c1, c2, c3, c4⟩ := spot_eq h2 b3 (by omega) l1 (some (.int (w : Int))) (some (.int (bI (decide (b = 1))))) none
  have h3 := h2.fx c3 (by simpa using n1) (by simpa using n2)
  obtain ⟨o', air', S', ρ, d1, d2, d3, d4, d5, d6⟩ := led_end h3 c4 g w r (decide (b = 1)) c2 (by omega) l1 l2 l3
  have f3 := f2.trans c3
  refine ⟨o', air', S', d1, ?_, d3, ?_, (f3.mono (by simp)).trans d5, d6.more (by omega)⟩
  · refine body_nx (N := 5) (as := [.loc p, .loc q]) (ρ := ρ) ?_
    rw [s_law_led_eq]
    have t1 : mAsg (drawM (mVar 0) (mC (.int 12))) (mName 2) [some (.loc p), some (.loc q), none, none, none] S = some (.nx [some (.loc p), some (.loc q), some (.int (w : Int)), none, none] (S.set p o1)) := asg_of (callF_of (cons_of (var_of rfl) (cons_of c_of nil_of)) rfl a1) rfl
    have t2 : mAsg (drawM (mVar 0) (mC (.int 2))) (mName 3) [some (.loc p), some (.loc q), some (.int (w : Int)), none, none] (S.set p o1) = some (.nx [some (.loc p), some (.loc q), some (.int (w : Int)), some (.int (bI (decide (b = 1)))), none] ((S.set p o1).set p o2)) := asg_of (callF_of (cons_of (var_of rfl) (cons_of c_of nil_of)) rfl b1) rfl
    have t3 : mAsg spotM (mName 4) [some (.loc p), some (.loc q), some (.int (w : Int)), some (.int (bI (decide (b = 1)))), none] ((S.set p o1).set p o2) = some (.nx [some (.loc p), some (.loc q), some (.int (w : Int)), some (.int (bI (decide (b = 1)))), some (.int (r : Int))] S3) := asg_of c1 rfl
    exact (then_nx t1).trans ((then_nx t2).trans ((then_nx t3).trans d2))
  · rcases d4 with d4 | d4
    · exact .inl d4
    · exact .inr (Nat.le_trans f3.len d4)
end Cw
end
section
/-! CwP22: an end's event keeps what is looked at (plain). -/
namespace Cw
open PySem PySem.Spec PyProof.Rows L2
theorem OpenOk.set {K : List Kd} {e : En} (h : OpenOk K e) : OpenOk K (settled e) :=
  ⟨by simpa using h.kinds, by simpa using h.left, by simpa using h.clean, by simpa using h.neat, by simpa using h.nd, by simpa using h.rin, by simpa using h.last, by simpa using h.num⟩
theorem EndOk.set {K : List Kd} {e : En} (h : EndOk K e) : EndOk K (settled e) :=
  ⟨by simpa using h.nd, by simpa using h.sub, h.kn, by simpa using h.t0, by simpa using h.t1, fun z => (h.op (fun y => z (by simpa using y))).set⟩
theorem LookOk.set {rf0 : List Pk} {as as' : List (List Pk)} {io alt : Bool} {e : En} {ls : List Lt} (h : LookOk rf0 as io e ls alt as') : LookOk rf0 as io (settled e) ls alt as' :=
  ⟨by simpa using h.sub, h.few0, by simpa using h.neat, by simpa using h.few, by simpa using h.plan, by simpa using h.pl, by simpa using h.asks, h.la, h.pr, by simpa using h.wi, by simpa using h.many⟩
theorem Trk.set {as : List (List Pk)} {io : Bool} {e : En} (h : Trk as io e) : Trk as io (settled e) :=
  ⟨by simpa using h.len, by simpa using h.ask, by simpa using h.many⟩
theorem mk_look {K : List Kd} {rf0 : List Pk} {as as' : List (List Pk)} {io alt : Bool} {e : En} {ls : List Lt} (g : EndOk K e) (ok : OpenOk K e) (sub : ∀ p, p ∈ rf0 → p ∈ e.refused) (few0 : rf0.length ≤ 100) (asks : Asks e.refused as ls as') (la : as.length + ls.length ≤ 1000)
    (pr : ∀ L, L ∈ ls → L.pairs.length ≤ 100) (many : io = true ∨ alt = true ∨ (as'.length : Int) ≤ 1 + wsum e.wishes) : LookOk rf0 as io e ls alt as' :=
  ⟨sub, few0, ok.neat, by have := ok.few g.kn; omega, ok.clean, fun q hq => by have := (ok.left q hq).2.1; omega, asks, la, pr, by have := g.wlen; omega, many⟩
theorem EndOk.shut {K : List Kd} {e : En} (g : EndOk K e) (w : Wy) : EndOk K (e.rest w) := ⟨g.nd, g.sub, g.kn, Int.le_refl _, by show (0 : Int) ≤ 9; omega, fun h => absurd rfl h⟩
theorem open_begun {K : List Kd} {e : En} (g : EndOk K e) (t : Int) : OpenOk K (e.begun t) :=
  ⟨planOf_kinds _ _, planOf_left [] fun w hw => (g.sub w hw).2, planOf_clean _ _, neat_nil, List.nodup_nil, fun p hp => (by cases hp), .inl rfl, Int.le_refl _⟩
theorem EndOk.beg {K : List Kd} {e : En} (g : EndOk K e) {t : Int} (t0 : 0 ≤ t) (t1 : t ≤ 9) : EndOk K (e.begun t) := ⟨g.nd, g.sub, g.kn, t0, t1, fun _ => open_begun g t⟩
theorem ask_few {K : List Kd} {e : En} (g : EndOk K e) (pl : List Pl) : (askOf e.wishes pl).length ≤ 3 := Nat.le_trans (askOf_len _ _) g.wlen
theorem trk_begun {K : List Kd} {e : En} (g : EndOk K e) (t : Int) (io : Bool) : Trk [askOf e.wishes (planOf e.wishes [])] io (e.begun t) :=
  ⟨rfl, fun _ => rfl, .inr (by
    have h := planOf_sum [] e.wishes
    show (1 : Int) + lsum (planOf e.wishes []) ≤ 1 + wsum e.wishes
    omega)⟩
theorem asks_one {rf : List Pk} {as : List (List Pk)} {L : Lt} (h : L.w = .ask) (c : Clean rf L.pairs) (n : L.number = (as.length : Int) + 1) : Asks rf as [L] (as ++ [L.pairs]) := .new h c n (.done _)
theorem asks_skip {rf : List Pk} {as : List (List Pk)} {L : Lt} (h : L.w ≠ .ask) : Asks rf as [L] as := .skip h (.done _)
/-- one word heard in the end's own opening -/
structure WordNext (K : List Kd) (as : List (List Pk)) (io : Bool) (oy : Int) (e e2 : En) (L : Lt) (ls : List Lt) : Prop where
  ok : EndOk K e2
  nm : e2.name = e.name
  tu : e2.turn = e.turn
  yo : e2.yours = e.yours
  look : e2.stand ≠ .closed → ∃ as', LookOk e.refused as io e2 ls false as' ∧ Trk as' io e2
  lets : ∀ l, l ∈ ls → LOk e.name e.yours oy l
  last : ∀ l, e2.last = some l → isAns l.w ∧ LOk e.name e.yours oy l
  rf : ¬ isAns L.w → e2.stand ≠ .closed → e2.refused = e.refused
theorem trk_many {as : List (List Pk)} {io : Bool} {e : En} (t : Trk as io e) : io = true ∨ false = true ∨ (as.length : Int) ≤ 1 + wsum e.wishes := by
  rcases t.many with h | h
  · exact .inl h
  · have := lsum_nonneg e.plan
    have := t.len
    exact .inr (.inr (by omega))
theorem word_next {K : List Kd} {as : List (List Pk)} {io : Bool} {oy t : Int} {e e2 : En} {L : Lt} {ls : List Lt} (g : EndOk K e) (hc : e.stand ≠ .closed) (T : Trk as io e) (hl : as.length ≤ 900) (last : ∀ l, e.last = some l → isAns l.w ∧ LOk e.name e.yours oy l) (t0 : 0 ≤ t) (t1 : t ≤ 9)
    (hy : L.yours = e.turn) (hL : L.w = .ask → L.yours ≤ oy) (hf : L.pairs.length ≤ 10) (w : Word e L t e2 ls) : WordNext K as io oy e e2 L ls := by
  have ok := g.op hc
  have f1 : e.refused.length ≤ 100 := by have := ok.few g.kn; omega
  have m1 := trk_many T
  cases w with
  | quiet => exact ⟨g, rfl, rfl, rfl, fun _ => ⟨as, mk_look g ok (fun p hp => hp) f1 (.done _) (by simp; omega) (fun l hl => by cases hl) m1, T⟩, fun l hl => (by cases hl), last, fun _ _ => rfl⟩
  | again l h =>
    have h1 := last l h
    have hn : l.w ≠ .ask := fun z => by rcases h1.1 with y | y | y <;> rw [z] at y <;> cases y
    exact ⟨g, rfl, rfl, rfl, fun _ => ⟨as, mk_look g ok (fun p hp => hp) f1 (asks_skip hn) (by simp; omega) (fun l' hl' => by rw [List.mem_singleton.mp hl']; have := h1.2.few; omega) m1, T⟩, fun l' hl' => by rw [List.mem_singleton.mp hl']; exact h1.2, last, fun _ _ => rfl⟩
  | reply w ps o h1 h2 h3 h4 =>
    have hn : (ansL e w L.number ps).w ≠ .ask := fun z => by
      have z' : w = .ask := z
      rcases h2 with y | y | y <;> rw [z'] at y <;> cases y
    have lo : LOk e.name e.yours oy (ansL e w L.number ps) := ⟨rfl, Nat.le_trans h3 hf, fun z => absurd z hn, fun _ => by
      show e.turn ≤ oy
      rw [← hy]
      exact hL h1⟩
    have g2 : EndOk K { e with heard := L.number, took := o, last := some (ansL e w L.number ps) } := ⟨g.nd, g.sub, g.kn, g.t0, g.t1, fun _ => ⟨ok.kinds, ok.left, ok.clean, ok.neat, ok.nd, ok.rin, .inr rfl, ok.num⟩⟩
    exact ⟨g2, rfl, rfl, rfl, fun hc2 => ⟨as, mk_look g2 (g2.op hc2) (fun p hp => hp) f1 (asks_skip hn) (by simp; omega) (fun l' hl' => by rw [List.mem_singleton.mp hl']; have := lo.few; omega) m1, ⟨T.len, T.ask, T.many⟩⟩,
      fun l' hl' => by rw [List.mem_singleton.mp hl']; exact lo, fun l' hl' => by
        have e1 : ansL e w L.number ps = l' := Option.some.inj hl'
        rw [← e1]
        exact ⟨h2, lo⟩, fun _ _ => rfl⟩
  | bye => exact ⟨g.shut _, rfl, rfl, rfl, fun h => absurd rfl h, fun l hl => (by cases hl), fun l hl => (by cases hl), fun _ h => absurd rfl h⟩
  | there => exact ⟨g, rfl, rfl, rfl, fun _ => ⟨as, mk_look g ok (fun p hp => hp) f1 (asks_skip (by show Wd.there ≠ .ask; decide)) (by simp; omega) (fun l' hl' => by rw [List.mem_singleton.mp hl']; show 0 ≤ 100; omega) m1, T⟩,
      fun l' hl' => by rw [List.mem_singleton.mp hl']; exact ⟨rfl, by show 0 ≤ 10; omega, fun z => (by cases z), fun z => by rcases z with y | y | y <;> cases y⟩, last, fun _ _ => rfl⟩
  | tries =>
    have g2 : EndOk K { e with tries := t } := ⟨g.nd, g.sub, g.kn, t0, t1, fun _ => ⟨ok.kinds, ok.left, ok.clean, ok.neat, ok.nd, ok.rin, ok.last, ok.num⟩⟩
    exact ⟨g2, rfl, rfl, rfl, fun hc2 => ⟨as, mk_look g2 (g2.op hc2) (fun p hp => hp) f1 (.done _) (by simp; omega) (fun l hl => by cases hl) m1, ⟨T.len, T.ask, T.many⟩⟩, fun l hl => (by cases hl), last, fun _ _ => rfl⟩
  | failed => exact ⟨g.shut _, rfl, rfl, rfl, fun h => absurd rfl h, fun l' hl' => by rw [List.mem_singleton.mp hl']; exact ⟨rfl, by show 0 ≤ 10; omega, fun z => (by cases z), fun z => by rcases z with y | y | y <;> cases y⟩, fun l hl => (by cases hl), fun _ h => absurd rfl h⟩
  | agreed a =>
    have g2 : EndOk K { e with tries := t, given := some a } := ⟨g.nd, g.sub, g.kn, t0, t1, fun _ => ⟨ok.kinds, ok.left, ok.clean, ok.neat, ok.nd, ok.rin, ok.last, ok.num⟩⟩
    exact ⟨g2, rfl, rfl, rfl, fun hc2 => ⟨as, mk_look g2 (g2.op hc2) (fun p hp => hp) f1 (.done _) (by simp; omega) (fun l hl => by cases hl) m1, ⟨T.len, fun z => (by cases z), T.many⟩⟩, fun l hl => (by cases hl), last, fun _ _ => rfl⟩
  | plan pl' rf R r n1 n2 hR =>
    have A := after_refused g ok r hR
    have g2 : EndOk K { e with tries := t, plan := pl', refused := R, number := e.number + 1 } := ⟨g.nd, g.sub, g.kn, t0, t1, fun _ => ⟨A.kinds, A.left, A.clean, n1, n2, A.rin, ok.last, by have := ok.num; show 1 ≤ e.number + 1; omega⟩⟩
    have hlen : (as.length : Int) = e.number := T.len
    have hcl : Clean R (askOf e.wishes pl') := ask_clean A.kinds A.clean
    have hm : io = true ∨ e.number + 1 + lsum pl' ≤ 1 + wsum e.wishes := by
      rcases T.many with h | h
      · exact .inl h
      · have := A.sum
        exact .inr (by omega)
    have hl0 := lsum_nonneg pl'
    refine ⟨g2, rfl, rfl, rfl, fun hc2 => ⟨as ++ [askOf e.wishes pl'], mk_look g2 (g2.op hc2) (fun p hp => (hR p).mpr (.inl hp)) f1 (asks_one rfl hcl ?_) (by simp; omega) (fun l' hl' => ?_) ?_, ⟨?_, fun _ => ?_, hm⟩⟩, fun l' hl' => ?_, last, fun z => ?_⟩
    · show e.number + 1 = (as.length : Int) + 1
      omega
    · rw [List.mem_singleton.mp hl']
      have := ask_few g pl'
      show (askOf e.wishes pl').length ≤ 100
      omega
    · rcases hm with h | h
      · exact .inl h
      · refine .inr (.inr ?_)
        show ((as ++ [askOf e.wishes pl']).length : Int) ≤ 1 + wsum e.wishes
        simp
        omega
    · show ((as ++ [askOf e.wishes pl']).length : Int) = e.number + 1
      simp
      omega
    · simp
    · rw [List.mem_singleton.mp hl']
      have := ask_few g pl'
      have := ok.num
      exact ⟨rfl, by show (askOf e.wishes pl').length ≤ 10; omega, fun _ => ⟨by show 1 ≤ e.number + 1; omega, Int.le_refl _⟩, fun z => by rcases z with y | y | y <;> cases y⟩
    · exact absurd (show isAns L.w from r.1.elim (fun y => .inr (.inl y)) fun y => .inr (.inr y)) z
structure Next (K : List Kd) (as : List (List Pk)) (io : Bool) (oy : Int) (e e' : En) (ls : List Lt) (alt : Bool) : Prop where
  ok : EndOk K e'
  nm : e'.name = e.name
  yo : e.yours ≤ e'.yours
  lex : e.turn < e'.turn ∨ (e'.turn = e.turn ∧ e.yours ≤ e'.yours)
  look : e'.stand ≠ .closed → (e.stand ≠ .closed ∧ e'.turn = e.turn ∧ e'.yours = e.yours ∧ ∃ as', LookOk e.refused as io e' ls alt as' ∧ Trk as' (io || alt) e') ∨
    ((e.turn < e'.turn ∨ (e'.turn = e.turn ∧ e.yours < e'.yours)) ∧ ∃ as', LookOk [] [] false e' ls alt as' ∧ Trk as' alt e')
  lets : ∀ l, l ∈ ls → LOk e.name e'.yours oy l
  last : ∀ l, e'.last = some l → isAns l.w ∧ LOk e.name e'.yours oy l
theorem bye_ok (e : En) (nm : Kd) (my oy : Int) (h : e.name = nm) : LOk nm my oy (byeL e) := ⟨h, by show 0 ≤ 10; omega, fun z => (by cases z), fun z => by rcases z with y | y | y <;> cases y⟩
theorem ask_ok {K : List Kd} {e : En} (g : EndOk K e) (hn : 1 ≤ e.number) (oy : Int) : LOk e.name e.yours oy (askL e) := ⟨rfl, by have := ask_few g e.plan; show (askOf e.wishes e.plan).length ≤ 10; omega, fun _ => ⟨hn, Int.le_refl _⟩, fun z => by rcases z with y | y | y <;> cases y⟩
theorem fresh_next {K : List Kd} {e : En} (g : EndOk K e) {t : Int} (t0 : 0 ≤ t) (t1 : t ≤ 9) (alt : Bool) : LookOk [] [] false (settled (e.begun t)) [askL (e.begun t)] alt [askOf e.wishes (planOf e.wishes [])] ∧ Trk [askOf e.wishes (planOf e.wishes [])] alt (settled (e.begun t)) := by
  have g1 := g.beg t0 t1
  have o1 := open_begun g t
  refine ⟨(mk_look g1 o1 (fun p hp => by cases hp) (by simp) (asks_one (as := []) rfl (ask_clean o1.kinds o1.clean) rfl) (by simp) (fun l hl => ?_) (.inr (.inr ?_))).set, (trk_begun g t alt).set⟩
  · rw [List.mem_singleton.mp hl]
    have := ask_few g (planOf e.wishes [])
    show (askOf e.wishes (planOf e.wishes [])).length ≤ 100
    omega
  · have := wsum_nonneg e.wishes
    show (([] ++ [askOf e.wishes (planOf e.wishes [])]).length : Int) ≤ 1 + wsum e.wishes
    simp
    omega
theorem heard_next {K : List Kd} {as : List (List Pk)} {io : Bool} {oy t : Int} {e e' : En} {L : Lt} {ls : List Lt} {nm' : Kd} (g : EndOk K e) (T : e.stand ≠ .closed → Trk as io e) (hl : as.length ≤ 900) (last : ∀ l, e.last = some l → isAns l.w ∧ LOk e.name e.yours oy l) (t0 : 0 ≤ t) (t1 : t ≤ 9)
    (hL : LOk nm' oy e.yours L) (h : Heard e L t e' ls) : Next K as io oy e e' ls false := by
  cases h with
  | shut hc => exact ⟨g, rfl, Int.le_refl _, .inr ⟨rfl, Int.le_refl _⟩, fun z => absurd hc z, fun l hl => (by cases hl), last⟩
  | back hc => exact ⟨g, rfl, Int.le_refl _, .inr ⟨rfl, Int.le_refl _⟩, fun z => absurd hc z, fun l hl => by
      rw [List.mem_singleton.mp hl]
      exact ⟨rfl, by show 0 ≤ 10; omega, fun z => (by cases z), fun z => by rcases z with y | y | y <;> cases y⟩, last⟩
  | old hc hm =>
    have ok := g.op hc
    have f1 : e.refused.length ≤ 100 := by have := ok.few g.kn; omega
    exact ⟨g.set, by simp, by simp, .inr (by simp), fun _ => .inl ⟨hc, by simp, by simp, as, (mk_look g ok (fun p hp => hp) f1 (.done _) (by simp; omega) (fun l hl => by cases hl) (trk_many (T hc))).set, by simpa using (T hc).set⟩, fun l hl => (by cases hl), by simpa using last⟩
  | word e2 ls hc hm hy w =>
    have W := word_next g hc (T hc) hl last t0 t1 hy (fun z => (hL.ask z).2) hL.few w
    refine ⟨W.ok.set, by simpa using W.nm, by simp [W.yo], .inr (by simp [W.tu, W.yo]), fun z => .inl ⟨hc, by simpa using W.tu, by simpa using W.yo, ?_⟩, by simpa [W.yo] using W.lets, by simpa [W.yo] using W.last⟩
    obtain ⟨as', a1, a2⟩ := W.look fun y => z (by simpa using y)
    exact ⟨as', a1.set, by simpa using a2.set⟩
  | begins hc hm =>
    have g' : EndOk K { e with yours := L.mine } := ⟨g.nd, g.sub, g.kn, g.t0, g.t1, fun z => by
      have o := g.op z
      exact ⟨o.kinds, o.left, o.clean, o.neat, o.nd, o.rin, o.last, o.num⟩⟩
    obtain ⟨a1, a2⟩ := fresh_next g' t0 t1 false
    have gs : EndOk K (e.saw L.mine t) := g'.beg t0 t1
    exact ⟨gs.set, by simp [En.saw, En.begun], by simp [En.saw, En.begun]; omega, .inr (by simp [En.saw, En.begun]; omega), fun _ => .inr ⟨.inr (by simp [En.saw, En.begun]; omega), _, a1, a2⟩, fun l hl => by
      rw [List.mem_singleton.mp hl]
      have ao : LOk e.name (e.saw L.mine t).yours oy (askL (e.saw L.mine t)) := ask_ok gs (Int.le_refl 1) oy
      simpa using ao, fun l hl => by simp [En.saw, En.begun] at hl⟩
  | beginsWord e2 ls hc hm hy w =>
    have g' : EndOk K { e with yours := L.mine } := ⟨g.nd, g.sub, g.kn, g.t0, g.t1, fun z => by
      have o := g.op z
      exact ⟨o.kinds, o.left, o.clean, o.neat, o.nd, o.rin, o.last, o.num⟩⟩
    have gs : EndOk K (e.saw L.mine t) := g'.beg t0 t1
    have na : ¬ isAns L.w := fun z => by
      have := hL.ans z
      omega
    have hc0 : (e.saw L.mine t).stand ≠ .closed := by show Sd.asking ≠ .closed; decide
    have W := word_next (oy := oy) gs hc0 (trk_begun g' t false) (by simp) (fun l hl => by simp [En.saw, En.begun] at hl) t0 t1 hy (fun z => (hL.ask z).2) hL.few w
    have y0 : (e.saw L.mine t).yours = L.mine := rfl
    have u0 : (e.saw L.mine t).turn = e.turn := rfl
    have ao : LOk e.name (e.saw L.mine t).yours oy (askL (e.saw L.mine t)) := ask_ok gs (Int.le_refl 1) oy
    have wl : ∀ l, e2.last = some l → isAns l.w ∧ LOk e.name (e.saw L.mine t).yours oy l := W.last
    refine ⟨W.ok.set, (stl_name e2).trans W.nm, by simp [W.yo, y0]; omega, .inr ⟨by simp [W.tu, u0], by simp [W.yo, y0]; omega⟩, fun z => .inr ⟨.inr ⟨by simp [W.tu, u0], by simp [W.yo, y0]; omega⟩, ?_⟩, fun l hl => ?_, by simpa [W.yo] using wl⟩
    · obtain ⟨as', a1, a2⟩ := W.look fun y => z (by simpa using y)
      have r0 : e2.refused = [] := W.rf na fun y => z (by simpa using y)
      refine ⟨as', LookOk.set ⟨fun p hp => (by cases hp), (by simp), a1.neat, a1.few, a1.plan, a1.pl, .new rfl (fun p hp => by rw [r0]; simp) rfl a1.asks, ?_, fun l hl => ?_, a1.wi, a1.many⟩, a2.set⟩
      · have := a1.la
        simp at this ⊢
        omega
      · rcases List.mem_cons.mp hl with h | h
        · rw [h]
          have := ao.few
          omega
        · exact a1.pr l h
    · rw [show (settled e2).yours = (e.saw L.mine t).yours by simp [W.yo]]
      rcases List.mem_cons.mp hl with h | h
      · rw [h]; exact ao
      · exact W.lets l h
theorem ev_next {K : List Kd} {as : List (List Pk)} {io : Bool} {oy t : Int} {e e' : En} {ls : List Lt} {alt : Bool} (g : EndOk K e) (T : e.stand ≠ .closed → Trk as io e) (hl : as.length ≤ 900) (last : ∀ l, e.last = some l → isAns l.w ∧ LOk e.name e.yours oy l) (t0 : 0 ≤ t) (t1 : t ≤ 9)
    (h : Ev e t e' ls alt) : Next K as io oy e e' ls alt := by
  cases h with
  | opened hc =>
    have g' : EndOk K e.up := ⟨g.nd, g.sub, g.kn, g.t0, g.t1, fun z => absurd hc z⟩
    obtain ⟨a1, a2⟩ := fresh_next g' t0 t1 false
    have gs : EndOk K (e.up.begun t) := g'.beg t0 t1
    exact ⟨gs.set, by simp [En.up, En.begun], by simp [En.up, En.begun], .inl (by simp [En.up, En.begun]; omega), fun _ => .inr ⟨.inl (by simp [En.up, En.begun]; omega), _, a1, a2⟩, fun l hl => by
      rw [List.mem_singleton.mp hl]
      have ao : LOk e.name (e.up.begun t).yours oy (askL (e.up.begun t)) := ask_ok gs (Int.le_refl 1) oy
      simpa using ao, fun l hl => by simp [En.up, En.begun] at hl⟩
  | closing hc => exact ⟨g.shut _, rfl, Int.le_refl _, .inr ⟨rfl, Int.le_refl _⟩, fun z => absurd rfl z, fun l hl => by rw [List.mem_singleton.mp hl]; exact bye_ok e _ _ _ rfl, fun l hl => (by cases hl)⟩
  | out hc ht => exact ⟨g.shut _, rfl, Int.le_refl _, .inr ⟨rfl, Int.le_refl _⟩, fun z => absurd rfl z, fun l hl => by rw [List.mem_singleton.mp hl]; exact bye_ok e _ _ _ rfl, fun l hl => (by cases hl)⟩
  | tick hc ht =>
    have ok := g.op hc
    have T' := T hc
    have h0 := g.t0
    have h1 := g.t1
    have f1 : e.refused.length ≤ 100 := by have := ok.few g.kn; omega
    have g2 : EndOk K e.low := ⟨g.nd, g.sub, g.kn, by show 0 ≤ e.tries - 1; omega, by show e.tries - 1 ≤ 9; omega, fun _ => ⟨ok.kinds, ok.left, ok.clean, ok.neat, ok.nd, ok.rin, ok.last, ok.num⟩⟩
    have o2 : OpenOk K e.low := ⟨ok.kinds, ok.left, ok.clean, ok.neat, ok.nd, ok.rin, ok.last, ok.num⟩
    have aok := ask_ok g ok.num oy
    have hok : LOk e.name e.yours oy (hereL e) := ⟨rfl, by show 0 ≤ 10; omega, fun z => (by cases z), fun z => by rcases z with y | y | y <;> cases y⟩
    have lok : LOk e.name e.yours oy (if e.given = none then askL e else hereL e) := by split <;> assumption
    have T2 : Trk as io e.low := ⟨T'.len, T'.ask, T'.many⟩
    have am : Asks e.refused as [if e.given = none then askL e else hereL e] as := by
      by_cases hg : e.given = none
      · rw [if_pos hg]
        have hlen := T'.len
        have hnum := ok.num
        exact .again (i := as.length - 1) rfl (ask_clean ok.kinds ok.clean) (by show e.number = ((as.length - 1 : Nat) : Int) + 1; omega) (T'.ask hg) (.done _)
      · rw [if_neg hg]
        exact asks_skip (by show Wd.here ≠ .ask; decide)
    exact ⟨g2.set, by simp [En.low], by simp [En.low], .inr (by simp [En.low]), fun _ => .inl ⟨hc, by simp [En.low], by simp [En.low], as, (mk_look g2 o2 (fun p hp => hp) f1 am (by simp; omega) (fun l hl => by rw [List.mem_singleton.mp hl]; have := lok.few; omega) (trk_many T2)).set, by simpa using T2.set⟩,
      fun l hl => by rw [List.mem_singleton.mp hl]; simpa [En.low] using lok, by simpa [En.low] using last⟩
  | wishF ks ws hc hk hw =>
    have hnd : (ws.map (·.k)).Nodup := (hw.1.nodup_iff).mpr (hk.nodup g.nd)
    have hsub : ∀ w, w ∈ ws → w.k ∈ K ∧ WG w.ws := fun w h => by
      have h1 : w.k ∈ e.wishes.map (·.k) := hk.mem (hw.1.mem_iff.mp (List.mem_map.mpr ⟨w, h, rfl⟩))
      obtain ⟨v, hv, e1⟩ := List.mem_map.mp h1
      exact ⟨by rw [← e1]; exact (g.sub v hv).1, hw.2 w h⟩
    have gw : EndOk K ({ e with wishes := ws }.rest .failed) := ⟨hnd, hsub, g.kn, Int.le_refl _, by show (0 : Int) ≤ 9; omega, fun h => absurd rfl h⟩
    exact ⟨gw, rfl, Int.le_refl _, .inr ⟨rfl, Int.le_refl _⟩, fun z => absurd rfl z, fun l hl => by rw [List.mem_singleton.mp hl]; exact bye_ok e _ _ _ rfl, fun l hl => (by cases hl)⟩
  | wish ks ws hc hk hw =>
    have hnd : (ws.map (·.k)).Nodup := (hw.1.nodup_iff).mpr (hk.nodup g.nd)
    have hsub : ∀ w, w ∈ ws → w.k ∈ K ∧ WG w.ws := fun w h => by
      have h1 : w.k ∈ e.wishes.map (·.k) := hk.mem (hw.1.mem_iff.mp (List.mem_map.mpr ⟨w, h, rfl⟩))
      obtain ⟨v, hv, e1⟩ := List.mem_map.mp h1
      exact ⟨by rw [← e1]; exact (g.sub v hv).1, hw.2 w h⟩
    have ok := g.op hc
    have T' := T hc
    have f1 : e.refused.length ≤ 100 := by have := ok.few g.kn; omega
    have hn := ok.num
    have hlen := T'.len
    have o2 : OpenOk K (e.wished ws t) := ⟨planOf_kinds _ _, planOf_left e.refused fun w h => (hsub w h).2, planOf_clean _ _, ok.neat, ok.nd, ok.rin, ok.last, by show 1 ≤ e.number + 1; omega⟩
    have g2 : EndOk K (e.wished ws t) := ⟨hnd, hsub, g.kn, t0, t1, fun _ => o2⟩
    have ao : LOk e.name e.yours oy (askL (e.wished ws t)) := ask_ok g2 o2.num oy
    refine ⟨g2.set, by simp [En.wished], by simp [En.wished], .inr (by simp [En.wished]), fun _ => .inl ⟨hc, by simp [En.wished], by simp [En.wished], as ++ [askOf ws (planOf ws e.refused)], (mk_look g2 o2 (fun p hp => hp) f1 (asks_one rfl (ask_clean o2.kinds o2.clean) ?_) (by simp; omega) (fun l hl => ?_) (.inr (.inl rfl))).set, Trk.set ⟨?_, fun _ => ?_, .inl (by simp)⟩⟩,
      fun l hl => by rw [List.mem_singleton.mp hl]; simpa [En.wished] using ao, by simpa [En.wished] using last⟩
    · show e.number + 1 = (as.length : Int) + 1
      omega
    · rw [List.mem_singleton.mp hl]
      have := ao.few
      omega
    · show ((as ++ [askOf ws (planOf ws e.refused)]).length : Int) = e.number + 1
      simp
      omega
    · show (as ++ [askOf ws (planOf ws e.refused)])[(as ++ [askOf ws (planOf ws e.refused)]).length - 1]? = some (askOf ws (planOf ws e.refused))
      simp
/-- an end that nothing happens to -/
theorem still_next {K : List Kd} {as : List (List Pk)} {io : Bool} {e : En} (g : EndOk K e) (hc : e.stand ≠ .closed) (T : Trk as io e) (hl : as.length ≤ 900) : LookOk e.refused as io e [] false as := by
  have ok := g.op hc
  have f1 : e.refused.length ≤ 100 := by have := ok.few g.kn; omega
  exact mk_look g ok (fun p hp => hp) f1 (.done _) (by simp; omega) (fun l hl => by cases hl) (trk_many T)
end Cw
end
section
/-! CwP23: the look at both ends. -/
namespace Cw
open PySem PySem.Spec PyProof.Rows L2
def Wo.own (o : Wo) (i : Bool) : List Lt := o.fr.filter fun L => decide (L.who = o.nm i)
def Wo.alt (o : Wo) (i : Bool) : Bool := decide (o.nm i ∈ o.al)
theorem keyE_ne {e e' : En} (h : e.name ≠ e'.name) : keyE e ≠ keyE e' := fun z => by
  unfold keyE at z
  injection z with z1 z2
  exact h (kstr_inj _ _ (Sum.inr.inj z1))
theorem Ready.fx {S S' : Sto} {s : Nat} {tb tb' : List (List Key × Val)} {e : En} {ls : List Lt} {alt : Bool} {kl al : Nat} {as' : List (List Pk)} {io' : Bool} {X Y : List Nat} (r : Ready S s tb e ls alt kl al as' io' X) (f : Fx S S' Y) (hg : gK tb' (keyE e) = gK tb (keyE e))
    (hd : X = [s, kl, al] → kl ∉ Y ∧ al ∉ Y) : Ready S' s tb' e ls alt kl al as' io' X := by
  cases r with
  | shut _ h => exact .shut _ h
  | old rf0 as io h tk lk => exact .old rf0 as io h ⟨hg.trans tk.key, f.at tk.kn (hd rfl).1, f.at tk.ad (hd rfl).2, tk.ne⟩ lk
  | new h hn lk => exact .new h (hg.trans hn) lk
theorem Ready.cases' {S : Sto} {s : Nat} {tb : List (List Key × Val)} {e : En} {ls : List Lt} {alt : Bool} {kl al : Nat} {as' : List (List Pk)} {io' : Bool} {X : List Nat} (r : Ready S s tb e ls alt kl al as' io' X) :
    X = [s] ∨ (X = [s, kl, al] ∧ kl < S.length ∧ al < S.length ∧ ∃ rf a io as, S[kl]? = some (.dct (knD rf a io)) ∧ S[al]? = some (.dct (asD 0 as))) := by
  cases r with
  | shut _ h => exact .inl rfl
  | old rf0 as io h tk lk => exact .inr ⟨rfl, lt_of tk.kn, lt_of tk.ad, _, _, _, _, tk.kn, tk.ad⟩
  | new h hn lk => exact .inl rfl
theorem Ready.off {S : Sto} {s : Nat} {tb : List (List Key × Val)} {e : En} {ls : List Lt} {alt : Bool} {kl al : Nat} {as' : List (List Pk)} {io' : Bool} {X : List Nat} (r : Ready S s tb e ls alt kl al as' io' X) (hs : S[s]? = some (.dcT tb)) {m : Nat} {x : Ob} (h : S[m]? = some x)
    (h1 : x ≠ .dcT tb) (h2 : ∀ rf a io, x ≠ .dct (knD rf a io)) (h3 : ∀ as, x ≠ .dct (asD 0 as)) : m ∉ X := by
  have m1 : m ≠ s := ob_ne h hs h1
  rcases r.cases' with e | ⟨e, -, -, rf, a, io, as, k1, k2⟩
  · rw [e]; simpa using m1
  · have m2 : m ≠ kl := ob_ne h k1 (h2 _ _ _)
    have m3 : m ≠ al := ob_ne h k2 (h3 _)
    rw [e]
    simp
    exact ⟨m1, m2, m3⟩
theorem wo_as (o : Wo) (as : List (List Pk)) : (Ob.dct (woD o)) ≠ .dct (asD 0 as) := by
  cases as <;> simp [woD, asD]
theorem wo_kn (o : Wo) (rf : List Pk) (a : Nat) (io : Bool) : (Ob.dct (woD o)) ≠ .dct (knD rf a io) := by simp [woD, knD]
theorem pen_as (cs : List Int) (a l : Int) (as : List (List Pk)) : (Ob.dct (penD cs a l)) ≠ .dct (asD 0 as) := by
  cases as <;> simp [penD, asD]
theorem pen_kn (cs : List Int) (b l : Int) (rf : List Pk) (a : Nat) (io : Bool) : (Ob.dct (penD cs b l)) ≠ .dct (knD rf a io) := by simp [penD, knD]
abbrev ownM : M := (mLc (mSeq (mBin fSub (mVar 1) (mC (.str "fresh")))) (mName 4) (mT (mBin fEq (mBin fSub (mVar 4) (mC (.int 0))) (mVar 2))) (mVar 4) [4])
abbrev lookM : M := (mCallF 4 m_law_asks_right [] (mCons (mVar 0) (mCons (mBin fSub (mVar 1) (mVar 2)) (mCons (mVar 3) (mCons (mBin fIn (mVar 2) (mBin fSub (mVar 1) (mC (.str "altered")))) (mNil))))))
abbrev bothBody : MS := (mThen (mAsg ownM (mName 3)) (mIfS (mNotT (mT lookM)) (mRet (mC (.bl false))) (mNext)))
theorem own_eq {S : Sto} {q : Nat} {o : Wo} (h : S[q]? = some (.dct (woD o))) (i : Bool) (hl : o.fr.length ≤ 1000) (x0 x3 x4 : Option Val) : ownM [x0, some (.loc q), some (sK (o.nm i)), x3, x4] S = some (.lst ((o.own i).map ltE), S) := by
  have lc := lcGo_map (mg := mName 4) (mt := (mT (mBin fEq (mBin fSub (mVar 4) (mC (.int 0))) (mVar 2)))) (me := mVar 4) (ρ := [x0, some (.loc q), some (sK (o.nm i)), x3, none]) (f := ltE) (p := fun L => decide (L.who = o.nm i)) (g := ltE) (S := S) o.fr
    (fun L _ => ⟨_, rfl, by
      have h0 : ∀ S', fSub S' (ltE L) (.int 0) = some (sK L.who, S') := fun S' => by simp [ltE, fSub, fIxSeq, seqOf, atI, ixN]
      exact t_of (bin_of (bin_of (var_of rfl) c_of (h0 S)) (var_of rfl) (fEq_sK S _ _)), fun _ => var_of rfl⟩)
  refine lc_of (vs := o.fr.map ltE) ?_ (by simp; omega) lc
  rw [s_mSeqT, bin_of (var_of rfl) c_of (ps_fresh h)]
  rfl
theorem both_step {S : Sto} {s q : Nat} {tb : List (List Key × Val)} {o : Wo} {kl al : Nat} {as' : List (List Pk)} {io' : Bool} {X : List Nat} (i : Bool) (hs : S[s]? = some (.dcT tb)) (hl : tb.length < 100000) (h : S[q]? = some (.dct (woD o))) (hn : o.nm false ≠ o.nm true) (hf : o.fr.length ≤ 1000)
    (r : Ready S s tb (o.en i) (o.own i) (o.alt i) kl al as' io' X) (x3 x4 : Option Val) :
    ∃ tb' kl' al' S', bothBody [some (.loc s), some (.loc q), some (sK (o.nm i)), x3, x4] S = some (.nx [some (.loc s), some (.loc q), some (sK (o.nm i)), some (.lst ((o.own i).map ltE)), x4] S') ∧ S'[s]? = some (.dcT tb') ∧ tb'.length ≤ tb.length + 1 ∧ (∀ k, k ≠ keyE (o.en i) → gK tb' k = gK tb k) ∧
      ((o.en i).stand ≠ .closed → Tk S' tb' (o.en i) kl' al' (o.en i).refused as' io') ∧ Fx S S' X ∧ ((X = [s, kl, al] ∧ kl' = kl ∧ al' = al) ∨ (S.length ≤ kl' ∧ S.length ≤ al')) := by
  obtain ⟨tb', kl', al', S', l1, l2, l3, l4, l5, l6, l7⟩ := look hs hl r
  refine ⟨tb', kl', al', S', ?_, l2, l3, l4, l5, l6, l7⟩
  have t1 : mAsg ownM (mName 3) [some (.loc s), some (.loc q), some (sK (o.nm i)), x3, x4] S = some (.nx [some (.loc s), some (.loc q), some (sK (o.nm i)), some (.lst ((o.own i).map ltE)), x4] S) := asg_of (own_eq h i hf _ _ _) rfl
  have hin : fIn S (sK (o.nm i)) (.lst (o.al.map sK)) = some (.bl (o.alt i), S) := by
    unfold fIn
    rw [inB_ks]
    rfl
  have t2 : lookM [some (.loc s), some (.loc q), some (sK (o.nm i)), some (.lst ((o.own i).map ltE)), x4] S = some (.bl true, S') :=
    callF_of (cons_of (var_of rfl) (cons_of (bin_of (var_of rfl) (var_of rfl) (ps_end h hn i)) (cons_of (var_of rfl) (cons_of (bin_of (var_of rfl) (bin_of (var_of rfl) c_of (ps_altered h)) hin) nil_of)))) rfl l1
  have t3 : mNotT (mT lookM) [some (.loc s), some (.loc q), some (sK (o.nm i)), some (.lst ((o.own i).map ltE)), x4] S = some (false, S') := by
    rw [s_mNotT, t_of t2]
    rfl
  exact (then_nx t1).trans (ifs_f t3)
theorem s_law_both_eq : s_law_both_right = mThen (mFor (mSeq (mBin fSub (mVar 1) (mC (.str "names")))) (mName 2) bothBody) (mThen (mDrop (mUpd (mVar 1) (mDisp [(.inr "fresh", mLst (mNil)), (.inr "altered", mLst (mNil))]))) (mRet (mC (.bl true)))) := rfl
def Wo.clear (o : Wo) : Wo := { o with fr := [], al := [] }
theorem clear_up (o : Wo) : uK (woD o) [(.inr "fresh", .lst []), (.inr "altered", .lst [])] = woD o.clear := by
  rw [uK_cons, uK_cons, uK_nil]
  have h1 := wp_fresh o []
  have h2 := wp_altered { o with fr := [] } []
  simp only [List.map_nil] at h1 h2
  rw [h1, h2]
  rfl
/-- what the table knows of both ends -/
structure SOk (S : Sto) (s : Nat) (tb : List (List Key × Val)) (o : Wo) (kl al : Bool → Nat) (as : Bool → List (List Pk)) (io : Bool → Bool) : Prop where
  tab : S[s]? = some (.dcT tb)
  tk : ∀ i, (o.en i).stand ≠ .closed → Tk S tb (o.en i) (kl i) (al i) (o.en i).refused (as i) (io i)
  dis : (o.en false).stand ≠ .closed → (o.en true).stand ≠ .closed → kl false ≠ kl true ∧ kl false ≠ al true ∧ al false ≠ kl true ∧ al false ≠ al true
theorem both_eq {S : Sto} {s q : Nat} {tb : List (List Key × Val)} {o : Wo} {air : List (Bool × Lt)} {kl al : Bool → Nat} {as' : Bool → List (List Pk)} {io' : Bool → Bool} {X : Bool → List Nat} (hs : S[s]? = some (.dcT tb)) (hl : tb.length + 1 < 100000) (h : PairAt S q o air) (hn : o.nm false ≠ o.nm true)
    (hnm : ∀ i, (o.en i).name = o.nm i) (hf : o.fr.length ≤ 1000) (r : ∀ i, Ready S s tb (o.en i) (o.own i) (o.alt i) (kl i) (al i) (as' i) (io' i) (X i))
    (hd : X false = [s, kl false, al false] → X true = [s, kl true, al true] → kl false ≠ kl true ∧ kl false ≠ al true ∧ al false ≠ kl true ∧ al false ≠ al true) :
    ∃ tb' kl' al' S', m_law_both_right [.loc s, .loc q] S = some (.bl true, S') ∧ SOk S' s tb' o.clear kl' al' as' io' ∧ tb'.length ≤ tb.length + 2 ∧ (∀ k, (∀ i, k ≠ keyE (o.en i)) → gK tb' k = gK tb k) ∧ PairAt S' q o.clear air ∧ ∀ p c, Pn S p c → Pn S' p c := by
  obtain ⟨tb1, k1, a1, S1, b1, b2, b3, b4, b5, b6, b7⟩ := both_step false hs (by omega) h.pair hn hf (r false) none none
  have q1 : S1[q]? = some (.dct (woD o)) := b6.at h.pair ((r false).off hs h.pair (by simp) (wo_kn o) (wo_as o))
  have n1 : S1[o.n]? = some (.lst (air.map airE)) := b6.at h.air ((r false).off hs h.air (by simp) (by simp) (by simp))
  have ne : keyE (o.en true) ≠ keyE (o.en false) := keyE_ne (by rw [hnm, hnm]; exact hn.symm)
  have off : X true = [s, kl true, al true] → kl true ∉ X false ∧ al true ∉ X false := fun e => by
    rcases (r true).cases' with e1 | ⟨-, -, -, rf, a, io, as, c1, c2⟩
    · rw [e1] at e; cases e
    have s1 : kl true ≠ s := ob_ne c1 hs (by simp)
    have s2 : al true ≠ s := ob_ne c2 hs (by simp)
    rcases (r false).cases' with e1 | ⟨e1, -⟩
    · rw [e1]; simp; exact ⟨s1, s2⟩
    · have d := hd e1 e
      rw [e1]; simp; exact ⟨⟨s1, d.1.symm, d.2.2.1.symm⟩, s2, d.2.1.symm, d.2.2.2.symm⟩
  have r1 := (r true).fx b6 (b4 _ ne) off
  obtain ⟨tb2, k2, a2, S2, c1, c2, c3, c4, c5, c6, c7⟩ := both_step true b2 (by omega) q1 hn hf r1 (some (.lst ((o.own false).map ltE))) none
  have q2 : S2[q]? = some (.dct (woD o)) := c6.at q1 (r1.off b2 q1 (by simp) (wo_kn o) (wo_as o))
  have n2 : S2[o.n]? = some (.lst (air.map airE)) := c6.at n1 (r1.off b2 n1 (by simp) (by simp) (by simp))
  have l1 := b6.len
  have l2 := c6.len
  have far : (o.en false).stand ≠ .closed → k1 ∉ X true ∧ a1 ∉ X true := fun hc => by
    have t := b5 hc
    have s1 : k1 ≠ s := ob_ne t.kn b2 (by simp)
    have s2 : a1 ≠ s := ob_ne t.ad b2 (by simp)
    rcases (r true).cases' with e1 | ⟨e1, g1, g2, -⟩
    · rw [e1]; simp; exact ⟨s1, s2⟩
    · rw [e1]
      simp
      rcases b7 with ⟨e0, rfl, rfl⟩ | ⟨f1, f2⟩
      · have d := hd e0 e1
        exact ⟨⟨s1, d.1, d.2.1⟩, s2, d.2.2.1, d.2.2.2⟩
      · exact ⟨⟨s1, by omega, by omega⟩, s2, by omega, by omega⟩
  have tk0 : (o.en false).stand ≠ .closed → Tk S2 tb2 (o.en false) k1 a1 (o.en false).refused (as' false) (io' false) := fun hc => by
    have t := b5 hc
    obtain ⟨f1, f2⟩ := far hc
    exact ⟨(c4 _ ne.symm).trans t.key, c6.at t.kn f1, c6.at t.ad f2, t.ne⟩
  have hdis : (o.en false).stand ≠ .closed → (o.en true).stand ≠ .closed → k1 ≠ k2 ∧ k1 ≠ a2 ∧ a1 ≠ k2 ∧ a1 ≠ a2 := fun h0 h1 => by
    have t0 := b5 h0
    have m1 := lt_of t0.kn
    have m2 := lt_of t0.ad
    rcases c7 with ⟨e1, rfl, rfl⟩ | ⟨f1, f2⟩
    · obtain ⟨g1, g2⟩ := far h0
      rw [e1] at g1 g2
      simp at g1 g2
      exact ⟨g1.2.1, g1.2.2, g2.2.1, g2.2.2⟩
    · exact ⟨by omega, by omega, by omega, by omega⟩
  have qn : o.n ≠ q := ob_ne n2 q2 (by simp)
  have hq := lt_of q2
  have s2q : s ≠ q := ob_ne c2 q2 (by simp)
  have f3 : Fx S2 (S2.set q (.dct (woD o.clear)) ++ [.dct [(.inr "fresh", .lst []), (.inr "altered", .lst [])]]) [q] := (fx_set _ _ _ _ (by simp)).trans (fx_app _ _ _)
  have at3 : ∀ {m : Nat} {x : Ob}, S2[m]? = some x → m ≠ q → (S2.set q (.dct (woD o.clear)) ++ [.dct [(.inr "fresh", .lst []), (.inr "altered", .lst [])]])[m]? = some x := fun hm hne => f3.at hm (by simpa using hne)
  have tk3 : ∀ {e : En} {kk aa : Nat} {rf : List Pk} {as : List (List Pk)} {io : Bool}, Tk S2 tb2 e kk aa rf as io → Tk (S2.set q (.dct (woD o.clear)) ++ [.dct [(.inr "fresh", .lst []), (.inr "altered", .lst [])]]) tb2 e kk aa rf as io := fun t =>
    ⟨t.key, at3 t.kn (ob_ne t.kn q2 (wo_kn o _ _ _).symm), at3 t.ad (ob_ne t.ad q2 (wo_as o _).symm), t.ne⟩
  refine ⟨tb2, fun i => if i = true then k2 else k1, fun i => if i = true then a2 else a1, _, ?_, ⟨at3 c2 s2q, fun i => ?_, fun h0 h1 => by simpa using hdis h0 h1⟩, by omega, fun k hk => (c4 _ (hk true)).trans (b4 _ (hk false)), ⟨?_, ?_⟩, fun p c hp => ?_⟩
  · have t1 : mFor (mSeq (mBin fSub (mVar 1) (mC (.str "names")))) (mName 2) bothBody [some (.loc s), some (.loc q), none, none, none] S = some (.nx [some (.loc s), some (.loc q), some (sK (o.nm true)), some (.lst ((o.own true).map ltE)), none] S2) := by
      refine for_of (vs := [sK (o.nm false), sK (o.nm true)]) (S1 := S) ?_ ?_
      · rw [s_mSeqT, bin_of (var_of rfl) c_of (ps_names h.pair)]
        rfl
      · have g1 : mName 2 (sK (o.nm false)) [some (.loc s), some (.loc q), none, none, none] S = some ([some (.loc s), some (.loc q), some (sK (o.nm false)), none, none], S) := rfl
        have g2 : mName 2 (sK (o.nm true)) [some (.loc s), some (.loc q), some (sK (o.nm false)), some (.lst ((o.own false).map ltE)), none] S1 = some ([some (.loc s), some (.loc q), some (sK (o.nm true)), some (.lst ((o.own false).map ltE)), none], S1) := rfl
        simp only [forGo, g1, Option.bind_some, b1, g2, c1]
    have hu : fUpd (S2 ++ [.dct [(.inr "fresh", .lst []), (.inr "altered", .lst [])]]) (.loc q) (.loc S2.length) = some (.non, S2.set q (.dct (woD o.clear)) ++ [.dct [(.inr "fresh", .lst []), (.inr "altered", .lst [])]]) := by
      have e1 : (S2 ++ [Ob.dct [(.inr "fresh", .lst []), (.inr "altered", .lst [])]])[q]? = some (.dct (woD o)) := by rw [List.getElem?_append_left hq, q2]
      have e2 : (S2 ++ [Ob.dct [(.inr "fresh", .lst []), (.inr "altered", .lst [])]])[S2.length]? = some (.dct [(.inr "fresh", .lst []), (.inr "altered", .lst [])]) := by simp
      have e3 : q ≠ S2.length := by omega
      simp only [fUpd, if_neg e3, e1, e2, woD_len, clear_up]
      rw [if_pos (by show 8 + 2 ≤ 1000; omega), List.set_append_left _ _ hq]
    have t2 : mDrop (mUpd (mVar 1) (mDisp [(.inr "fresh", mLst (mNil)), (.inr "altered", mLst (mNil))])) [some (.loc s), some (.loc q), some (sK (o.nm true)), some (.lst ((o.own true).map ltE)), none] S2 = some (.nx [some (.loc s), some (.loc q), some (sK (o.nm true)), some (.lst ((o.own true).map ltE)), none] (S2.set q (.dct (woD o.clear)) ++ [.dct [(.inr "fresh", .lst []), (.inr "altered", .lst [])]])) := by
      refine drop_of (v := .non) ?_
      have hd1 : isDc S2 (.loc q) = true := by simp [isDc, q2]
      have hm : mDisp [(.inr "fresh", mLst (mNil)), (.inr "altered", mLst (mNil))] [some (.loc s), some (.loc q), some (sK (o.nm true)), some (.lst ((o.own true).map ltE)), none] S2 = some (.loc S2.length, S2 ++ [.dct [(.inr "fresh", .lst []), (.inr "altered", .lst [])]]) := by simp
      rw [s_mUpd, var_of rfl, Option.bind_some]
      dsimp only
      rw [if_pos hd1, hm, Option.bind_some]
      exact hu
    refine body_of (N := 5) (as := [.loc s, .loc q]) ?_
    rw [s_law_both_eq]
    exact (then_nx t1).trans ((then_nx t2).trans (ret_of c_of))
  · cases i with
    | false => exact fun hc => tk3 (tk0 hc)
    | true => exact fun hc => tk3 (c5 hc)
  · rw [List.getElem?_append_left (by simpa using hq)]
    exact set_at q2
  · exact at3 n2 qn
  · have hp1 : Pn S1 p c := by
      obtain ⟨cs, a, l, z⟩ := pen_ob hp
      exact hp.fx b6 ((r false).off hs z (by simp) (pen_kn cs a l) (pen_as cs a l))
    have hp2 : Pn S2 p c := by
      obtain ⟨cs, a, l, z⟩ := pen_ob hp1
      exact hp1.fx c6 (r1.off b2 z (by simp) (pen_kn cs a l) (pen_as cs a l))
    obtain ⟨cs, a, l, z⟩ := pen_ob hp2
    have : p ≠ q := ob_ne z q2 (by simp [penD, woD])
    exact hp2.fx f3 (by simpa using this)
end Cw
end
section
/-! CwP24: one thing more, and the look at both ends. -/
namespace Cw
open PySem PySem.Spec PyProof.Rows L2
theorem LOk.mono {nm : Kd} {a b a' b' : Int} {L : Lt} (h : LOk nm a b L) (h1 : a ≤ a') (h2 : b ≤ b') : LOk nm a' b' L := ⟨h.who, h.few, fun z => ⟨(h.ask z).1, Int.le_trans (h.ask z).2 h1⟩, fun z => Int.le_trans (h.ans z) h2⟩
def keyT (k : Kd) (t y : Int) : List Key := [.inr (kstr k), .inl t, .inl y]
theorem keyT_inj {k k' : Kd} {t t' y y' : Int} (h : keyT k t y = keyT k' t' y') : k = k' ∧ t = t' ∧ y = y' := by
  unfold keyT at h
  simp at h
  exact ⟨kstr_inj _ _ h.1, h.2.1, h.2.2⟩
structure St (K : Bool → List Kd) (S : Sto) (p q s c m : Nat) (o : Wo) (air : List (Bool × Lt)) (tb : List (List Key × Val)) (kl al : Bool → Nat) (as : Bool → List (List Pk)) (io : Bool → Bool) : Prop where
  pair : PairAt S q o air
  pen : Pn S p c
  w : WOk K o air
  so : SOk S s tb o kl al as io
  trk : ∀ i, (o.en i).stand ≠ .closed → Trk (as i) (io i) (o.en i)
  keys : ∀ i t y, gK tb (keyT (o.nm i) t y) ≠ none → t < (o.en i).turn ∨ (t = (o.en i).turn ∧ y ≤ (o.en i).yours)
  fr : o.fr = []
  alt : o.al = []
  la : air.length ≤ 2 * m
  lt : tb.length ≤ 2 * m
  ls : ∀ i, (as i).length ≤ 2 * m
  lm : m ≤ 300
structure Prep (S : Sto) (s : Nat) (tb : List (List Key × Val)) (m : Nat) (o o1 : Wo) (kl al : Nat) (i : Bool) (as' : List (List Pk)) (io' : Bool) (X : List Nat) : Prop where
  r : Ready S s tb (o1.en i) (o1.own i) (o1.alt i) kl al as' io' X
  t : (o1.en i).stand ≠ .closed → Trk as' io' (o1.en i)
  l : as'.length ≤ 2 * m + 2
  x : X = [s, kl, al] → (o.en i).stand ≠ .closed
theorem keyE_T (e : En) : keyE e = keyT e.name e.turn e.yours := rfl
section
variable {K : Bool → List Kd} {S S1 : Sto} {p q s c m : Nat} {o : Wo} {air : List (Bool × Lt)} {tb : List (List Key × Val)} {kl al : Bool → Nat} {as : Bool → List (List Pk)} {io : Bool → Bool}
theorem St.tk1 (st : St K S p q s c m o air tb kl al as io) (f : Fx S S1 [p, q, o.n]) : S1[s]? = some (.dcT tb) ∧ ∀ i, (o.en i).stand ≠ .closed → Tk S1 tb (o.en i) (kl i) (al i) (o.en i).refused (as i) (io i) := by
  obtain ⟨cs, a, l, z⟩ := pen_ob st.pen
  refine ⟨f.at st.so.tab ?_, fun i hc => ?_⟩
  · simp
    exact ⟨ob_ne st.so.tab z (by simp), ob_ne st.so.tab st.pair.pair (by simp), ob_ne st.so.tab st.pair.air (by simp)⟩
  · have t := st.so.tk i hc
    refine ⟨t.key, f.at t.kn ?_, f.at t.ad ?_, t.ne⟩
    · simp
      exact ⟨ob_ne t.kn z (pen_kn _ _ _ _ _ _).symm, ob_ne t.kn st.pair.pair (wo_kn _ _ _ _).symm, ob_ne t.kn st.pair.air (by simp)⟩
    · simp
      exact ⟨ob_ne t.ad z (pen_as _ _ _ _).symm, ob_ne t.ad st.pair.pair (wo_as _ _).symm, ob_ne t.ad st.pair.air (by simp)⟩
theorem prep_still (st : St K S p q s c m o air tb kl al as io) (f : Fx S S1 [p, q, o.n]) (o1 : Wo) (i : Bool) (he : o1.en i = o.en i) (h1 : o1.own i = []) (h2 : o1.alt i = false) : ∃ as' io' X, Prep S1 s tb m o o1 (kl i) (al i) i as' io' X := by
  obtain ⟨f1, f2⟩ := st.tk1 f
  have hl := st.ls i
  have hm := st.lm
  by_cases hc : (o.en i).stand = .closed
  · exact ⟨[], false, [s], .shut _ (by rw [he]; exact hc), fun z => absurd (by rw [he]; exact hc) z, by simp, fun z => by cases z⟩
  · refine ⟨as i, io i || false, [s, kl i, al i], ?_, fun _ => ?_, by omega, fun _ => hc⟩
    · rw [he, h1, h2]
      exact .old _ _ _ hc (f2 i hc) (still_next (st.w.en i) hc (st.trk i hc) (by omega))
    · rw [he]
      simpa using st.trk i hc
theorem prep_event (st : St K S p q s c m o air tb kl al as io) (f : Fx S S1 [p, q, o.n]) (i : Bool) (e' : En) (ls : List Lt) (alt : Bool) (n : Nat) (hls : ls.length ≤ 2) (N : Next (K i) (as i) (io i) (o.en (!i)).yours (o.en i) e' ls alt) :
    ∃ as' io' X, Prep S1 s tb m o (o.after i e' ls alt n) (kl i) (al i) i as' io' X := by
  obtain ⟨f1, f2⟩ := st.tk1 f
  have hl := st.ls i
  have e1 : (o.after i e' ls alt n).en i = e' := by simp [Wo.after, Wo.put]
  have hnm := st.w.nm i
  have e2 : (o.after i e' ls alt n).own i = ls := by
    have : (o.after i e' ls alt n).fr = ls := by show o.fr ++ ls = ls; rw [st.fr]; rfl
    unfold Wo.own
    rw [this]
    refine List.filter_eq_self.mpr fun L hL => ?_
    have := (N.lets L hL).who
    exact decide_eq_true (this.trans hnm)
  have e3 : (o.after i e' ls alt n).alt i = alt := by
    have : (o.after i e' ls alt n).al = if alt = true then [o.nm i] else [] := by
      show (if alt = true then o.al ++ [o.nm i] else o.al) = _
      rw [st.alt]
      rfl
    unfold Wo.alt
    rw [this]
    show decide (o.nm i ∈ _) = alt
    cases alt <;> simp
  by_cases hc : e'.stand = .closed
  · exact ⟨[], false, [s], by rw [e1, e2, e3]; exact .shut _ hc, fun z => absurd (by rw [e1]; exact hc) z, by simp, fun z => by cases z⟩
  · rcases N.look hc with ⟨h0, ht, hy, as', lk, tr⟩ | ⟨hlt, as', lk, tr⟩
    · have tk := f2 i h0
      have hk : keyE e' = keyE (o.en i) := by rw [keyE_T, keyE_T, N.nm, ht, hy]
      refine ⟨as', io i || alt, [s, kl i, al i], ?_, fun _ => by rw [e1]; exact tr, ?_, fun _ => h0⟩
      · rw [e1, e2, e3]
        exact .old _ _ _ hc ⟨hk ▸ tk.key, tk.kn, tk.ad, tk.ne⟩ lk
      · have := asks_len lk.asks
        omega
    · refine ⟨as', alt, [s], ?_, fun _ => by rw [e1]; exact tr, ?_, fun z => by cases z⟩
      · rw [e1, e2, e3]
        refine .new hc ?_ lk
        cases hg : gK tb (keyE e') with
        | none => rfl
        | some v =>
          have hk : keyE e' = keyT (o.nm i) e'.turn e'.yours := by rw [keyE_T, N.nm, hnm]
          have := st.keys i e'.turn e'.yours (by rw [← hk, hg]; simp)
          omega
      · have := asks_len lk.asks
        simp at this
        omega
/-- from both preparations, the look -/
theorem both_st (st : St K S p q s c m o air tb kl al as io) (f : Fx S S1 [p, q, o.n]) {o1 : Wo} {air1 : List (Bool × Lt)} {c1 : Nat} (h1 : PairAt S1 q o1 air1) (hp : Pn S1 p c1) (w1 : WOk K o1 air1) (hnm : o1.nm = o.nm) (hfr : o1.fr.length ≤ 1000) (hair : air1.length ≤ air.length + 2)
    (lex : ∀ i, (o.en i).turn < (o1.en i).turn ∨ ((o1.en i).turn = (o.en i).turn ∧ (o.en i).yours ≤ (o1.en i).yours)) (P : ∀ i, ∃ as' io' X, Prep S1 s tb m o o1 (kl i) (al i) i as' io' X) (hm : m + 1 ≤ 300) :
    ∃ tb' kl' al' as' io' S', m_law_both_right [.loc s, .loc q] S1 = some (.bl true, S') ∧ St K S' p q s c1 (m + 1) o1.clear air1 tb' kl' al' as' io' := by
  obtain ⟨f1, f2⟩ := st.tk1 f
  obtain ⟨asF, ioF, XF, pF⟩ := P false
  obtain ⟨asT, ioT, XT, pT⟩ := P true
  have htb := st.lt
  have pr : ∀ i, Prep S1 s tb m o o1 (kl i) (al i) i (if i = true then asT else asF) (if i = true then ioT else ioF) (if i = true then XT else XF) := fun i => by cases i <;> assumption
  obtain ⟨tb', kl', al', S', b1, b2, b3, b4, b5, b6⟩ := both_eq (kl := kl) (al := al) (as' := fun i => if i = true then asT else asF) (io' := fun i => if i = true then ioT else ioF) (X := fun i => if i = true then XT else XF) f1 (by omega) h1 w1.ne w1.nm hfr (fun i => (pr i).r)
    (fun e0 e1 => st.so.dis ((pr false).x e0) ((pr true).x e1))
  refine ⟨tb', kl', al', _, _, S', b1, ⟨b5, b6 p c1 hp, ⟨w1.ne, w1.en, w1.nm, w1.last, w1.air, w1.bd, w1.t0, w1.t1⟩, b2, fun i hc => (pr i).t hc, fun i t y hk => ?_, rfl, rfl, by have := st.la; omega, by omega, fun i => by have := (pr i).l; simp at this ⊢; omega, hm⟩⟩
  have nn : o1.clear.nm i = o.nm i := congrFun hnm i
  show t < (o1.en i).turn ∨ (t = (o1.en i).turn ∧ y ≤ (o1.en i).yours)
  rw [nn] at hk
  by_cases he : ∃ j, keyT (o.nm i) t y = keyE (o1.en j)
  · obtain ⟨j, hj⟩ := he
    rw [keyE_T, w1.nm j, congrFun hnm j] at hj
    obtain ⟨a1, a2, a3⟩ := keyT_inj hj
    have ij : i = j := by
      have hne := st.w.ne
      cases i <;> cases j <;> first | rfl | exact absurd a1 hne | exact absurd a1.symm hne
    subst ij
    exact .inr ⟨a2, by omega⟩
  · rw [b4 _ fun j hj => he ⟨j, hj⟩] at hk
    have h0 := st.keys i t y hk
    have hx := lex i
    omega
theorem step_st (st : St K S p q s c m o air tb kl al as io) (f : Fx S S1 [p, q, o.n]) {o1 : Wo} {air1 : List (Bool × Lt)} {c1 : Nat} (ld : Led o air o1 air1) (h1 : PairAt S1 q o1 air1) (hp : Pn S1 p c1) (hm : m + 1 ≤ 300) :
    ∃ tb' kl' al' as' io' S', m_law_both_right [.loc s, .loc q] S1 = some (.bl true, S') ∧ St K S' p q s c1 (m + 1) o1.clear air1 tb' kl' al' as' io' := by
  cases ld with
  | only air' ha hl =>
    refine both_st st f h1 hp ⟨st.w.ne, st.w.en, st.w.nm, st.w.last, fun x hx => st.w.air x (ha x hx), st.w.bd, st.w.t0, st.w.t1⟩ rfl (by rw [st.fr]; simp) (by omega) (fun i => .inr ⟨rfl, Int.le_refl _⟩) (fun i => prep_still st f o i rfl ?_ ?_) hm
    · unfold Wo.own; rw [st.fr]; rfl
    · unfold Wo.alt; rw [st.alt]; simp
  | event i e' ls alt n air0 hev ha hl hls =>
    have ml := st.ls i
    have lm := st.lm
    have nmi := st.w.nm i
    have last' : ∀ l, (o.en i).last = some l → isAns l.w ∧ LOk (o.en i).name (o.en i).yours (o.en (!i)).yours l := fun l z => by rw [nmi]; exact st.w.last i l z
    have N : Next (K i) (as i) (io i) (o.en (!i)).yours (o.en i) e' ls alt := by
      rcases hev with h | ⟨rfl, L, hL, h⟩
      · exact ev_next (st.w.en i) (st.trk i) (by omega) last' st.w.t0 st.w.t1 h
      · exact heard_next (st.w.en i) (st.trk i) (by omega) last' st.w.t0 st.w.t1 (st.w.air _ hL) h
    have ei : (o.after i e' ls alt n).en i = e' := by simp [Wo.after, Wo.put]
    have ej : ∀ j, j ≠ i → (o.after i e' ls alt n).en j = o.en j := fun j hj => by simp [Wo.after, Wo.put, hj]
    have ni : (!i) ≠ i := by cases i <;> simp
    have yo : ∀ j, (o.en j).yours ≤ ((o.after i e' ls alt n).en j).yours := fun j => by
      by_cases hj : j = i
      · subst hj; rw [ei]; exact N.yo
      · rw [ej j hj]; exact Int.le_refl _
    have nmeq : (o.after i e' ls alt n).nm = o.nm := rfl
    have w1 : WOk K (o.after i e' ls alt n) (air0 ++ ls.map fun L => (!i, L)) := by
      refine ⟨st.w.ne, fun j => ?_, fun j => ?_, fun j l hl => ?_, fun x hx => ?_, st.w.bd, st.w.t0, st.w.t1⟩
      · by_cases hj : j = i
        · subst hj; rw [ei]; exact N.ok
        · rw [ej j hj]; exact st.w.en j
      · by_cases hj : j = i
        · subst hj; rw [ei]; exact N.nm.trans nmi
        · rw [ej j hj]; exact st.w.nm j
      · by_cases hj : j = i
        · subst hj
          rw [ei] at hl ⊢
          rw [ej _ ni]
          have := N.last l hl
          rw [nmi] at this
          exact this
        · rw [ej j hj] at hl ⊢
          have := st.w.last j l hl
          exact ⟨this.1, this.2.mono (Int.le_refl _) (yo _)⟩
      · rcases List.mem_append.mp hx with hx | hx
        · exact (st.w.air x (ha x hx)).mono (yo _) (yo _)
        · obtain ⟨L, hL, rfl⟩ := List.mem_map.mp hx
          have := N.lets L hL
          rw [nmi] at this
          show LOk (o.nm (!(!i))) ((o.after i e' ls alt n).en (!(!i))).yours ((o.after i e' ls alt n).en (!i)).yours L
          rw [Bool.not_not, ei, ej _ ni]
          exact this
    refine both_st st f h1 hp w1 rfl (by show (o.fr ++ ls).length ≤ 1000; rw [st.fr]; simp; omega) (by simp; omega) (fun j => ?_) (fun j => ?_) hm
    · by_cases hj : j = i
      · subst hj; rw [ei]; exact N.lex
      · rw [ej j hj]; exact .inr ⟨rfl, Int.le_refl _⟩
    · by_cases hj : j = i
      · subst hj; exact prep_event st f j e' ls alt n hls N
      · have nij : o.nm j ≠ o.nm i := by
          have hne := st.w.ne
          cases i <;> cases j <;> simp at hj ⊢ <;> first | exact hne | exact hne.symm
        refine prep_still st f _ j (ej j hj) ?_ ?_
        · have : (o.after i e' ls alt n).fr = ls := by show o.fr ++ ls = ls; rw [st.fr]; rfl
          unfold Wo.own
          rw [this]
          refine List.filter_eq_nil_iff.mpr fun L hL z => ?_
          have hw := (N.lets L hL).who
          rw [nmi] at hw
          have z' : L.who = o.nm j := of_decide_eq_true z
          exact nij (z'.symm.trans hw)
        · unfold Wo.alt
          have : (o.after i e' ls alt n).al = if alt = true then [o.nm i] else [] := by
            show (if alt = true then o.al ++ [o.nm i] else o.al) = _
            rw [st.alt]
            rfl
          rw [this]
          show decide (o.nm j ∈ _) = false
          cases alt <;> simp [nij]
end
end Cw
end
section
/-! CwP25: an end that hears nothing. -/
namespace Cw
open PySem PySem.Spec PyProof.Rows L2
theorem okN_opE {α : Type} {f : α → Val} {n : Nat} (h : ∀ a, OkN n (f a)) (o : Option α) : OkN n (opE f o) := by
  cases o with
  | none => exact okN_non.mono (Nat.zero_le _)
  | some a => exact h a
theorem okN_enE (e : En) : OkN 4 (enE e) := okN_tup fun v hv => by
  have : v = sK e.name ∨ v = wishesE e.wishes ∨ v = .str (sdS e.stand) ∨ v = .int e.turn ∨ v = .int e.yours ∨ v = .int e.number ∨ v = planE e.plan ∨ v = prsE e.refused ∨ v = opE prsE e.given ∨ v = .int e.heard ∨ v = opE prsE e.took ∨ v = opE ltE e.last ∨ v = .int e.tries ∨ v = .int e.echoes ∨ v = .str (wyS e.why) := by simpa using hv
  rcases this with rfl | rfl | rfl | rfl | rfl | rfl | rfl | rfl | rfl | rfl | rfl | rfl | rfl | rfl | rfl
  · exact (okN_sK _).mono (by decide)
  · exact okN_wishesE _
  · exact (okN_str (sdS_ok _)).mono (by decide)
  · exact (okN_int _).mono (by decide)
  · exact (okN_int _).mono (by decide)
  · exact (okN_int _).mono (by decide)
  · exact okN_planE _
  · exact (okN_prsE _).mono (by decide)
  · exact (okN_opE okN_prsE _).mono (by decide)
  · exact (okN_int _).mono (by decide)
  · exact (okN_opE okN_prsE _).mono (by decide)
  · exact okN_opE okN_ltE _
  · exact (okN_int _).mono (by decide)
  · exact (okN_int _).mono (by decide)
  · exact (okN_str (wyS_ok _)).mono (by decide)
theorem fEq_en (S : Sto) (e : En) : fEq S (enE e) (enE e) = some (.bl true, S) := by
  have h := okN_enE e
  unfold fEq
  rw [if_pos ⟨h.ok, h.ok⟩]
  have : vEq (enE e) (enE e) = true := SeqAt.eqv_refl _ h.2.1
  exact congrArg (fun b => some (Val.bl b, S)) this
theorem fEq_nils (S : Sto) : fEq S (.lst []) (.lst []) = some (.bl true, S) := by
  have h0 : okV (.lst []) = true := by decide
  unfold fEq
  rw [dr_lst, if_pos ⟨h0, h0⟩, lst_nil]
  rfl
abbrev tkCall : MS := (mAsg (mCallF 1 m_ticked [] (mCons (mVar 0) (mNil))) (mTTup 2 (mTCons (mName 0) (mTCons (mName 3) (mTNil)))))
abbrev tkTest : MG Bool := (mOrT (mT (mBin fNe (mCall fLen (mCons (mVar 3) (mNil))) (mC (.int 1)))) (mOrT (mT (mBin fNotIn (mBin fSub (mBin fSub (mVar 3) (mC (.int 0))) (mC (.int 1))) (mTup (mCons (mC (.str "ask")) (mCons (mC (.str "here")) (mNil)))))) (mOrT (mT (mBin fEq (mBin fSub (mVar 0) (mC (.int 2))) (mC (.str "closed")))) (mT (mBin fNe (mBin fSub (mVar 0) (mC (.int 12))) (mBin fSubI (mBin fSubI (mVar 1) (mVar 2)) (mC (.int 1))))))))
abbrev tkBody : MS := (mThen tkCall (mIfS tkTest (mRet (mC (.bl false))) (mNext)))
theorem tkTest_eq (S : Sto) (e : En) (l : Lt) (left j : Int) (hl : l.w = .ask ∨ l.w = .here) (hc : e.stand ≠ .closed) (ht : e.tries = left - j - 1) (x4 x5 : Option Val) :
    tkTest [some (enE e), some (.int left), some (.int j), some (.lst [ltE l]), x4, x5] S = some (false, S) := by
  have h1 : mT (mBin fNe (mCall fLen (mCons (mVar 3) (mNil))) (mC (.int 1))) [some (enE e), some (.int left), some (.int j), some (.lst [ltE l]), x4, x5] S = some (false, S) := by
    simp [fLen, seqOf]
  have h0 : ∀ S', fSub S' (.lst [ltE l]) (.int 0) = some (ltE l, S') := fun S' => by simp [fSub, fIxSeq, seqOf, atI, ixN]
  have h0' : ∀ S', fSub S' (ltE l) (.int 1) = some (.str (wS l.w), S') := fun S' => by simp [ltE, fSub, fIxSeq, seqOf, atI, ixN]
  have h2 : mT (mBin fNotIn (mBin fSub (mBin fSub (mVar 3) (mC (.int 0))) (mC (.int 1))) (mTup (mCons (mC (.str "ask")) (mCons (mC (.str "here")) (mNil))))) [some (enE e), some (.int left), some (.int j), some (.lst [ltE l]), x4, x5] S = some (false, S) := by
    refine t_of (bin_of (bin_of (bin_of (var_of rfl) c_of (h0 S)) c_of (h0' S)) (y := .tup [.str "ask", .str "here"]) (S2 := S) rfl ?_)
    unfold fNotIn
    rw [inB_two S (wS l.w) "ask" "here" (by simp) (by simp) (by simp)]
    rcases hl with h | h <;> simp [h, wS]
  have h3 : mT (mBin fEq (mBin fSub (mVar 0) (mC (.int 2))) (mC (.str "closed"))) [some (enE e), some (.int left), some (.int j), some (.lst [ltE l]), x4, x5] S = some (false, S) := by simp [Sd_str, hc]
  have h4 : mT (mBin fNe (mBin fSub (mVar 0) (mC (.int 12))) (mBin fSubI (mBin fSubI (mVar 1) (mVar 2)) (mC (.int 1)))) [some (enE e), some (.int left), some (.int j), some (.lst [ltE l]), x4, x5] S = some (false, S) := by simp [ht]
  exact or_f h1 (or_f h2 (or_f h3 h4))
theorem low_w (e : En) : (if e.given = none then askL e else hereL e).w = .ask ∨ (if e.given = none then askL e else hereL e).w = .here := by
  split
  · exact .inl rfl
  · exact .inr rfl
theorem tk_go (left : Int) : ∀ (n j : Nat) (S : Sto) (e : En) (x2 x3 : Option Val), e.Fit → e.stand ≠ .closed → e.tries = n → left = j + n →
    ∃ e' y2 y3 J, forGo (mName 2) tkBody ((List.range' j n).map fun (i : Nat) => Val.int (i : Int)) [some (enE e), some (.int left), x2, x3, none, none] S = some (.nx [some (enE e'), some (.int left), y2, y3, none, none] (S ++ J)) ∧ e'.Fit ∧ e'.stand ≠ .closed ∧ e'.tries = 0
  | 0, j, S, e, x2, x3, h1, h2, h3, h4 => ⟨e, x2, x3, [], by simp [forGo], h1, h2, by simpa using h3⟩
  | n + 1, j, S, e, x2, x3, h1, h2, h3, h4 => by
    obtain ⟨J, hJ⟩ := ticked_on e S h1 h2 (by omega)
    have st : (settled e.low).stand ≠ .closed := fun z => h2 (by simpa [En.low] using z)
    have tr : (settled e.low).tries = e.tries - 1 := by simp [En.low]
    have ft : (settled e.low).Fit := ⟨by simpa [En.low] using h1.1, by simpa [En.low] using h1.2⟩
    obtain ⟨e', y2, y3, J', i1, i2, i3, i4⟩ := tk_go left n (j + 1) (S ++ J) (settled e.low) (some (.int (j : Int))) (some (.lst [ltE (if e.given = none then askL e else hereL e)])) ft st (by omega) (by omega)
    refine ⟨e', y2, y3, J ++ J', ?_, i2, i3, i4⟩
    have g1 : mName 2 (.int (j : Int)) [some (enE e), some (.int left), x2, x3, none, none] S = some ([some (enE e), some (.int left), some (.int (j : Int)), x3, none, none], S) := rfl
    have t1 : tkCall [some (enE e), some (.int left), some (.int (j : Int)), x3, none, none] S = some (.nx [some (enE (settled e.low)), some (.int left), some (.int (j : Int)), some (.lst [ltE (if e.given = none then askL e else hereL e)]), none, none] (S ++ J)) :=
      asg_of (callF_of (cons_of (var_of rfl) nil_of) rfl hJ) rfl
    have t2 := tkTest_eq (S ++ J) (settled e.low) (if e.given = none then askL e else hereL e) left j (low_w e) st (by omega) none none
    have b1 : tkBody [some (enE e), some (.int left), some (.int (j : Int)), x3, none, none] S = some (.nx [some (enE (settled e.low)), some (.int left), some (.int (j : Int)), some (.lst [ltE (if e.given = none then askL e else hereL e)]), none, none] (S ++ J)) := (then_nx t1).trans (ifs_f t2)
    rw [List.range'_succ, List.map_cons, forGo, g1, Option.bind_some]
    show (tkBody _ S).bind _ = _
    rw [b1, ← List.append_assoc]
    exact i1
abbrev tkEnd : MS := (mThen (mAsg (mCallF 1 m_ticked [] (mCons (mVar 0) (mNil))) (mTTup 2 (mTCons (mName 4) (mTCons (mName 3) (mTNil)))))
  (mThen (mIfS (mT (mBin fEq (mBin fSub (mVar 0) (mC (.int 2))) (mC (.str "closed")))) (mRet (mAndV (mBin fEq (mVar 4) (mVar 0)) (mBin fEq (mVar 3) (mLst (mNil))))) (mNext))
  (mRet (mAndV (mBin fEq (mBin fSub (mVar 4) (mC (.int 2))) (mC (.str "closed"))) (mAndV (mBin fEq (mBin fSub (mVar 4) (mC (.int 14))) (mC (.str "tries"))) (mBin fEq (mLc (mSeq (mVar 3)) (mName 5) (mYes) (mBin fSub (mVar 5) (mC (.int 1))) [5]) (mLst (mCons (mC (.str "bye")) (mNil)))))))))
abbrev tkMany : MG (List Val) := (mRange (mCons (mBin fMulI (mVar 1) (mCall fInt (mCons (mBin fNe (mBin fSub (mVar 0) (mC (.int 2))) (mC (.str "closed"))) (mNil)))) (mNil)))
theorem s_law_ticks_eq : s_law_ticks_right = mThen (mAsg (mBin fSub (mVar 0) (mC (.int 12))) (mName 1)) (mThen (mFor tkMany (mName 2) tkBody) tkEnd) := rfl
theorem and_t {a b : M} {ρ : Env'} {S S1 : Sto} {r : Option (Val × Sto)} (h : a ρ S = some (.bl true, S1)) (h2 : b ρ S1 = r) : mAndV a b ρ S = r := by rw [s_mAndV, h]; exact h2
theorem ticks_eq {K : List Kd} {e : En} (g : EndOk K e) (S : Sto) : ∃ J, m_law_ticks_right [enE e] S = some (.bl true, S ++ J) := by
  have t0 := g.t0
  have t1 := g.t1
  have a1 : mAsg (mBin fSub (mVar 0) (mC (.int 12))) (mName 1) [some (enE e), none, none, none, none, none] S = some (.nx [some (enE e), some (.int e.tries), none, none, none, none] S) := asg_of (bin_of (var_of rfl) c_of (en_12 S e)) rfl
  have hmul : ∀ b : Bool, fMulI S (.int e.tries) (.int (if b = true then 1 else 0)) = some (.int (e.tries * (if b = true then 1 else 0)), S) := fun b => r_mul _ _ _ (by unfold mulOk; rw [decide_eq_true]; left; omega)
  have hm : (mCons (mBin fMulI (mVar 1) (mCall fInt (mCons (mBin fNe (mBin fSub (mVar 0) (mC (.int 2))) (mC (.str "closed"))) (mNil)))) (mNil)) [some (enE e), some (.int e.tries), none, none, none, none] S = some ([.int (e.tries * (if (!decide (e.stand = .closed)) = true then 1 else 0))], S) := by
    refine cons_of (bin_of (var_of rfl) (y := .int (if (!decide (e.stand = .closed)) = true then 1 else 0)) (S2 := S) ?_ (hmul _)) nil_of
    rw [s_mCall, cons_of (v := .bl (!decide (e.stand = .closed))) (S1 := S) ?_ nil_of]
    · rfl
    · simp -implicitDefEqProofs [Sd_str]
  have endOf : ∀ {R : Res} {v : Val} {S' : Sto}, R = .rt v S' → s_law_ticks_right [some (enE e), none, none, none, none, none] S = some R → m_law_ticks_right [enE e] S = some (v, S') := fun h1 h2 => body_of (N := 6) (as := [enE e]) (h1 ▸ h2)
  by_cases hc : e.stand = .closed
  · rw [decide_eq_true hc] at hm
    have hr : tkMany [some (enE e), some (.int e.tries), none, none, none, none] S = some (intsV 0, S) := by
      have e1 : e.tries * (if (!true) = true then 1 else 0) = ((0 : Nat) : Int) := by simp
      rw [e1] at hm
      exact range_at hm (by omega)
    have a2 : mFor tkMany (mName 2) tkBody [some (enE e), some (.int e.tries), none, none, none, none] S = some (.nx [some (enE e), some (.int e.tries), none, none, none, none] S) := for_of hr rfl
    obtain ⟨J, hJ⟩ := ticked_closed e S hc
    refine ⟨J, endOf rfl ?_⟩
    rw [s_law_ticks_eq]
    refine (then_nx a1).trans ((then_nx a2).trans ?_)
    have b1 : mAsg (mCallF 1 m_ticked [] (mCons (mVar 0) (mNil))) (mTTup 2 (mTCons (mName 4) (mTCons (mName 3) (mTNil)))) [some (enE e), some (.int e.tries), none, none, none, none] S = some (.nx [some (enE e), some (.int e.tries), none, some (.lst []), some (enE e), none] (S ++ J)) := asg_of (callF_of (cons_of (var_of rfl) nil_of) rfl hJ) rfl
    have b2 : mT (mBin fEq (mBin fSub (mVar 0) (mC (.int 2))) (mC (.str "closed"))) [some (enE e), some (.int e.tries), none, some (.lst []), some (enE e), none] (S ++ J) = some (true, S ++ J) := by simp -implicitDefEqProofs [Sd_str, hc]
    have b3 : mRet (mAndV (mBin fEq (mVar 4) (mVar 0)) (mBin fEq (mVar 3) (mLst (mNil)))) [some (enE e), some (.int e.tries), none, some (.lst []), some (enE e), none] (S ++ J) = some (.rt (.bl true) (S ++ J)) :=
      ret_of (and_t (bin_of (var_of rfl) (var_of rfl) (fEq_en _ e)) (bin_of (var_of rfl) (y := .lst []) (S2 := S ++ J) rfl (fEq_nils _)))
    exact (then_nx b1).trans (then_rt ((ifs_t b2).trans b3))
  · have ok := g.op hc
    have fit : e.Fit := ⟨g.small, by simpa using congrArg List.length ok.kinds⟩
    obtain ⟨n, hn⟩ := Int.eq_ofNat_of_zero_le t0
    rw [decide_eq_false hc] at hm
    have hr : tkMany [some (enE e), some (.int e.tries), none, none, none, none] S = some (intsV n, S) := by
      have e1 : e.tries * (if (!false) = true then 1 else 0) = (n : Int) := by rw [hn]; simp
      rw [e1] at hm
      exact range_at hm (by omega)
    obtain ⟨e', y2, y3, J, i1, i2, i3, i4⟩ := tk_go e.tries n 0 S e none none fit hc hn (by simpa using hn)
    have hv : intsV n = (List.range' 0 n).map fun (i : Nat) => Val.int (i : Int) := by unfold intsV; rw [List.range_eq_range']
    have a2 : mFor tkMany (mName 2) tkBody [some (enE e), some (.int e.tries), none, none, none, none] S = some (.nx [some (enE e'), some (.int e.tries), y2, y3, none, none] (S ++ J)) := for_of hr (by rw [hv]; exact i1)
    obtain ⟨J', hJ'⟩ := ticked_out e' (S ++ J) i3 i4
    refine ⟨J ++ J', endOf rfl ?_⟩
    rw [s_law_ticks_eq, ← List.append_assoc]
    refine (then_nx a1).trans ((then_nx a2).trans ?_)
    generalize S ++ J = S1 at *
    have b1 : mAsg (mCallF 1 m_ticked [] (mCons (mVar 0) (mNil))) (mTTup 2 (mTCons (mName 4) (mTCons (mName 3) (mTNil)))) [some (enE e'), some (.int e.tries), y2, y3, none, none] S1 = some (.nx [some (enE e'), some (.int e.tries), y2, some (.lst [ltE (byeL e')]), some (enE (e'.rest .tries)), none] (S1 ++ J')) := asg_of (callF_of (cons_of (var_of rfl) nil_of) rfl hJ') rfl
    have b2 : mT (mBin fEq (mBin fSub (mVar 0) (mC (.int 2))) (mC (.str "closed"))) [some (enE e'), some (.int e.tries), y2, some (.lst [ltE (byeL e')]), some (enE (e'.rest .tries)), none] (S1 ++ J') = some (false, S1 ++ J') := by simp -implicitDefEqProofs [Sd_str, i3]
    have c1 : mBin fEq (mBin fSub (mVar 4) (mC (.int 2))) (mC (.str "closed")) [some (enE e'), some (.int e.tries), y2, some (.lst [ltE (byeL e')]), some (enE (e'.rest .tries)), none] (S1 ++ J') = some (.bl true, S1 ++ J') := by simp -implicitDefEqProofs [En.rest, sdS]
    have c2 : mBin fEq (mBin fSub (mVar 4) (mC (.int 14))) (mC (.str "tries")) [some (enE e'), some (.int e.tries), y2, some (.lst [ltE (byeL e')]), some (enE (e'.rest .tries)), none] (S1 ++ J') = some (.bl true, S1 ++ J') := by simp -implicitDefEqProofs [En.rest, wyS]
    have c3 : mBin fEq (mLc (mSeq (mVar 3)) (mName 5) (mYes) (mBin fSub (mVar 5) (mC (.int 1))) [5]) (mLst (mCons (mC (.str "bye")) (mNil))) [some (enE e'), some (.int e.tries), y2, some (.lst [ltE (byeL e')]), some (enE (e'.rest .tries)), none] (S1 ++ J') = some (.bl true, S1 ++ J') := by
      have h0 : ∀ S', fSub S' (ltE (byeL e')) (.int 1) = some (.str "bye", S') := fun S' => by simp -implicitDefEqProofs [ltE, byeL, wS, fSub, fIxSeq, seqOf, atI, ixN]
      refine bin_of (x := .lst [.str "bye"]) (S1 := S1 ++ J') (lc_of (vs := [ltE (byeL e')]) (S1 := S1 ++ J') (by simp -implicitDefEqProofs) (by simp -implicitDefEqProofs) ?_) (y := .lst [.str "bye"]) (S2 := S1 ++ J') rfl ?_
      · simp -implicitDefEqProofs [lcGo, h0]
      · have hk : OkN 1 (.lst [.str "bye"]) := okN_lst fun v hv => by
          rw [List.mem_singleton.mp hv]
          exact okN_str (by simp -implicitDefEqProofs)
        unfold fEq
        rw [dr_lst, if_pos ⟨hk.ok, hk.ok⟩]
        have : vEq (.lst [.str "bye"]) (.lst [.str "bye"]) = true := SeqAt.eqv_refl _ hk.2.1
        rw [this]
    exact (then_nx b1).trans ((then_nx (ifs_f b2)).trans (ret_of (and_t c1 (and_t c2 c3))))
end Cw
end
section
/-! CwP26: the law, plainly. -/
namespace Cw
open PySem PySem.Spec PyProof.Rows L2
theorem not_of {a : MG Bool} {ρ : Env'} {S S' : Sto} {b : Bool} (h : a ρ S = some (b, S')) : mNotT a ρ S = some (!b, S') := by rw [s_mNotT, h]; rfl
theorem lst_of {a : MG (List Val)} {ρ : Env'} {S S' : Sto} {vs : List Val} (h : a ρ S = some (vs, S')) (hl : vs.length ≤ 1000) : mLst a ρ S = some (.lst vs, S') := by rw [s_mLst, h, Option.bind_some, if_pos hl]
def StX (K : Bool → List Kd) (S : Sto) (p q s c m : Nat) : Prop := ∃ o air tb kl al as io, St K S p q s c m o air tb kl al as io
theorem itself_step {K : Bool → List Kd} {S : Sto} {p q s c m : Nat} (x : StX K S p q s c m) (i : Bool) (hm : m + 1 ≤ 300) (hc : c + 300 ≤ 100000) :
    ∃ S1 S', m_law_of_itself [.loc p, .loc q, .int (bI i), .int 9] S = some (.non, S1) ∧ m_law_both_right [.loc s, .loc q] S1 = some (.bl true, S') ∧ StX K S' p q s (c + 300) (m + 1) := by
  obtain ⟨o, air, tb, kl, al, as, io, st⟩ := x
  have la := st.la
  obtain ⟨e', ls, alt, n, S1, v1, v2, v3, v4, v5, v6⟩ := itself_eq st.pair st.pen st.w.ne i (st.w.en i) (st.w.nm i) 9 hc (by omega) (by rw [st.fr]; simp) (by rw [st.alt]; simp)
  obtain ⟨tb', kl', al', as', io', S', b1, b2⟩ := step_st st (v5.mono (by simp <;> omega)) (.event i e' ls alt n air (.inl v1) (fun x hx => hx) (Nat.le_refl _) (by have := ev_len v1; omega)) v3 v6 hm
  exact ⟨S1, S', v2, b1, _, _, _, _, _, _, _, b2⟩
theorem led_step {K : Bool → List Kd} {S : Sto} {p q s c m : Nat} (x : StX K S p q s c m) (hm : m + 1 ≤ 300) (hc : c + 305 ≤ 100000) :
    ∃ S1 S', m_law_led [.loc p, .loc q] S = some (.non, S1) ∧ m_law_both_right [.loc s, .loc q] S1 = some (.bl true, S') ∧ StX K S' p q s (c + 305) (m + 1) := by
  obtain ⟨o, air, tb, kl, al, as, io, st⟩ := x
  have la := st.la
  obtain ⟨o', air', S1, v1, v2, v3, v4, v5, v6⟩ := led_eq st.pair st.pen st.w hc (by omega) (by rw [st.fr]; simp) (by rw [st.alt]; simp)
  obtain ⟨tb', kl', al', as', io', S', b1, b2⟩ := step_st st v5 v1 v3 v6 hm
  exact ⟨S1, S', v2, b1, _, _, _, _, _, _, _, b2⟩
abbrev bothTest : MG Bool := (mNotT (mT (mCallF 2 m_law_both_right [] (mCons (mVar 4) (mCons (mVar 3) (mNil))))))
abbrev bothEnd : MS := (mIfS bothTest (mRet (mC (.bl false))) (mNext))
theorem both_end {S S' : Sto} {s q : Nat} (h : m_law_both_right [.loc s, .loc q] S = some (.bl true, S')) (x0 x1 x2 x5 x6 x7 : Option Val) : bothEnd [x0, x1, x2, some (.loc q), some (.loc s), x5, x6, x7] S = some (.nx [x0, x1, x2, some (.loc q), some (.loc s), x5, x6, x7] S') := by
  have t : bothTest [x0, x1, x2, some (.loc q), some (.loc s), x5, x6, x7] S = some (false, S') := not_of (t_of (callF_of (cons_of (var_of rfl) (cons_of (var_of rfl) nil_of)) rfl h))
  exact ifs_f t
abbrev openBody : MS := (mThen (mDrop (mCallF 4 m_law_of_itself [] (mCons (mVar 1) (mCons (mVar 3) (mCons (mVar 5) (mCons (mC (.int 9)) (mNil))))))) bothEnd)
abbrev ledBody : MS := (mThen (mDrop (mCallF 2 m_law_led [] (mCons (mVar 1) (mCons (mVar 3) (mNil))))) bothEnd)
theorem open_go {K : Bool → List Kd} {p q s : Nat} (x0 x2 x6 x7 : Option Val) : ∀ (is : List Bool) (S : Sto) (c m : Nat) (x5 : Option Val), StX K S p q s c m → m + is.length ≤ 300 → c + 300 * is.length ≤ 100000 →
    ∃ y5 S', forGo (mName 5) openBody (is.map fun i => .int (bI i)) [x0, some (.loc p), x2, some (.loc q), some (.loc s), x5, x6, x7] S = some (.nx [x0, some (.loc p), x2, some (.loc q), some (.loc s), y5, x6, x7] S') ∧ StX K S' p q s (c + 300 * is.length) (m + is.length)
  | [], S, c, m, x5, h, _, _ => ⟨x5, S, rfl, h⟩
  | i :: is, S, c, m, x5, h, h1, h2 => by
    simp only [List.length_cons] at h1 h2
    obtain ⟨S1, S2, a1, a2, a3⟩ := itself_step h i (by omega) (by omega)
    obtain ⟨y5, S', b1, b2⟩ := open_go x0 x2 x6 x7 is S2 (c + 300) (m + 1) (some (.int (bI i))) a3 (by omega) (by omega)
    have e1 : c + 300 * (i :: is).length = c + 300 + 300 * is.length := by simp; omega
    have e2 : m + (i :: is).length = m + 1 + is.length := by simp; omega
    refine ⟨y5, S', ?_, by rw [e1, e2]; exact b2⟩
    have g1 : mName 5 (.int (bI i)) [x0, some (.loc p), x2, some (.loc q), some (.loc s), x5, x6, x7] S = some ([x0, some (.loc p), x2, some (.loc q), some (.loc s), some (.int (bI i)), x6, x7], S) := rfl
    have t1 : openBody [x0, some (.loc p), x2, some (.loc q), some (.loc s), some (.int (bI i)), x6, x7] S = some (.nx [x0, some (.loc p), x2, some (.loc q), some (.loc s), some (.int (bI i)), x6, x7] S2) :=
      (then_nx (drop_of (callF_of (cons_of (var_of rfl) (cons_of (var_of rfl) (cons_of (var_of rfl) (cons_of c_of nil_of)))) rfl a1))).trans (both_end a2 _ _ _ _ _ _)
    rw [List.map_cons, forGo, g1, Option.bind_some]
    show (openBody _ S).bind _ = _
    rw [t1]
    exact b1
theorem led_go {K : Bool → List Kd} {p q s : Nat} (x0 x2 x5 x7 : Option Val) : ∀ (vs : List Val) (S : Sto) (c m : Nat) (x6 : Option Val), StX K S p q s c m → m + vs.length ≤ 300 → c + 305 * vs.length ≤ 100000 →
    ∃ y6 S', forGo (mName 6) ledBody vs [x0, some (.loc p), x2, some (.loc q), some (.loc s), x5, x6, x7] S = some (.nx [x0, some (.loc p), x2, some (.loc q), some (.loc s), x5, y6, x7] S') ∧ StX K S' p q s (c + 305 * vs.length) (m + vs.length)
  | [], S, c, m, x6, h, _, _ => ⟨x6, S, rfl, h⟩
  | v :: vs, S, c, m, x6, h, h1, h2 => by
    simp only [List.length_cons] at h1 h2
    obtain ⟨S1, S2, a1, a2, a3⟩ := led_step h (by omega) (by omega)
    obtain ⟨y6, S', b1, b2⟩ := led_go x0 x2 x5 x7 vs S2 (c + 305) (m + 1) (some v) a3 (by omega) (by omega)
    have e1 : c + 305 * (v :: vs).length = c + 305 + 305 * vs.length := by simp; omega
    have e2 : m + (v :: vs).length = m + 1 + vs.length := by simp; omega
    refine ⟨y6, S', ?_, by rw [e1, e2]; exact b2⟩
    have g1 : mName 6 v [x0, some (.loc p), x2, some (.loc q), some (.loc s), x5, x6, x7] S = some ([x0, some (.loc p), x2, some (.loc q), some (.loc s), x5, some v, x7], S) := rfl
    have t1 : ledBody [x0, some (.loc p), x2, some (.loc q), some (.loc s), x5, some v, x7] S = some (.nx [x0, some (.loc p), x2, some (.loc q), some (.loc s), x5, some v, x7] S2) :=
      (then_nx (drop_of (callF_of (cons_of (var_of rfl) (cons_of (var_of rfl) nil_of)) rfl a1))).trans (both_end a2 _ _ _ _ _ _)
    rw [forGo, g1, Option.bind_some]
    show (ledBody _ S).bind _ = _
    rw [t1]
    exact b1
abbrev manyM : M := (mBin fSub (mLst (mCons (mC (.int 20)) (mCons (mC (.int 60)) (mCons (mCallF 2 m_law_draw [] (mCons (mVar 1) (mCons (mC (.int 41)) (mNil)))) (mNil))))) (mCallF 2 m_law_draw [] (mCons (mVar 1) (mCons (mC (.int 3)) (mNil)))))
abbrev ticksM : M := (mLc (mSeq (mBin fSub (mVar 3) (mC (.str "names")))) (mName 7) (mNotT (mT (mCallF 1 m_law_ticks_right [] (mCons (mBin fSub (mVar 3) (mVar 7)) (mNil))))) (mVar 7) [7])
abbrev turnS : MS := (mThen (mAsg (mCallF 1 m_law_two [] (mCons (mVar 1) (mNil))) (mName 3))
  (mThen (mAsg (mNewT) (mName 4))
  (mThen (mFor (mSeq (mTup (mCons (mC (.int 0)) (mCons (mC (.int 1)) (mNil))))) (mName 5) openBody)
  (mThen (mFor (mRange (mCons manyM mNil)) (mName 6) ledBody)
  (mIfS (mT (mBin fNe ticksM (mLst (mNil)))) (mRet (mC (.bl false))) (mNext))))))
theorem s_law_eq : s_law = mThen (mAsg (mCallF 1 m_law_pen [] (mCons (mVar 0) mNil)) (mName 1)) (mThen (mFor (mRange (mCons (mC (.int 2)) mNil)) (mName 2) turnS) (mRet (mC (.bl true)))) := rfl
theorem St.put_pen {K : Bool → List Kd} {S : Sto} {p q s c m : Nat} {o : Wo} {air : List (Bool × Lt)} {tb : List (List Key × Val)} {kl al : Bool → Nat} {as : Bool → List (List Pk)} {io : Bool → Bool} (st : St K S p q s c m o air tb kl al as io) {S1 : Sto} {c1 : Nat} (f : Fx S S1 [p]) (hp : Pn S1 p c1) : St K S1 p q s c1 m o air tb kl al as io := by
  obtain ⟨n1, n2⟩ := pen_ne st.pen st.pair
  obtain ⟨f1, f2⟩ := st.tk1 (f.mono (by simp))
  exact ⟨st.pair.fx f (by simpa using n1) (by simpa using n2), hp, st.w, ⟨f1, f2, st.so.dis⟩, st.trk, st.keys, st.fr, st.alt, st.la, st.lt, st.ls, st.lm⟩
theorem ticks_all {S : Sto} {q : Nat} {o : Wo} {air : List (Bool × Lt)} {K : Bool → List Kd} (h : PairAt S q o air) (g : WOk K o air) (x0 x1 x2 x4 x5 x6 x7 : Option Val) :
    ∃ J, ticksM [x0, x1, x2, some (.loc q), x4, x5, x6, x7] S = some (.lst [], S ++ J) := by
  obtain ⟨J1, h1⟩ := ticks_eq (g.en false) S
  obtain ⟨J2, h2⟩ := ticks_eq (g.en true) (S ++ J1)
  have h' := h.app J1
  refine ⟨J1 ++ J2, ?_⟩
  have t1 : (mNotT (mT (mCallF 1 m_law_ticks_right [] (mCons (mBin fSub (mVar 3) (mVar 7)) (mNil))))) [x0, x1, x2, some (.loc q), x4, x5, x6, some (sK (o.nm false))] S = some (false, S ++ J1) := not_of (t_of (callF_of (cons_of (bin_of (var_of rfl) (var_of rfl) (ps_end h.pair g.ne false)) nil_of) rfl h1))
  have t2 : (mNotT (mT (mCallF 1 m_law_ticks_right [] (mCons (mBin fSub (mVar 3) (mVar 7)) (mNil))))) [x0, x1, x2, some (.loc q), x4, x5, x6, some (sK (o.nm true))] (S ++ J1) = some (false, S ++ J1 ++ J2) := not_of (t_of (callF_of (cons_of (bin_of (var_of rfl) (var_of rfl) (ps_end h'.pair g.ne true)) nil_of) rfl h2))
  refine lc_of (vs := [sK (o.nm false), sK (o.nm true)]) (S1 := S) ?_ (by show 2 ≤ 100000; omega) ?_
  · rw [s_mSeqT, bin_of (var_of rfl) c_of (ps_names h.pair)]
    rfl
  · have g1 : ∀ (x : Val) (S' : Sto), mName 7 x (wipeE [x0, x1, x2, some (.loc q), x4, x5, x6, x7] [7]) S' = some ([x0, x1, x2, some (.loc q), x4, x5, x6, some x], S') := fun _ _ => rfl
    generalize mNotT (mT (mCallF 1 m_law_ticks_right [] (mCons (mBin fSub (mVar 3) (mVar 7)) (mNil)))) = T at *
    simp only [lcGo, g1, Option.bind_some, t1, t2]
    simp
theorem turn_eq {S : Sto} {p c : Nat} (h : Pn S p c) (hc : c + 30000 ≤ 100000) (x0 x2 x3 x4 x5 x6 x7 : Option Val) :
    ∃ y3 y4 y5 y6 y7 S', turnS [x0, some (.loc p), x2, x3, x4, x5, x6, x7] S = some (.nx [x0, some (.loc p), x2, y3, y4, y5, y6, y7] S') ∧ Pn S' p (c + 30000) := by
  obtain ⟨o, q, K, S1, a1, a2, a3, a4, a5, a6, a7, a8, a9, a10, a11, a12, a13, a14⟩ := two_eq h (by omega)
  have en : ∀ i, EndOk (K i) (o.en i) := fun i => by
    have b := a5 i
    rw [a6 i]
    exact ⟨(b.gw.1.nodup_iff).mpr b.nd, fun w hw => ⟨b.gw.1.mem_iff.mp (List.mem_map.mpr ⟨w, hw, rfl⟩), b.gw.2 w hw⟩, b.few, Int.le_refl _, by show (0 : Int) ≤ 9; omega, fun z => absurd rfl z⟩
  have cl : ∀ i, (o.en i).stand = .closed := fun i => by rw [a6 i]; rfl
  have pa : PairAt (S1 ++ [Ob.dcT []]) q o [] := PairAt.app ⟨a2, by simpa using a3⟩ _
  have st0 : StX K (S1 ++ [Ob.dcT []]) p q S1.length (c + 2000) 0 := ⟨o, [], [], fun _ => 0, fun _ => 0, fun _ => [], fun _ => false, pa, a14.app _, ⟨a4, en, fun i => (by rw [a6 i]; rfl), fun i l z => (by rw [a6 i] at z; cases z), fun x hx => (by cases hx), fun i => (a5 i).bd, by omega, a10⟩,
    ⟨by simp, fun i z => absurd (cl i) z, fun z => absurd (cl false) z⟩, fun i z => absurd (cl i) z, fun i t y z => absurd rfl z, a7, a8, by simp, by simp, fun i => by simp, by omega⟩
  have t1 : mAsg (mCallF 1 m_law_two [] (mCons (mVar 1) (mNil))) (mName 3) [x0, some (.loc p), x2, x3, x4, x5, x6, x7] S = some (.nx [x0, some (.loc p), x2, some (.loc q), x4, x5, x6, x7] S1) := asg_of (callF_of (cons_of (var_of rfl) nil_of) rfl a1) rfl
  have t2 : mAsg (mNewT) (mName 4) [x0, some (.loc p), x2, some (.loc q), x4, x5, x6, x7] S1 = some (.nx [x0, some (.loc p), x2, some (.loc q), some (.loc S1.length), x5, x6, x7] (S1 ++ [.dcT []])) := asg_of (v := .loc S1.length) rfl rfl
  obtain ⟨y5, S2, b1, b2⟩ := open_go x0 x2 x6 x7 [false, true] _ _ _ x5 st0 (by simp) (by simp; omega)
  have t3 : mFor (mSeq (mTup (mCons (mC (.int 0)) (mCons (mC (.int 1)) (mNil))))) (mName 5) openBody [x0, some (.loc p), x2, some (.loc q), some (.loc S1.length), x5, x6, x7] (S1 ++ [.dcT []]) = some (.nx [x0, some (.loc p), x2, some (.loc q), some (.loc S1.length), y5, x6, x7] S2) :=
    for_of (vs := [.int (bI false), .int (bI true)]) rfl b1
  obtain ⟨o2, air2, tb2, kl2, al2, as2, io2, st2⟩ := b2
  obtain ⟨r1, o1', d1, d2, d3⟩ := draw st2.pen (by simp; omega) 41 (by omega) (by omega)
  obtain ⟨r2, o2', e1, e2, e3⟩ := draw d3 (by simp; omega) 3 (by omega) (by omega)
  obtain ⟨r, hr, hr2⟩ : ∃ r : Nat, atI [Val.int 20, .int 60, .int (r1 : Int)] (r2 : Int) = some (.int (r : Int)) ∧ r ≤ 60 := by
    have : r2 = 0 ∨ r2 = 1 ∨ r2 = 2 := by omega
    rcases this with rfl | rfl | rfl
    · exact ⟨20, rfl, by omega⟩
    · exact ⟨60, rfl, by omega⟩
    · exact ⟨r1, rfl, by omega⟩
  have fx3 : Fx S2 ((S2.set p o1').set p o2') [p] := (fx_set S2 p o1' _ (by simp)).trans (fx_set _ p o2' _ (by simp))
  have st3 := st2.put_pen fx3 e3
  generalize hS3 : (S2.set p o1').set p o2' = S3 at *
  have mm : mCons manyM mNil [x0, some (.loc p), x2, some (.loc q), some (.loc S1.length), y5, x6, x7] S2 = some ([.int (r : Int)], S3) := by
    have l : mLst (mCons (mC (.int 20)) (mCons (mC (.int 60)) (mCons (mCallF 2 m_law_draw [] (mCons (mVar 1) (mCons (mC (.int 41)) (mNil)))) (mNil)))) [x0, some (.loc p), x2, some (.loc q), some (.loc S1.length), y5, x6, x7] S2 = some (.lst [.int 20, .int 60, .int (r1 : Int)], S2.set p o1') :=
      lst_of (cons_of c_of (cons_of c_of (cons_of (callF_of (cons_of (var_of rfl) (cons_of c_of nil_of)) rfl d1) nil_of))) (by show 3 ≤ 1000; omega)
    refine cons_of (bin_of l (callF_of (cons_of (var_of rfl) (cons_of c_of nil_of)) rfl e1) ?_) nil_of
    rw [← hS3]
    simp [fSub, fIxSeq, seqOf, hr]
  have rg := range_at mm (by omega)
  obtain ⟨y6, S4, g1, g2⟩ := led_go x0 x2 y5 x7 (intsV r) S3 _ _ x6 ⟨_, _, _, _, _, _, _, st3⟩ (by rw [len_ints]; simp; omega) (by rw [len_ints]; simp; omega)
  have t4 : mFor (mRange (mCons manyM mNil)) (mName 6) ledBody [x0, some (.loc p), x2, some (.loc q), some (.loc S1.length), y5, x6, x7] S2 = some (.nx [x0, some (.loc p), x2, some (.loc q), some (.loc S1.length), y5, y6, x7] S4) := for_of rg g1
  obtain ⟨o4, air4, tb4, kl4, al4, as4, io4, st4⟩ := g2
  obtain ⟨J, hJ⟩ := ticks_all st4.pair st4.w x0 (some (.loc p)) x2 (some (.loc S1.length)) y5 y6 x7
  have t5 : mT (mBin fNe ticksM (mLst (mNil))) [x0, some (.loc p), x2, some (.loc q), some (.loc S1.length), y5, y6, x7] S4 = some (false, S4 ++ J) := t_of (bin_of hJ (y := .lst []) (S2 := S4 ++ J) rfl (fNe_nils _))
  have pen4 := (st4.pen.app J)
  rw [len_ints] at pen4
  exact ⟨_, _, _, _, _, S4 ++ J, (then_nx t1).trans ((then_nx t2).trans ((then_nx t3).trans ((then_nx t4).trans (ifs_f t5)))), pen4.more (by simp; omega)⟩
theorem cut_all (xs : List Val) (h : xs.length ≤ 63) : cutG xs none (some 63) = xs := by
  unfold cutG
  rw [HT.sIx_none, show (some (63 : Int)) = some ((63 : Nat) : Int) from rfl, HT.sIx_nat, List.drop_zero, Nat.sub_zero]
  exact List.take_of_length_le (by omega)
theorem plain (ns : List Int) (h : ns.length ≤ 63) : ∃ S', m_law [.scr ns] [] = some (.bl true, S') := by
  have p0 : m_law_pen [.scr ns] [] = some (.loc 0, [.dct (penD ns 0 0)]) := by
    have hc := cut_all (ns.map .int) (by simpa using h)
    unfold m_law_pen s_law_pen
    simp [fSlice, hc, fList, seqOf, penD]
  have pn : Pn [.dct (penD ns 0 0)] 0 0 := ⟨ns, 0, 0, rfl, h, Int.le_refl _, Int.le_refl _, Int.le_refl _⟩
  have t1 : mAsg (mCallF 1 m_law_pen [] (mCons (mVar 0) mNil)) (mName 1) [some (.scr ns), none, none, none, none, none, none, none] [] = some (.nx [some (.scr ns), some (.loc 0), none, none, none, none, none, none] [.dct (penD ns 0 0)]) := asg_of (callF_of (cons_of (var_of rfl) nil_of) rfl p0) rfl
  obtain ⟨a3, a4, a5, a6, a7, S1, h1, pn1⟩ := turn_eq pn (by omega) (some (.scr ns)) (some (.int ((0 : Nat) : Int))) none none none none none
  obtain ⟨b3, b4, b5, b6, b7, S2, h2, pn2⟩ := turn_eq pn1 (by omega) (some (.scr ns)) (some (.int ((1 : Nat) : Int))) a3 a4 a5 a6 a7
  have rg : mRange (mCons (mC (.int 2)) mNil) [some (.scr ns), some (.loc 0), none, none, none, none, none, none] [.dct (penD ns 0 0)] = some (intsV 2, [.dct (penD ns 0 0)]) := range_at (k := 2) (cons_of c_of nil_of) (by omega)
  have t2 : mFor (mRange (mCons (mC (.int 2)) mNil)) (mName 2) turnS [some (.scr ns), some (.loc 0), none, none, none, none, none, none] [.dct (penD ns 0 0)] = some (.nx [some (.scr ns), some (.loc 0), some (.int ((1 : Nat) : Int)), b3, b4, b5, b6, b7] S2) := by
    refine for_of rg ?_
    have e : intsV 2 = [.int ((0 : Nat) : Int), .int ((1 : Nat) : Int)] := rfl
    have g0 : mName 2 (.int ((0 : Nat) : Int)) [some (.scr ns), some (.loc 0), none, none, none, none, none, none] [.dct (penD ns 0 0)] = some ([some (.scr ns), some (.loc 0), some (.int ((0 : Nat) : Int)), none, none, none, none, none], [.dct (penD ns 0 0)]) := rfl
    have g1 : mName 2 (.int ((1 : Nat) : Int)) [some (.scr ns), some (.loc 0), some (.int ((0 : Nat) : Int)), a3, a4, a5, a6, a7] S1 = some ([some (.scr ns), some (.loc 0), some (.int ((1 : Nat) : Int)), a3, a4, a5, a6, a7], S1) := rfl
    generalize turnS = T at *
    rw [e]
    simp only [forGo, g0, Option.bind_some, h1, g1, h2]
  refine ⟨S2, body_of (N := 8) (as := [.scr ns]) ?_⟩
  rw [s_law_eq]
  exact (then_nx t1).trans ((then_nx t2).trans (ret_of c_of))
end Cw
end
theorem PySem.Challenge.cw_crossedwishes_k39_whole_nothing_refused_holds : PySem.Challenge.rw_crossedwishes_k39_whole_nothing_refused.Holds :=
  CwHead.holds_of Cw.plain
