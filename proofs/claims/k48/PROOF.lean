import PyProof.Rows.All
import Wide.All
import OpenK.AllK
import Wide.FinOn
import HandS.ForMost
import HandS.Walk
import HandS.Evl
import HandS.IsInst
import HandS.Wide
import HandS.Set
import HandS.RaiseMore
import HandS.Replace
import HandS.ReplaceLit
import PyProof.StrLawsReplace
import PyProof.ToksMono
import PyProof.CollectIter
import PyProof.WalksMore
import PyProof.Rows.TupIter
import HandS.WideBits
import HandS.Zip
import KE.KDictPairs
import HandS.Dict
import HandS.Conv
import HandS.CallLocal
import PyProof.NeKinds
import KE.KTupSum
import PyProof.ReprRoads
import PyProof.ReprLen
import PyProof.FitsInt
import PyProof.EqAt
import PyProof.EqKinds
import KE.DataMinKey
import KE.DataMinMax
import HandS.Lambda
import HandS.Nested
import HandS.SetFor
import PySem.Challenge.RW_rimprints_k48_fewest_spoilt
set_option Elab.async false
set_option maxRecDepth 100000
set_option maxHeartbeats 4000000
set_option linter.all false
namespace RA
open PySem PySem.Spec PyProof.Rows L2

/-! ## enumerate(text) -/
section
def ItES (x : Str) : It :=
  ⟨fun i _ => i < x.cps.size,
   fun i H v H' => ∃ T c, v = .ref T ∧ H T = none ∧ H' = upd H T (.tup [.int (i : Nat), .str ⟨#[c]⟩]) ∧ x.cps[i]? = some c,
   fun i _ => x.cps.size ≤ i⟩
theorem strType_or (x : Str) : strIterType x = "str_ascii_iterator" ∨ strIterType x = "str_iterator" := by
  unfold strIterType
  cases x.cps.all (· < 128) <;> simp
theorem drawsStr {prog : Program} {w : World} {A : Around} (hh : A.handled = none) (it : Addr) (x : Str) (t : Tok) :
    Draws prog w A it [it] x.cps.size (fun i v => ∃ c u, x.cps[i]? = some c ∧ v = .str ⟨#[c]⟩ u) (fun i h => h.IsStrIter it (strIterType x) x t i) := by
  rcases strType_or x with e | e <;> rw [e]
  · exact Draws.strAscii hh it x t
  · exact Draws.strWide hh it x t
theorem turn_enumS {P : Program} {w : World} {K : PySem.W.Frag} {elts : List Expr} {kk : Nat} {tpos : Pos} (x : Str) (t : Tok) (e it : Addr) :
    Turn P w K (.Tuple elts kk tpos) (ItES x) [e, it] e
      (fun i h => (∃ old, IsEnum h e it ((i : Nat) : Int) old) ∧ h.IsStrIter it (strIterType x) x t i ∧ e ≠ it) where
  mem := by simp
  obj := fun i h st b hb => by
    obtain ⟨⟨old, he⟩, ⟨o, ho, hc, hd⟩, _⟩ := st
    have e' : b = e ∨ b = it := by simpa using hb
    rcases e' with z | z
    · subst z
      exact ⟨_, he, fun v q => nomatch q⟩
    · subst z
      exact ⟨o, ho, fun v q => by rw [hd] at q; cases q⟩
  keep := fun i h h' st k => by
    obtain ⟨⟨old, he⟩, ⟨o, ho, r⟩, hne⟩ := st
    exact ⟨⟨old, k e (by simp) _ he⟩, ⟨o, k it (by simp) o ho, r⟩, hne⟩
  item := by
    intro X hP hw hK hc i pins s σ H E I hf st hg
    subst hP hw hK
    obtain ⟨⟨old, he⟩, hit, hne⟩ := st
    have hel := Heap.lt_size he
    have hil : it < s.heap.objs.size := by
      obtain ⟨_, q, _⟩ := hit
      exact Heap.lt_size q
    refine wpAny_pyNext_enum_itemD (drawsStr (A := X.A.in1) (I.ok.hd hc) it x t) he hit hg hne (by simp [hne]) fun v h' tk hv ho hit' hT hsz hk => ?_
    obtain ⟨c, u, hcx, rfl⟩ := hv
    refine ⟨_, rfl, wpAny_letOwnedTupleGo_enum (s := { s with heap := h', toks := tk + 1 }) ho fun h2 he2 sb => ?_⟩
    have hT2 : h2.get? s.heap.objs.size = some { cls := .type "tuple", data := .seq #[.int i tk, .str ⟨#[c]⟩ u] } :=
      (sb.2 _ (Nat.ne_of_gt hel)).trans hT
    have new : ObjOk X.prog X.w (upd H s.heap.objs.size (.tup [.int (i : Nat), .str ⟨#[c]⟩])) h2 s.heap.objs.size (.tup [.int (i : Nat), .str ⟨#[c]⟩]) :=
      ⟨by show 2 ≤ sizeLine; decide, [.int i tk, .str ⟨#[c]⟩ u], .cons ⟨_, rfl⟩ (.cons ⟨_, rfl⟩ .nil), ⟨_, hT2, rfl, _, rfl⟩⟩
    have I1 := I.turnedNew (t' := tk + 1) (ch := [e, it]) (h' := h2)
      (fun b ob hb q => (sb.2 b (fun z => hb (by simp [z]))).trans (hk b ob (fun z => hb (by simp [z])) (fun z => hb (by simp [z])) q)) hf (Nat.le_refl _) new
    refine ⟨.ref s.heap.objs.size, _, I1, rfl, ⟨_, c, rfl, I.hok.fresh (Nat.le_refl _), rfl, hcx⟩, ⟨⟨Value.str ⟨#[c]⟩ u, ?_⟩, ?_, hne⟩, fun b hb => ?_⟩
    · have e1 : ((i + 1 : Nat) : Int) = (i : Int) + 1 := by omega
      rw [e1]
      exact he2
    · obtain ⟨oi, q1, q2⟩ := hit'
      exact ⟨oi, (sb.2 it (Ne.symm hne)).trans q1, q2⟩
    · have hb' : b < s.heap.objs.size := by
        have e' : b = e ∨ b = it := by simpa using hb
        rcases e' with z | z <;> subst z <;> assumption
      rw [upd_ne (Nat.ne_of_lt hb')]
      exact (hf b hb).1
  done := by
    intro X hP hw hK hc i pins s σ H E I hf st hg
    subst hP hw hK
    obtain ⟨⟨old, he⟩, hit, hne⟩ := st
    obtain ⟨f0, f1, f2, f3, f4, f5⟩ := hf it (by simp)
    have hgi : x.cps.size ≤ i := hg
    have hx : x.cps[i]? = none := Array.getElem?_eq_none hgi
    have D2 : Draws X.prog X.w X.A.in1 it [it] i (fun _ _ => False) (fun j h => j = i ∧ h.IsStrIter it (strIterType x) x t i) := by
      refine ⟨fun _ _ st => ?_, fun _ _ _ st hk => ?_, fun j s Q E hj st _ => ?_, fun s Q E st hE => ?_⟩
      · obtain ⟨_, o, ho, _⟩ := st
        exact ⟨o, ho⟩
      · obtain ⟨z, o, ho, r⟩ := st
        exact ⟨z, o, hk it (by simp) o ho, r⟩
      · exact absurd hj (by rw [st.1]; exact Nat.lt_irrefl _)
      · obtain ⟨_, st⟩ := st
        rcases strType_or x with e1 | e1
        · rw [e1] at st
          exact wpAny_nextOf_ascii_end (A := X.A.in1) (I.ok.hd hc) st hx hE
        · rw [e1] at st
          exact wpAny_nextOf_wide_end (A := X.A.in1) (I.ok.hd hc) st hx hE
    exact wpAny_pyNext_enum_endD D2 he ⟨rfl, hit⟩ fun h' eb => ⟨rfl, I.turned (t' := s.toks) (fun b o hb q => eb b o hb q) f0 f1 f3 f4 f5⟩
  self := fun A i s Q E st h => by
    obtain ⟨⟨_, he⟩, _⟩ := st
    exact wpAny_pyIter_enum he h
def iEnumS (ta : TA) : TI := fun σ H R => ta σ H fun vs H1 => ∃ x, vs = [.str x] ∧ R (ItES x) H1
theorem pi_enumS {X : Cx} {e : Expr} {ta : TA} {p pos tpos : Pos} {elts : List Expr} {kk : Nat} (hg : Gl X "enumerate") (hm : X.mg "enumerate" = none)
    (ha : PA X [e] ta) (hs : starEach [e] X.env = [(false, eval e X.env)] := by rfl) :
    PI X (.Tuple elts kk tpos) (.Call (.Name "enumerate" p) [e] [] pos) (iEnumS ta) := by
  refine ⟨fun pins s σ H R I h => ?_⟩
  refine Call_ (ld_blt I hg hm boot_enumerate (PyProof.Rows.callWith_type1 (thn (ha.run pos pins s σ H _ I h) fun us s1 hh => ?_) hs rfl))
  obtain ⟨vs, H1, I1, r1, x, ex, q⟩ := hh
  subst ex
  cases r1 with
  | cons r rr =>
    cases rr
    obtain ⟨t, rfl⟩ := r
    refine call_enumerate_str fun h' he hit hsz hk => wpAny_pyIter_enum he ?_
    have I2 : Inv X pins σ H1 { s1 with heap := h' } := I1.kept (t' := s1.toks) hk
    refine ⟨s1.heap.objs.size + 1, [s1.heap.objs.size + 1, s1.heap.objs.size], _, _, H1, rfl, I2,
      turn_enumS x t (s1.heap.objs.size + 1) s1.heap.objs.size, ⟨⟨.none, he⟩, hit, Nat.succ_ne_self _⟩, fun b hb => ?_, q⟩
    have e' : b = s1.heap.objs.size + 1 ∨ b = s1.heap.objs.size := by simpa using hb
    have hle : s1.heap.objs.size ≤ b := by
      rcases e' with z | z <;> subst z
      · exact Nat.le_add_right _ _
      · exact Nat.le_refl _
    exact I1.fpOk hle (I1.hok.fresh hle)
end

/-! ## text[lo:hi:step] -/
section
variable {X : Cx}
/-- the signs that a slice with a step picks -/
def stepS (z : Str) (lo hi : Option Int) (st : Int) : Str :=
  if (st == 1 && (Builtin.Str.strSliceIndices lo hi st z.length).length == z.length) = true then z
  else ⟨((Builtin.Str.strSliceIndices lo hi st z.length).filterMap (z.cps[·]?)).toArray⟩
def tSlS (te : TE) (tl th : TO) (ts : TE) : TE := fun σ H Q => te σ H fun x H1 => tl σ H1 fun lo H2 => th σ H2 fun hi H3 => ts σ H3 fun y H4 =>
  ∃ z st, x = .str z ∧ y = .int st ∧ st ≠ 0 ∧ (stepS z lo hi st).length ≤ sizeLine ∧ Q (.str (stepS z lo hi st)) H4
theorem pe_sliceS {e st : Expr} {lo hi : Option Expr} {te ts : TE} {tl th : TO} {p2 pos : Pos} (he : PE X e te) (hl : PO X lo tl) (hu : PO X hi th) (hs : PE X st ts) :
    PE X (.Subscript e (.Slice lo hi (some st) p2) pos) (tSlS te tl th ts) := by
  refine ⟨fun pins s σ H Q I h => ?_⟩
  refine Subscript_ (thn (he.run pins s σ H _ I h) fun v s1 hh => ?_)
  obtain ⟨x, H1, I1, r1, q1⟩ := hh
  refine wpAny_Slice (thn (hl.run pins s1 σ H1 _ I1 q1) fun vl s2 hh2 => ?_)
  obtain ⟨l, H2, I2, pl, q2⟩ := hh2
  refine thn (hu.run pins s2 σ H2 _ I2 q2) fun vu s3 hh3 => ?_
  obtain ⟨u, H3, I3, pu, q3⟩ := hh3
  show wpAny _ _ (eval st X.env) _ _ s3
  refine thn (hs.run pins s3 σ H3 _ I3 q3) fun vs s4 hh4 => ?_
  obtain ⟨y, H4, I4, r4, z, k, rfl, rfl, hk, hz, q⟩ := hh4
  obtain ⟨tx, rfl⟩ := r1
  obtain ⟨tk, rfl⟩ := r4
  obtain ⟨l', rfl, rfl⟩ := IsPart.raw pl
  obtain ⟨u', rfl, rfl⟩ := IsPart.raw pu
  have I5 : Inv X pins σ H4 { s4 with heap := s4.heap.push { cls := .type "slice", data := .fields #[partValue l', partValue u', .int k tk] } } :=
    I4.kept (t' := s4.toks) fun b ob q => Heap.get?_push_of_some _ q
  refine tail_any (T := "str") (ops := [.ref s4.heap.objs.size, .str z tx]) (typeIs_str _ _ _) F.slot_str_getitem.lookup ?_ (by with_unfolding_all rfl)
  refine wpAny_getItem_str_slice (l := l') (u := u') (st := some (k, tk)) ⟨_, Heap.get?_push_size _ rfl, rfl, rfl⟩ ?_ ?_
  · show (k == 0) = false
    simpa using hk
  · unfold stepS at q hz
    unfold sliceMade slicePicked
    show Made.post (if (k == 1 && (Builtin.Str.strSliceIndices (l'.map (·.1)) (u'.map (·.1)) k z.length).length == z.length) = true then _ else _) _ _
    by_cases c : (k == 1 && (Builtin.Str.strSliceIndices (l'.map (·.1)) (u'.map (·.1)) k z.length).length == z.length) = true
    · rw [if_pos c] at q
      rw [if_pos c]
      exact ⟨.str z, H4, I5, ⟨tx, rfl⟩, q⟩
    · rw [if_neg c] at q hz
      rw [if_neg c]
      exact ⟨hz, .str _, H4, I5.tok _, ⟨_, rfl⟩, q⟩
end
end RA

/-! Sets of texts: set(xs) of a list of texts, and sorted of it. -/
namespace RB
open PySem PySem.Spec PyProof.Rows L2

def txOf (e : Int × Value) : Str := match e.2 with | .str z _ => z | _ => Str.empty
def GoodT (w : World) (e : Int × Value) : Prop := ∃ z tk, e.2 = Value.str z tk ∧ e.1 = hashStr w z
/-- the texts met, each once, in the order of their first place -/
def addT (l : List Str) (z : Str) : List Str := if z ∈ l then l else l ++ [z]
def metT (xs : List Str) : List Str := xs.foldl addT []
/-- a set object at a whose members are the texts l -/
def SetT (w : World) (h : Heap) (a : Addr) (l : List Str) : Prop :=
  ∃ o es ep t, h.get? a = some o ∧ o.ExactSet ∧ o.data = .set es ep t ∧ (∀ e ∈ es.toList, GoodT w e) ∧ (es.toList.map txOf).Perm l ∧ l.Nodup ∧
    es.size < scanBound ∧ t.fits es.size = true ∧ Ris t.place.toList ∧ (w.params.followText "set-order" = true ∨ t.led = true)

section
variable {P : Program} {w : World} {A : Around} {E : Value → Shared → Prop} {s : Shared} {a : Addr} {l : List Str}

theorem goodT_is {e : Int × Value} (g : GoodT w e) (k : Str) : (PySem.strKind P w).is k e.2 = true ↔ txOf e = k := by
  obtain ⟨z, tk, h1, _⟩ := g
  unfold txOf
  rw [h1]
  show (Value.isStrOf k (.str z tk) = true) ↔ z = k
  constructor
  · intro h
    obtain ⟨u, e⟩ := Value.isStrOf_shape h
    injection e
  · intro e
    subst e
    exact keyIs_str z tk
theorem goodT_elems {l : List (Int × Value)} (g : ∀ e ∈ l, GoodT w e) : ElemsOf (PySem.strKind P w) l := fun e he => by
  obtain ⟨z, tk, h1, h2⟩ := g e he
  refine ⟨⟨z, ?_, h2⟩, ?_⟩
  · rw [h1]
    exact keyIs_str z tk
  · rw [h1]
    rfl
theorem txOf_mem {l : List (Int × Value)} (g : ∀ e ∈ l, GoodT w e) (k : Str) : k ∈ l.map txOf ↔ ∃ e ∈ l, (PySem.strKind P w).is k e.2 = true := by
  rw [List.mem_map]
  exact ⟨fun ⟨e, he, q⟩ => ⟨e, he, (goodT_is (g e he) k).2 q⟩, fun ⟨e, he, q⟩ => ⟨e, he, (goodT_is (P := P) (g e he) k).1 q⟩⟩
theorem SetT.kept {h h' : Heap} (R : SetT w h a l) (k : ∀ o, h.get? a = some o → h'.get? a = some o) : SetT w h' a l := by
  obtain ⟨o, es, ep, t, ho, r⟩ := R
  exact ⟨o, es, ep, t, k o ho, r⟩
theorem SetT.size {h : Heap} (R : SetT w h a l) : l.length < scanBound := by
  obtain ⟨o, es, ep, t, _, _, _, _, p, _, hb, _⟩ := R
  have q := p.length_eq
  rw [List.length_map, Array.length_toList] at q
  rw [← q]
  exact hb

/-- the table behind a new member -/
theorem setT_tail {g : Bool → Sem Unit} (hg : ∀ (b : Bool) (s₁ : Shared) (Q' : Unit → Shared → Prop), Q' () s₁ → wpAny (model P w) A (g b) Q' E s₁)
    {o : Obj} {es : Array (Int × Value)} {ep : Nat} {t : SetTable} (ho : s.heap.get? a = some o) (hex : o.ExactSet) (hd : o.data = .set es ep t)
    {es1 : Array (Int × Value)} {t2 : SetTable} {l' : List Str} (g1 : ∀ e ∈ es1.toList, GoodT w e) (p1 : (es1.toList.map txOf).Perm l') (nd : l'.Nodup)
    (hb : es1.size < scanBound) (hf : t2.fits es1.size = true) (hr : Ris t2.place.toList) (hl : w.params.followText "set-order" = true ∨ t2.led = true)
    {wasDummy : Bool} {R : Option Bool → Shared → Prop} (hR : ∀ h', Heap.SameBut a s.heap h' → SetT w h' a l' → R (some true) { s with heap := h' }) :
    wpAny (model P w) A (do
        storeSet a es1 t2
        if (!wasDummy && t2.tooFull) = true then do
            g (relayAll t2 es1 (SetTable.grown es1.size)).2.2
            storeSet a (relayAll t2 es1 (SetTable.grown es1.size)).1 (relayAll t2 es1 (SetTable.grown es1.size)).2.1
            pure (some true)
          else pure (some true)) R E s := by
  refine wpAny_bind (wpAny_storeSet_of ho hd ?_ (fits_of_scanBound hb))
  have ho1 := store_at (es' := es1) (t' := t2) ho hd
  have sb1 := Heap.SameBut.update s.heap a (Obj.putSet es1 t2)
  by_cases c : (!wasDummy && t2.tooFull) = true
  · rw [if_pos c]
    have pm := relayAll_perm t2 es1 (SetTable.grown es1.size)
    have hf3 := relayAll_fits t2 es1 (SetTable.grown es1.size)
    have hr3 := relayAll_ris t2 es1 (SetTable.grown es1.size)
    have hl3 := relayAll_led t2 es1 (SetTable.grown es1.size)
    revert pm hf3 hr3 hl3
    generalize relayAll t2 es1 (SetTable.grown es1.size) = Z
    intro pm hf3 hr3 hl3
    have hsz : Z.1.size = es1.size := by
      have := pm.length_eq
      simpa using this
    refine wpAny_bind (hg _ _ _ (wpAny_bind (wpAny_storeSet_of ho1 rfl ?_ (fits_of_scanBound (by rw [hsz]; exact hb)))))
    have ho2 := store_at (es' := Z.1) (t' := Z.2.1) ho1 rfl
    refine wpAny_pure (hR _ (sb1.trans (Heap.SameBut.update _ a _)) ?_)
    exact ⟨_, Z.1, _, Z.2.1, ho2, hex, rfl, fun e he => g1 e (pm.mem_iff.mp he), (pm.map txOf).trans p1, nd, by rw [hsz]; exact hb, hf3, hr3, hl.imp id fun z => by rw [hl3]; exact z⟩
  · rw [if_neg c]
    exact wpAny_pure (hR _ sb1 ⟨_, es1, _, t2, ho1, hex, rfl, g1, p1, nd, hb, hf, hr, hl⟩)

theorem setT_add {k : Str} {tk : Tok} {Q : Bool → Shared → Prop} (R : SetT w s.heap a l) (room : l.length + 1 < scanBound)
    (hQ : ∀ h' b, Heap.SameBut a s.heap h' → SetT w h' a (addT l k) → Q b { s with heap := h' }) :
    wpAny (model P w) A (setAddHashed a (.str k tk) (hashStr w k)) Q E s := by
  obtain ⟨o, es, ep, t, ho, hex, hd, g, p, nd, hb, hf, hr, hl⟩ := R
  have hkey : (PySem.strKind P w).is k (.str k tk) = true := keyIs_str k tk
  have hsc : (Value.str k tk).scannable = true := rfl
  have hel : ElemsOf (PySem.strKind P w) es.toList := goodT_elems g
  have hlen : es.size = l.length := by simpa using p.length_eq
  unfold setAddHashed setAddHashedIn
  refine wpAny_holding (wpAny_bind (wpAny_setState_of ho hd hf ?_))
  dsimp only
  rw [byScan_of hsc hb hel, if_pos rfl]
  unfold setAddByScan
  refine wpAny_bind (wpAny_bind (wpAny_rule (wpAny_bind (wpAny_setScan_of hkey ho hd hf hel ?_))))
  cases hfi : List.findIdx? (fun e => (PySem.strKind P w).is k e.2) es.toList with
  | some j =>
    obtain ⟨hj, pj, _⟩ := List.findIdx?_eq_some_iff_getElem.mp hfi
    have hin : k ∈ l := p.mem_iff.mp ((txOf_mem (P := P) g k).2 ⟨_, List.getElem_mem hj, pj⟩)
    have e1 : addT l k = l := if_pos hin
    exact wpAny_pure (wpAny_pure (hQ s.heap _ (Heap.SameBut.refl a s.heap) ⟨o, es, ep, t, ho, hex, hd, g, by rw [e1]; exact p, by rw [e1]; exact nd, hb, hf, hr, hl⟩))
  | none =>
    have hnot : k ∉ l := fun z => by
      obtain ⟨e, he, q⟩ := (txOf_mem (P := P) g k).1 (p.mem_iff.mpr z)
      have c := List.findIdx?_eq_none_iff.mp hfi e he
      rw [q] at c
      cases c
    have e1 : addT l k = l ++ [k] := if_neg hnot
    have hgw : ∀ (b : Bool) {s₁ : Shared} {Q' : Unit → Shared → Prop}, Q' () s₁ →
        wpAny (model P w) A (match b with | true => rule "set.scan.the-table-gave-way" | false => pure ()) Q' E s₁ :=
      fun b s₁ Q' q => by
        cases b
        · exact wpAny_pure q
        · exact wpAny_rule q
    have pm := layNew_perm t es (hashStr w k) (.str k tk)
    have hf1 := layNew_fits t es (hashStr w k) (.str k tk)
    have hr1 := layNew_ris t es (hashStr w k) (.str k tk) hr
    have hl1 := layNew_led t es (hashStr w k) (.str k tk)
    have ek : (PySem.strKind P w).hash k = hashStr w k := rfl
    try rw [ek]
    revert pm hf1 hr1 hl1
    generalize layNew t es (hashStr w k) (.str k tk) = Z
    intro pm hf1 hr1 hl1
    obtain ⟨es1, t1, wasDummy, gave⟩ := Z
    dsimp only at pm hf1 hr1 hl1 ⊢
    rw [Array.toList_push] at pm
    have pk : (es1.toList.map txOf).Perm (l ++ [k]) := by
      have q := pm.map txOf
      rw [List.map_append] at q
      exact q.trans (p.append_right _)
    have g1 : ∀ e ∈ es1.toList, GoodT w e := fun e he => by
      rcases List.mem_append.mp (pm.mem_iff.mp he) with z | z
      · exact g e z
      · rw [List.mem_singleton.mp z]
        exact ⟨k, tk, rfl, rfl⟩
    have nd1 : (l ++ [k]).Nodup := List.nodup_append.mpr ⟨nd, by simp, fun x hx y hy e => hnot (by rw [← List.mem_singleton.mp hy, ← e]; exact hx)⟩
    have hsz : es1.size = l.length + 1 := by simpa using pk.length_eq
    have hb1 : es1.size < scanBound := by rw [hsz]; exact room
    have hled : w.params.followText "set-order" = true ∨ t1.led = true := hl.imp id fun z => by rw [hl1]; exact z
    have fin : ∀ h', Heap.SameBut a s.heap h' → SetT w h' a (l ++ [k]) → Q true { s with heap := h' } := fun h' sb r => hQ h' true sb (by rw [e1]; exact r)
    refine wpAny_bind (hgw _ ?_)
    split
    · refine wpAny_bind ?_
      rw [hashByValue_scannable 8 hsc]
      refine wpAny_pure ?_
      refine setT_tail ?_ ho hex hd g1 pk nd1 hb1 ?_ ?_ ?_ ?_
      · intro b s₁ Q' q
        cases b <;> first | exact wpAny_pure q | exact wpAny_rule q
      · first | exact hf1 | (split <;> first | exact hf1 | exact SetTable.fits_plain_off hf1)
      · first | exact hr1 | (split <;> exact hr1)
      · first | exact hled | (split <;> exact hled)
      · intro h' sb r
        exact wpAny_pure (fin h' sb r)
    · refine wpAny_bind (wpAny_pure ?_)
      rw [if_pos rfl]
      refine setT_tail ?_ ho hex hd g1 pk nd1 hb1 hf1 hr1 hled ?_
      · intro b s₁ Q' q
        cases b <;> first | exact wpAny_pure q | exact wpAny_rule q
      · intro h' sb r
        exact wpAny_pure (fin h' sb r)
end
section
variable {P : Program} {w : World} {A : Around} {I : Addr} {fp wr : List Addr} {G : Array GenState → Array GenState → Prop} {n : Nat} {Pv : Nat → Value → Prop} {St : Nat → Shared → Prop}

theorem metT_take (xs : List Str) {i : Nat} (h : i < xs.length) : metT (xs.take (i + 1)) = addT (metT (xs.take i)) xs[i] := by
  unfold metT
  rw [List.take_succ_eq_append_getElem h, List.foldl_append]
  rfl
theorem addT_le (l : List Str) (z : Str) : (addT l z).length ≤ l.length + 1 := by
  unfold addT
  split
  · exact Nat.le_succ _
  · simp
theorem foldT_le (xs : List Str) : ∀ l : List Str, (xs.foldl addT l).length ≤ l.length + xs.length := by
  induction xs with
  | nil => intro l; simp
  | cons x r ih =>
    intro l
    rw [List.foldl_cons]
    have h1 := ih (addT l x)
    have h2 := addT_le l x
    rw [List.length_cons]
    omega
theorem metT_le (xs : List Str) : (metT xs).length ≤ xs.length := by
  have := foldT_le xs []
  simpa [metT] using this
theorem addT_nodup {l : List Str} {z : Str} (h : l.Nodup) : (addT l z).Nodup := by
  unfold addT
  split
  · exact h
  · rename_i hn
    exact List.nodup_append.mpr ⟨h, by simp, fun x hx y hy e => hn (by rw [← List.mem_singleton.mp hy, ← e]; exact hx)⟩
theorem addT_mem {l : List Str} {z k : Str} : k ∈ addT l z ↔ k ∈ l ∨ k = z := by
  unfold addT
  split
  · rename_i h
    exact ⟨.inl, fun q => q.elim id fun e => e ▸ h⟩
  · simp
theorem foldT_mem (xs : List Str) (k : Str) : ∀ l : List Str, k ∈ xs.foldl addT l ↔ k ∈ l ∨ k ∈ xs := by
  induction xs with
  | nil => intro l; simp
  | cons x r ih =>
    intro l
    rw [List.foldl_cons, ih, addT_mem, List.mem_cons]
    exact ⟨fun q => q.elim (fun q => q.elim .inl fun e => .inr (.inl e)) fun q => .inr (.inr q),
      fun q => q.elim (fun q => .inl (.inl q)) fun q => q.elim (fun e => .inl (.inr e)) .inr⟩
theorem metT_mem {xs : List Str} {k : Str} : k ∈ metT xs ↔ k ∈ xs := by
  have := foldT_mem xs k []
  simpa [metT] using this
theorem foldT_nodup (xs : List Str) : ∀ l : List Str, l.Nodup → (xs.foldl addT l).Nodup := by
  induction xs with
  | nil => exact fun l h => h
  | cons x r ih => exact fun l h => ih _ (addT_nodup h)
theorem metT_nodup (xs : List Str) : (metT xs).Nodup := foldT_nodup xs [] List.nodup_nil

theorem setT_loop (W : WalksS P w A.in1 I fp wr G n Pv St) (S : Addr) (hSf : S ∉ fp) (xs : List Str) (hn : xs.length = n)
    (hval : ∀ i v, Pv i v → ∃ t, v = .str (xs.getD i Str.empty) t) (hb : n + 1 < scanBound) (R : Result → Shared → Prop) :
    ∀ (k i : Nat) (s : Shared), n - i = k → i ≤ n → St i s → SetT w s.heap S (metT (xs.take i)) →
      (∀ s', Moved (S :: wr) G s s' → SetT w s'.heap S (metT xs) → R (.ok (.ret .none)) s') →
      codeAny (model P w) A (.builtin "set.update.loop" ⟨[.ref S, .ref I], []⟩) R s := by
  have hSw : S ∉ wr := fun h => hSf (W.sub _ h)
  have hsub : ∀ b ∈ wr, b ∈ S :: wr := fun b hb => List.mem_cons_of_mem _ hb
  intro k
  induction k with
  | zero =>
    intro i s hk hi hst hS hR
    have hin : i = n := by omega
    subst hin
    refine codeAny_builtin F.entry_set_update_loop ?_
    rw [Around.under_plainId F.plain_set_update_loop _]
    show wpAny _ A.in1 (pyNext (.ref I) >>= _) _ _ s
    refine wpAny_bind (W.done s _ _ hst fun s' hm => ?_)
    show wpAny _ A.in1 (ret Value.none) _ _ s'
    refine wpAny_pure (hR s' (hm.mono hsub) ?_)
    have e : xs.take i = xs := List.take_of_length_le (by omega)
    rw [e] at hS
    exact hS.kept fun o q => hm.heap S o hSw q
  | succ k ih =>
    intro i s hk hi hst hS hR
    have hlt : i < n := by omega
    have hlx : i < xs.length := by omega
    refine codeAny_builtin F.entry_set_update_loop ?_
    rw [Around.under_plainId F.plain_set_update_loop _]
    show wpAny _ A.in1 (pyNext (.ref I) >>= _) _ _ s
    refine wpAny_bind (W.item i s _ _ hlt hst fun v s' hP hst' hm => ?_)
    obtain ⟨t, rfl⟩ := hval i v hP
    have hx : xs.getD i Str.empty = xs[i] := by simp [List.getD, hlx]
    have hS' : SetT w s'.heap S (metT (xs.take i)) := hS.kept fun o q => hm.heap S o hSw q
    show wpAny _ A.in1 (holding [Value.str (xs.getD i Str.empty) t] (setAdd S (.str (xs.getD i Str.empty) t)) >>= _) _ _ s'
    refine wpAny_bind (wpAny_holding ?_)
    unfold setAdd
    refine wpAny_holding (wpAny_bind (wpAny_pyHash_str ?_))
    have hroom : (metT (xs.take i)).length + 1 < scanBound := by
      have h1 := metT_le (xs.take i)
      rw [List.length_take] at h1
      omega
    refine setT_add (s := { s' with toks := s'.toks + 1 }) hS' hroom fun h' b hsb hS2 => ?_
    rw [hx, ← metT_take xs hlx] at hS2
    refine wpAny_pure ⟨plainId_quiet F.plain_set_update_loop _, ih (i + 1) _ (by omega) hlt (W.frame _ s' _ _ hst' (Nat.le_succ _) fun b hb o e => ?_) hS2 fun s2 hm2 hq2 => ?_⟩
    · rw [hsb.2 b (fun h : b = S => hSf (by rw [← h]; exact hb))]
      exact e
    · refine hR s2 (Moved.trans W.gtrans ((hm.mono hsub).then_heap (Nat.le_succ _) fun b o hb e => ?_) hm2) hq2
      rw [hsb.2 b (fun h : b = S => hb (by rw [h]; exact List.mem_cons_self))]
      exact e
end

section
variable {P : Program} {w : World} {A : Around} {E : Value → Shared → Prop} {s : Shared}
/-- the empty set, its table known by the world -/
abbrev newSet (w : World) : Obj := { cls := .type "set", dict := none, data := .set #[] 0 (.fresh 0 0 (!w.params.followText "set-order")) }
theorem setT_empty (h : Heap) (w : World) : SetT w (h.push (newSet w)) h.objs.size [] := by
  refine ⟨_, #[], 0, _, Heap.get?_push_size _ rfl, ⟨rfl, rfl, rfl⟩, rfl, fun e he => by simp at he, by simp, List.nodup_nil, by decide, by rfl, List.Pairwise.nil, ?_⟩
  show _ ∨ (!w.params.followText "set-order") = true
  cases w.params.followText "set-order"
  · exact .inr rfl
  · exact .inl rfl
theorem set_made1 (a : Value) {Q₁ : Value → Shared → Prop} (h : Q₁ (.ref s.heap.objs.size) { s with heap := s.heap.push (newSet w) }) :
    codeAny (model P w) A (.call (.builtin "set.__new__") ⟨[.type "set", a], []⟩) (wants Q₁ E) s := by
  refine codeAny_of_tree ?_
  show wpAny _ A.in1 (do checkBuiltinCall "set.__new__" ⟨[.type "set", a], []⟩; again (.builtin "set.__new__" ⟨[.type "set", a], []⟩)) _ _ s
  refine wpAny_bind (wpAny_of_eq (PySem.F.newCall_set_1 a) (wpAny_pure ⟨plainId_quiet PySem.F.plain_set_new _, codeAny_builtin PySem.F.entry_set_new ?_⟩))
  rw [Around.under_plainId PySem.F.plain_set_new _]
  unfold Builtin.«set.__new__» Builtin.Frozenset.newClass
  have hsub := sub_set_self
  obtain ⟨hp, g, d, tk, os⟩ := s
  dsimp only
  wp_walk
  refine wpAny_askSetting (wpAny_pure ?_)
  dsimp only
  simp only [newObj]
  exact wpAny_bind (wpAny_alloc (wpAny_pure (wpAny_pure h)))

theorem strs_get : ∀ {us : List Value} {xs : List Str}, StrsAre us xs → ∀ (i : Nat) (v : Value), us[i]? = some v → ∃ t, v = .str (xs.getD i Str.empty) t
  | _, _, .nil, i, v, h => by simp at h
  | _, _, .cons z t r, 0, v, h => by
    simp at h
    exact ⟨t, h.symm⟩
  | _, _, .cons z t r, i + 1, v, h => strs_get r i v (by simpa using h)

/-- set(xs) -/
theorem call_setT {l : Addr} {items : Array Value} {xs : List Str} {Q : Value → Shared → Prop}
    (hh : A.handled = none) (hl : s.heap.IsList l items) (hi : StrsAre items.toList xs) (hb : xs.length + 1 < scanBound)
    (h : ∀ (h' : Heap) (tk : Nat), SetT w h' s.heap.objs.size (metT xs) → (∀ b o, b < s.heap.objs.size → s.heap.get? b = some o → h'.get? b = some o) →
      Q (.ref s.heap.objs.size) { s with heap := h', toks := tk }) :
    wpAny (model P w) A (call (.type "set") [.ref l]) Q E s := by
  have hsz : items.size = xs.length := by
    have := hi.length
    simpa using this
  obtain ⟨c, tl, hmro⟩ := PySem.F.called_set.mro
  have hmade := PySem.F.called_set.made
  have hsub := PySem.F.called_set.sub
  refine wpAny_call (codeAny_of_tree ?_)
  show wpAny _ _ (callAny (.type "set") _) _ _ _
  refine wpAny_pure ⟨Code.quiet_builtin _ (by decide +kernel), codeAny_builtin PySem.F.entry_type_call ?_⟩
  rw [Around.under_plain (weight_type_call_type "set" [.ref l] []) rfl]
  have h1 := PySem.F.called_set.notType
  have h2 := PySem.F.called_set.canCreate
  have hct := PySem.F.typeCall_set_1 (.ref l)
  repeat (any_goals (first | assumption | wp_step))
  refine codeAny_mono (set_made1 (.ref l) (E := E) (Q₁ := fun obj s₁ => obj = .ref s.heap.objs.size ∧ s₁ = { s with heap := s.heap.push (newSet w) }) ⟨rfl, rfl⟩) fun r s₁ hr => ?_
  cases r with
  | error e => exact hr
  | ok fl =>
    cases fl with
    | ret obj =>
      obtain ⟨rfl, rfl⟩ := hr
      have hS : (s.heap.push (newSet w)).get? s.heap.objs.size = some (newSet w) := Heap.get?_push_size _ rfl
      have hT : Shared.TypeIs { s with heap := s.heap.push (newSet w) } (.ref s.heap.objs.size) "set" := ⟨_, hS, rfl⟩
      have hli := PySem.F.called_set.init.lookup
      have hbi := PySem.F.called_set.init.bind (.ref s.heap.objs.size)
      repeat (any_goals (first | assumption | wp_step))
      refine codeAny_mono (codeAny_call_builtin (R := wants (fun r s₂ => r = .none ∧ ∃ h' tk, s₂ = { s with heap := h', toks := tk } ∧ SetT w h' s.heap.objs.size (metT xs) ∧
          (∀ b o, b < s.heap.objs.size → s.heap.get? b = some o → h'.get? b = some o)) E) PySem.F.called_set.init.plain PySem.F.entry_set_init (check_set_init_1 hT ?_)) fun r₂ s₂ hr₂ => ?_
      · obtain ⟨ol, hol, hcl, nl, hdl⟩ := hl
        obtain ⟨ocls, odict, odata, oslots⟩ := ol
        simp only at hcl hdl
        subst hcl
        subst hdl
        have hol' : (s.heap.push (newSet w)).get? l = some { cls := .type "list", dict := odict, data := .seq items nl, slots := oslots } := Heap.get?_push_of_some _ hol
        have hsls := PySem.F.sub_list_set
        have hslf := PySem.F.sub_list_frozenset
        have hne : (Value.type "list" == Value.type "dict") = false := by decide
        have hl1 : (s.heap.push (newSet w)).IsList l items := ⟨_, hol', rfl, nl, rfl⟩
        have hlS : l < s.heap.objs.size := Heap.lt_size hol
        unfold Builtin.«set.__init__» noKeywords Builtin.Frozenset.updateFrom
        generalize hPI : pyIter = PI
        wp_walk
        subst hPI
        refine wpAny_pyIter_list hl1 (wpAny_bind (wpAny_runValue ?_))
        have hneI : l ≠ (s.heap.push (newSet w)).objs.size := by
          rw [Heap.size_push]
          exact Nat.ne_of_lt (Nat.lt_succ_of_lt hlS)
        have hSf : s.heap.objs.size ∉ [(s.heap.push (newSet w)).objs.size, l] := by
          rw [Heap.size_push]
          intro hm
          rcases List.mem_cons.mp hm with z | z
          · exact absurd z (Nat.ne_of_lt (Nat.lt_succ_self _))
          · exact absurd (List.mem_singleton.mp z) (Nat.ne_of_gt hlS)
        refine setT_loop (n := items.size) ((Walks.list (by simp [hh]) _ l hneI items).toS) s.heap.objs.size hSf xs hsz.symm (fun i v hv => strs_get hi i v (by rw [Array.getElem?_toList]; exact hv))
          (by rw [hsz]; exact hb) _ (items.size - 0) 0 _ (by omega) (Nat.zero_le _) ⟨⟨_, Heap.get?_push_size _ rfl, rfl, rfl⟩, hl1.push _⟩ ?_ ?_
        · exact (setT_empty s.heap w).kept fun o q => Heap.get?_push_of_some _ q
        · intro s' hm hS'
          obtain ⟨h', g', d', tk', os'⟩ := s'
          obtain rfl : g' = s.gens := hm.gens
          obtain rfl : d' = s.drawn := hm.drawn
          obtain rfl : os' = s.os := hm.os
          show wpAny _ _ _ _ _ _
          refine wpAny_pure ?_
          show wpAny _ _ (ret Value.none) _ _ _
          refine wpAny_pure ⟨rfl, h', tk', rfl, hS', fun b o hb e => hm.heap b o ?_ (Heap.get?_push_of_some _ (Heap.get?_push_of_some _ e))⟩
          rw [Heap.size_push]
          intro z
          rcases List.mem_cons.mp z with z | z
          · exact absurd z (Nat.ne_of_lt hb)
          · exact absurd (List.mem_singleton.mp z) (Nat.ne_of_lt (Nat.lt_succ_of_lt hb))
      · cases r₂ with
        | error e => exact hr₂
        | ok fl₂ =>
          cases fl₂ with
          | ret r =>
            obtain ⟨rfl, h', tk, rfl, hS', hk'⟩ := hr₂
            repeat (any_goals (first | assumption | wp_step))
            exact h _ _ hS' hk'
          | _ => exact hr₂.elim
    | _ => exact hr.elim

theorem strsAre_txOf : ∀ {l : List (Int × Value)}, (∀ e ∈ l, GoodT w e) → StrsAre (l.map (·.2)) (l.map txOf)
  | [], _ => .nil
  | e :: r, g => by
    obtain ⟨z, tk, h1, _⟩ := g e List.mem_cons_self
    have e1 : txOf e = z := by
      unfold txOf
      rw [h1]
    rw [List.map_cons, List.map_cons, e1, h1]
    exact .cons z tk (strsAre_txOf fun u hu => g u (List.mem_cons_of_mem _ hu))
/-- sorted(a set of texts) -/
theorem sorted_setT {a : Addr} {l : List Str} {Q : Value → Shared → Prop} (R : SetT w s.heap a l) (hh : A.handled = none) (h64 : l.length < 64)
    (hQ : ∀ s' p (out : Array Value) (c : Nat) (ys : List Str), (∀ b o, s.heap.get? b = some o → s'.heap.get? b = some o) → s'.gens = s.gens → s'.os = s.os → s.heap.objs.size ≤ p →
      s'.heap.get? p = some (seqObj "list" out c) → StrsAre out.toList ys → ys.Perm l → sortedS ys = true → Q (.ref p) s') :
    wpAny (model P w) A (call (.builtin "sorted") [.ref a]) Q E s := by
  obtain ⟨o, es, ep, t, ho, hex, hd, g, p, nd, hb, hf, hr, hl⟩ := R
  refine Calls.call_function_entry kind_sorted plain_sorted entry_sorted (args_sorted1 _) ?_
  unfold Builtin.«sorted»
  refine wpAny_bind (m := checkCount "sorted" 1 1 _) (wpAny_pure ?_)
  refine wpAny_bind (collect_set (A := A.in1) hh ⟨o, ho, hex.1, hd⟩ hf hb hr hl fun s1 vs k1 hz g1 o1 pm => ?_)
  have hvl : vs.length = l.length := by
    have h1 := pm.length_eq
    have h2 := p.length_eq
    simp at h1 h2
    omega
  have hall : ∀ v ∈ vs, ∃ x t, v = .str x t := fun v hv => by
    obtain ⟨e, he, q⟩ := List.mem_map.mp (pm.mem_iff.mp hv)
    obtain ⟨z, tk, h1, _⟩ := g e he
    exact ⟨z, tk, by rw [← q]; exact h1⟩
  have hS := strsAre_map vs hall
  have ps : (vs.map strOf).Perm l := by
    have q := pm.map strOf
    have e2 := (strsAre_txOf g).strs
    rw [e2] at q
    exact q.trans p
  refine wpAny_bind (wpAny_newList ?_ (by rw [hvl, sizeLine_eq]; omega))
  have hoL : (s1.heap.push (seqObj "list" vs.toArray 0)).get? s1.heap.objs.size = some (seqObj "list" vs.toArray 0) := Heap.get?_push_size _ rfl
  refine wpAny_bind (wpAny_holding (wpAny_call_entry slot_list_sort ⟨_, hoL, rfl⟩ entry_list_sort
    (list_sort_treeK strKind_oneLt hoL hS.keysOf (fun v₁ v₂ rest e => keyKind_strs (by rw [← e]; exact hS)) (by rw [hvl]; exact h64) fun st' hp hs => ⟨_, rfl, ?_⟩) (args_list_sort _)))
  obtain ⟨ys, a1, a2, a3⟩ := sorted_out_str hS hp hs
  obtain ⟨c, hc⟩ := sortedHeap_at (vs := vs) (out := (arrOf st').map (·.2)) hoL
  refine wpAny_pure ⟨_, rfl, hQ _ s1.heap.objs.size _ c ys (fun b u e => ?_) g1 o1 hz hc a1 (a2.trans ps) a3⟩
  have q := k1 b u e
  have hlt := Heap.lt_size q
  show (sortedHeap (s1.heap.push (seqObj "list" vs.toArray 0)) s1.heap.objs.size vs _).get? b = some u
  rw [sortedHeap_old (Nat.ne_of_lt hlt) (by rw [size_push']; exact Nat.lt_succ_of_lt hlt)]
  exact Heap.get?_push_of_some _ q
end

/-! ## over the layer -/
def SetO (w : World) (a : Addr) (l : List Str) : HO := .ext fun h => SetT w h a l
section
variable {X : Cx} {pins : List (Addr × Obj)} {σ : L2.St} {H : Hp} {s : Shared}
theorem setO_ok {P : Program} {w : World} {h : Heap} {a : Addr} {l : List Str} (R : SetT w h a l) : ObjOk P w H h a (SetO w a l) := by
  have q := id R
  obtain ⟨o, es, ep, t, ho, r⟩ := q
  exact ⟨R, ⟨o, ho⟩, fun h1 h2 r1 k => SetT.kept r1 k⟩
/-- set(xs): a new set of the texts -/
def rSet (K : PySem.W.Frag) (w : World) : List V → Hp → VK → Prop := fun vs H Q => ∃ (a : Addr) (xs : List Str), vs = [V.ref a] ∧ SqL K H a (xs.map V.str) ∧ xs.length + 1 < scanBound ∧
  ∀ p, H p = none → Q (.ref p) (upd H p (SetO w p (metT xs)))
theorem cr_set (hc : X.calm = true) : CallR X (.type "set") (rSet X.K X.w) := by
  intro pins s σ H vs us Q I r h
  obtain ⟨a, xs, rfl, hs, hb, q⟩ := h
  obtain ⟨its, rv, hl, _⟩ := I.list hs
  rw [Vals.ref1 r]
  refine call_setT (I.ok.hd hc) hl.isList rv.strs hb fun h' tk hS hk => ?_
  have k : ∀ b o, s.heap.get? b = some o → h'.get? b = some o := fun b o e => hk b o (Heap.lt_size e) e
  exact ⟨.ref _, _, I.laid (t' := tk) (o := SetO X.w s.heap.objs.size (metT xs)) k (Nat.le_refl _) (setO_ok hS), rfl, q _ (I.hok.fresh (Nat.le_refl _))⟩
/-- sorted(a set of texts): a new list -/
def rSortedO (w : World) : List V → Hp → VK → Prop := fun vs H Q => ∃ (a : Addr) (l : List Str), vs = [V.ref a] ∧ H a = some (SetO w a l) ∧ l.length < 64 ∧
  ∀ (ys : List Str) (p : Addr), ys.Perm l → sortedS ys = true → H p = none → Q (.ref p) (upd H p (.lst (ys.map V.str)))
theorem cr_sortedO (hc : X.calm = true) : CallR X (.builtin "sorted") (rSortedO X.w) := by
  intro pins s σ H vs us Q I r h
  obtain ⟨a, l, rfl, ha, h64, q⟩ := h
  have R : SetT X.w s.heap a l := (I.hok a _ ha).1
  rw [Vals.ref1 r]
  refine sorted_setT R (I.ok.hd hc) h64 fun s' p out c ys k g o hp hgt hi pm hso => ?_
  have hlen : (ys.map V.str).length ≤ sizeLine := by
    rw [List.length_map, pm.length_eq, sizeLine_eq]
    omega
  have hn : H p = none := I.hok.fresh hp
  have J : Inv X pins σ (upd H p (.lst (ys.map V.str))) { s with heap := s'.heap, gens := s'.gens, drawn := s'.drawn, toks := s'.toks } :=
    I.call (ch := []) (Un.laid k hp hn) (I.hok.laid k hp ⟨hlen, out.toList, c, vals_of_strs hi, hgt⟩) (by rw [g]; exact I.bare) (fun _ z => nomatch z)
  have e : s' = { s with heap := s'.heap, gens := s'.gens, drawn := s'.drawn, toks := s'.toks } := by
    cases s'
    cases s
    cases o
    rfl
  rw [e]
  exact ⟨.ref p, _, J, rfl, q ys p pm hso hn⟩
end
end RB

/-! The layer's rules over texts as lists of codes; calls of defs that are told by their promise; loops and comprehensions by what is evaluated. -/
namespace RC
open PySem PySem.Spec PyProof.Rows L2 Evl TL

/-! ## texts by their codes -/
def S (l : List Nat) : Str := ⟨l.toArray⟩
abbrev T (l : List Nat) : V := .str (S l)
@[simp] theorem S_len (l : List Nat) : (S l).length = l.length := by simp [S, Str.length]
@[simp] theorem tl_S (l : List Nat) : tl (S l) = l := rfl
theorem S_tl (x : Str) : S (tl x) = x := mk_tl x
theorem S_inj {a b : List Nat} : S a = S b ↔ a = b := ⟨fun h => by have := congrArg tl h; simpa using this, fun h => by rw [h]⟩
theorem T_inj {a b : List Nat} : T a = T b ↔ a = b := ⟨fun h => S_inj.mp (by injection h), fun h => by rw [h]⟩
theorem S_append (a b : List Nat) : S a ++ S b = S (a ++ b) := ext_tl (by rw [tl_append, tl_S, tl_S, tl_S])
theorem S_cps (l : List Nat) : (S l).cps.toList = l := rfl
theorem dec_T (a b : List Nat) : decide (T a = T b) = decide (a = b) := by simp only [T_inj]
theorem big : sizeLine = 16777216 := sizeLine_eq

/-! ## defs, told by name -/
/-- at level k the name x holds a def of the parameters ps that keeps sp -/
def Has (P : Program) (w : World) (K : PySem.W.Frag) (mg : Str → Option Value) (base : Heap) (CX : CXT) (k : Nat) (x : Str) (ps : List Str) (sp : Sp) : Prop :=
  ∃ f fd, FnOk P w K mg base CX k f fd ps sp ∧ mg x = some (.ref f) ∧ PySem.W.keepIn K (.ref f) = true ∧ Binds K fd ps []
section
variable {P : Program} {w : World} {K : PySem.W.Frag} {mg : Str → Option Value} {base : Heap} {CX : CXT}
theorem Has.mono {j k : Nat} {x : Str} {ps : List Str} {sp : Sp} (h : Has P w K mg base CX j x ps sp) (l : j ≤ k) : Has P w K mg base CX k x ps sp := by
  obtain ⟨f, fd, h1, h2, h3, h4⟩ := h
  exact ⟨f, fd, h1.mono l, h2, h3, h4⟩
theorem Has.imp {k : Nat} {x : Str} {ps : List Str} {sp sp' : Sp} (h : Has P w K mg base CX k x ps sp) (l : ∀ vs H Q E, sp' vs H Q E → sp vs H Q E) : Has P w K mg base CX k x ps sp' := by
  obtain ⟨f, fd, h1, h2, h3, h4⟩ := h
  exact ⟨f, fd, h1.imp l, h2, h3, h4⟩
/-- how a def of the text stands behind the top -/
structure At (K : PySem.W.Frag) (mg : Str → Option Value) (x : Str) (st : Stmt) (ps : List Str) : Prop where
  ex : ∃ f fd, Fun K x x st f fd ∧ mg x = some (.ref f) ∧ Binds K fd ps []
theorem At.ok {x : Str} {st : Stmt} {N ps : List Str} {k : Nat} {sp : Sp} (F : At K mg x st ps) (S : FnScope N ps (defScope st)) (len : ∀ vs H Q E, sp vs H Q E → vs.length = ps.length)
    (hbody : ∀ (f : Addr) (cdv : Value) (A : Around) (outer : List Env) (s : Shared) (H : Hp) (vs : List V) (Q : VK) (E : XK), Room k (A.deeper (envOfC x (defScope st) s.heap.objs.size f cdv)) → sp vs H Q E →
      ∃ t, PSs (cxOf CX0 P w K mg base N x (defScope st) f cdv A outer s H E).nox (defBody st) t ∧ t { nx := fun _ H' => Q .non H', rt := Q } (start N vs) H) : Has P w K mg base CX0 (k + 1) x ps sp := by
  obtain ⟨f, fd, h1, h2, h3⟩ := F.ex
  exact ⟨f, fd, h1.ok S len (hbody f), h2, h1.kp, h3⟩
end
section
variable {X : Cx} {CX : CXT} {E : XK} {k : Nat} {x : Str} {ps : List Str} {sp : Sp} {t : TA} {e : Expr} {es : List Expr} {p pos : Pos}
theorem pe_has (h : Has X.prog X.w X.K X.mg X.base CX k x ps sp) (hr : Room k X.A) (hx : Passes CX X E) (ha : PA X (e :: es) t) (hg : Gl X x := by rfl) (hd : (x == ("__debug__" : Str)) = false := by decide)
    (hs : starEach (e :: es) X.env = (false, eval e X.env) :: starEach es X.env := by rfl) (hpl : (backTo pos (starEach es X.env)).any (·.1) = false := by rfl) :
    PE X (.Call (.Name x p) (e :: es) [] pos) (tCall sp [] E t) := by
  obtain ⟨f, fd, h1, h2, h3, h4⟩ := h
  exact pe_call h1 hr hg h2 h3 h4 .nil hx ha hd hs hpl
/-- a constant of the module that is a text, an int -/
theorem pe_gs {z : Str} (h : ∃ t, X.mg x = some (.str z t)) (hg : Gl X x := by rfl) (hd : (x == ("__debug__" : Str)) = false := by decide) : PE X (.Name x pos) (tC (.str z)) := by
  obtain ⟨t, h⟩ := h
  exact pe_glob hg h ⟨t, rfl⟩ hd
theorem pe_gi {z : Int} (h : ∃ t, X.mg x = some (.int z t)) (hg : Gl X x := by rfl) (hd : (x == ("__debug__" : Str)) = false := by decide) : PE X (.Name x pos) (tC (.int z)) := by
  obtain ⟨t, h⟩ := h
  exact pe_glob hg h ⟨t, rfl⟩ hd
end

/-! ## rules by codes -/
theorem opr_imp {X : Cx} {f : Value → Value → Sem Value} {r r' : R2} (h : OpR X f r) (i : ∀ x y H Q, r' x y H Q → r x y H Q) : OpR X f r' :=
  fun pins s σ H x y v u Q I rx ry q => h pins s σ H x y v u Q I rx ry (i x y H Q q)
theorem callr_imp {X : Cx} {f : Value} {r r' : List V → Hp → VK → Prop} (h : CallR X f r) (i : ∀ x H Q, r' x H Q → r x H Q) : CallR X f r' :=
  fun pins s σ H xs us Q I rx q => h pins s σ H xs us Q I rx (i xs H Q q)
def rAddT : R2 := fun x y H Q => ∃ a b, x = T a ∧ y = T b ∧ a.length + b.length ≤ 16777216 ∧ Q (T (a ++ b)) H
theorem op_addT {X : Cx} : OpR X (binaryOp .Add) rAddT := opr_imp op_add_str fun x y H Q ⟨a, b, ha, hb, hl, q⟩ =>
  ⟨S a, S b, ha, hb, by rw [S_len, S_len, big]; exact hl, by rw [S_append]; exact q⟩
def rInT : R2 := fun x y H Q => ∃ c l, x = T [c] ∧ y = T l ∧ Q (.bl (decide (c ∈ l))) H
theorem op_inT {X : Cx} : OpR X (compareOp .In) rInT := opr_imp op_in_sign fun x y H Q ⟨c, l, hx, hy, q⟩ => ⟨c, S l, hx, hy, q⟩
def rNotInT : R2 := fun x y H Q => ∃ c l, x = T [c] ∧ y = T l ∧ Q (.bl (!decide (c ∈ l))) H
theorem op_notInT {X : Cx} : OpR X (compareOp .NotIn) rNotInT := opr_imp op_notIn_sign fun x y H Q ⟨c, l, hx, hy, q⟩ => ⟨c, S l, hx, hy, q⟩
def rLenT : List V → Hp → VK → Prop := fun xs H Q => ∃ l, xs = [T l] ∧ l.length ≤ 16777216 ∧ Q (.int (l.length : Int)) H
theorem call_lenT {X : Cx} : CallR X (.builtin "len") rLenT := callr_imp call_len_str fun xs H Q ⟨l, hx, hl, q⟩ => ⟨S l, hx, by rw [S_len, big]; exact hl, by rw [S_len]; exact q⟩
/-- len of a list or tuple -/
def rLenL (K : PySem.W.Frag) : List V → Hp → VK → Prop := fun xs H Q => ∃ p ys, xs = [.ref p] ∧ (SqL K H p ys ∨ SqT K H p ys) ∧ Q (.int ys.length) H
theorem call_lenL {X : Cx} : CallR X (.builtin "len") (rLenL X.K) := call_len_seq
def rIxC : R2 := fun x y H Q => ∃ l i, x = T l ∧ y = .int i ∧ l.length ≤ 16777216 ∧ 0 ≤ i ∧ i < l.length ∧ Q (T [l.getD i.toNat 0]) H
theorem ix_C {X : Cx} : IxR X rIxC := by
  intro ve sl pins s σ H x y v u Q I rx ry h
  obtain ⟨l, i, hx, hy, hl, h0, h1, q⟩ := h
  refine ix_str ve sl pins s σ H x y v u Q I rx ry ⟨S l, i, l.getD i.toNat 0, hx, hy, by rw [S_len, big]; exact hl, ?_, q⟩
  have e : i = ((i.toNat : Nat) : Int) := by omega
  have hlt : i.toNat < l.length := by omega
  have a : atI l ((i.toNat : Nat) : Int) = some (l.getD i.toNat 0) := atI_nat (by simp [List.getD, hlt])
  rw [← e] at a
  exact a
/-- text * int -/
def repT (l : List Nat) (k : Nat) : List Nat := (List.replicate k l).flatten
def rRepT : R2 := fun x y H Q => ∃ l k, x = T l ∧ y = .int k ∧ -(2 ^ 63) ≤ k ∧ k < 2 ^ 63 ∧ l.length * k.toNat ≤ 16777216 ∧ Q (T (repT l k.toNat)) H
theorem foldl_cps (z : Array Nat) : ∀ (k : Nat) (acc : Array Nat), ((List.replicate k z).foldl (· ++ ·) acc).toList = acc.toList ++ (List.replicate k z.toList).flatten := by
  intro k
  induction k with
  | zero => intro acc; simp
  | succ k ih =>
    intro acc
    rw [List.replicate_succ, List.foldl_cons, ih, List.replicate_succ, List.flatten_cons]
    simp
theorem op_repT {X : Cx} : OpR X (binaryOp .Mult) rRepT := by
  intro pins s σ H x y v u Q I rx ry h
  obtain ⟨l, k, rfl, rfl, h1, h2, hl, q⟩ := h
  obtain ⟨t, rfl⟩ := rx
  obtain ⟨t', rfl⟩ := ry
  have e63 : (2 : Int) ^ 63 = 9223372036854775808 := by decide
  rw [e63] at h1 h2
  refine PySem.P.mul_str (by simp; omega) (fun a b => ?_) (fun a b => ?_) ?_
  · have hn : 1 ≤ k := by omega
    have hz : (S l).length ≠ 0 := by
      intro z
      rw [z] at b
      simp at b
    rw [S_len] at hz ⊢
    intro c
    have c2 : (9223372036854775807 : Int) / k < (l.length : Int) := by simpa [e63] using c
    have c3 := (Int.ediv_lt_iff_lt_mul (by omega : 0 < k)).mp c2
    have c4 : (l.length : Int) * k = ((l.length * k.toNat : Nat) : Int) := by
      rw [Int.natCast_mul]
      congr 1
      omega
    omega
  · unfold Builtin.Str.tooLong
    rw [S_len, big]
    simp
    omega
  · have e1 : (⟨(List.replicate k.toNat (S l).cps).foldl (· ++ ·) #[]⟩ : Str) = S (repT l k.toNat) := by
      refine ext_tl ?_
      show ((List.replicate k.toNat (S l).cps).foldl (· ++ ·) #[]).toList = repT l k.toNat
      rw [foldl_cps]
      simp [repT, S]
    have hlen : (repT l k.toNat).length ≤ 16777216 := by
      unfold repT
      rw [List.length_flatten]
      simp
      rw [Nat.mul_comm]
      exact hl
    by_cases c1 : k < 1
    · rw [if_pos c1]
      have e0 : k.toNat = 0 := by omega
      rw [e0] at q
      exact ⟨by decide, .str _, H, I.tok _, ⟨_, rfl⟩, q⟩
    · rw [if_neg c1]
      by_cases c2 : (k == 1 || (S l).length == 0) = true
      · rw [if_pos c2]
        have e2 : repT l k.toNat = l := by
          rcases (Bool.or_eq_true _ _).mp c2 with z | z
          · have z' : k = 1 := by simpa using z
            subst z'
            simp [repT]
          · have z' : l = [] := by simpa using z
            subst z'
            simp [repT]
        rw [e2] at q
        exact ⟨.str (S l), H, I, ⟨t, rfl⟩, q⟩
      · rw [if_neg c2, e1]
        exact ⟨by rw [S_len, big]; exact hlen, .str _, H, I.tok _, ⟨_, rfl⟩, q⟩
end RC

/-! What expressions over texts evaluate to; loops and comprehensions over texts. -/
namespace RD
open PySem PySem.Spec PyProof.Rows L2 Evl TL RC RA
section
variable {K : PySem.W.Frag} {σ : L2.St} {H H' : Hp} {ta tb te tx : TE} {t u : TT} {x y z v : V} {r : R2} {a b l : List Nat} {i j : Int}
theorem ev_s {x : Str} (l : List Nat) (h : x = S l) : Ev (tC (.str x)) σ H (T l) := by
  subst h
  exact ev_c
theorem ev_addT (ha : Ev ta σ H (T a)) (hb : Ev tb σ H (T b)) (hl : a.length + b.length ≤ 16777216) : Ev (tOp rAddT ta tb) σ H (T (a ++ b)) :=
  ev_op ha hb fun H1 _ Q q => ⟨a, b, rfl, rfl, hl, q H1 (Ex.refl H1)⟩
theorem ev_inT {c : Nat} (ha : Ev ta σ H (T [c])) (hb : Ev tb σ H (T b)) : Ev (tOp rInT ta tb) σ H (.bl (decide (c ∈ b))) :=
  ev_op ha hb fun H1 _ Q q => ⟨c, b, rfl, rfl, q H1 (Ex.refl H1)⟩
theorem ev_notInT {c : Nat} (ha : Ev ta σ H (T [c])) (hb : Ev tb σ H (T b)) : Ev (tOp rNotInT ta tb) σ H (.bl (!decide (c ∈ b))) :=
  ev_op ha hb fun H1 _ Q q => ⟨c, b, rfl, rfl, q H1 (Ex.refl H1)⟩
theorem ev_lenT (ha : Ev ta σ H (T a)) (hl : a.length ≤ 16777216) : Ev (tCB rLenT (tCons ta tNil)) σ H (.int (a.length : Int)) :=
  ev_cb (ea_cons ha ea_nil) fun H1 _ Q q => ⟨a, rfl, hl, q H1 (Ex.refl H1)⟩
theorem ev_lenL {p : Addr} {xs : List V} (ha : Ev ta σ H (.ref p)) (h : SqL K H p xs) : Ev (tCB (rLenL K) (tCons ta tNil)) σ H (.int (xs.length : Int)) :=
  ev_cb (ea_cons ha ea_nil) fun H1 e Q q => ⟨p, xs, rfl, .inl (ex_l e h), q H1 (Ex.refl H1)⟩
theorem ev_ixC (ha : Ev ta σ H (T a)) (hb : Ev tb σ H (.int i)) (hl : a.length ≤ 16777216) (h0 : 0 ≤ i) (h1 : i < a.length) : Ev (tOp rIxC ta tb) σ H (T [a.getD i.toNat 0]) :=
  ev_op ha hb fun H1 _ Q q => ⟨a, i, rfl, rfl, hl, h0, h1, q H1 (Ex.refl H1)⟩
theorem ev_repT (ha : Ev ta σ H (T a)) (hb : Ev tb σ H (.int i)) (h0 : 0 ≤ i) (h1 : i ≤ 16777216) (hl : a.length * i.toNat ≤ 16777216) : Ev (tOp rRepT ta tb) σ H (T (repT a i.toNat)) :=
  ev_op ha hb fun H1 _ Q q => ⟨a, i, rfl, rfl, by omega, by omega, hl, q H1 (Ex.refl H1)⟩
theorem ev_eqT (ha : Ev ta σ H (T a)) (hb : Ev tb σ H (T b)) : Ev (tOp rEq ta tb) σ H (.bl (decide (a = b))) := by
  rw [← dec_T]
  exact ev_op ha hb (rv_eq rfl)
theorem ev_neT (ha : Ev ta σ H (T a)) (hb : Ev tb σ H (T b)) : Ev (tOp rNe ta tb) σ H (.bl (!decide (a = b))) := by
  rw [← dec_T]
  exact ev_op ha hb (rv_ne rfl)
theorem ev_eqI (ha : Ev ta σ H (.int i)) (hb : Ev tb σ H (.int j)) : Ev (tOp rEq ta tb) σ H (.bl (decide (i = j))) := by
  have e : decide (V.int i = V.int j) = decide (i = j) := by simp
  rw [← e]
  exact ev_op ha hb (rv_eq rfl)
theorem ev_neI (ha : Ev ta σ H (.int i)) (hb : Ev tb σ H (.int j)) : Ev (tOp rNe ta tb) σ H (.bl (!decide (i = j))) := by
  have e : decide (V.int i = V.int j) = decide (i = j) := by simp
  rw [← e]
  exact ev_op ha hb (rv_ne rfl)
theorem ev_mul (ha : Ev ta σ H (.int i)) (hb : Ev tb σ H (.int j)) (h : CMul i j) : Ev (tOp (rI CMul fun i j => .int (i * j)) ta tb) σ H (.int (i * j)) := ev_op ha hb (rv_I h)
theorem ev_mod (ha : Ev ta σ H (.int i)) (hb : Ev tb σ H (.int j)) (h : 0 < j) : Ev (tOp (rI (fun _ j => 0 < j) fun i j => .int (i % j)) ta tb) σ H (.int (i % j)) := ev_op ha hb (rv_I h)
theorem ev_fdiv (ha : Ev ta σ H (.int i)) (hb : Ev tb σ H (.int j)) (h : CDiv i j) : Ev (tOp (rI CDiv fun i j => .int (i / j)) ta tb) σ H (.int (i / j)) := ev_op ha hb (rv_I h)
theorem ev_i0 {g : Int → Int → V} (ha : Ev ta σ H (.int i)) (hb : Ev tb σ H (.int j)) : Ev (tOp (rI0 g) ta tb) σ H (g i j) := ev_op ha hb rv_I0
/-- x is None -/
theorem ev_isN (ha : Ev ta σ H x) (hb : Ev tb σ H .non) : Ev (tOp (fun x y H Q => y = .non ∧ Q (.bl (decide (x = .non))) H) ta tb) σ H (.bl (decide (x = .non))) :=
  ev_op ha hb fun H1 _ Q q => ⟨rfl, q H1 (Ex.refl H1)⟩
theorem ev_notN (ha : Ev ta σ H x) (hb : Ev tb σ H .non) : Ev (tOp (fun x y H Q => y = .non ∧ Q (.bl (!decide (x = .non))) H) ta tb) σ H (.bl (!decide (x = .non))) :=
  ev_op ha hb fun H1 _ Q q => ⟨rfl, q H1 (Ex.refl H1)⟩
/-- a slice of a text -/
theorem ev_slT {tl th : TO} {lo hi : Option Int} (ha : Ev ta σ H (T a)) (h1 : EvO tl σ H lo) (h2 : EvO th σ H hi) (hl : a.length ≤ 16777216) : Ev (tSl rSlS ta tl th) σ H (.str (cutS (S a) lo hi)) := fun H1 e _ q =>
  ha H1 e _ fun H2 e2 => h1 H2 (e.trans e2) _ fun H3 e3 => h2 H3 ((e.trans e2).trans e3) _ fun H4 e4 =>
    ⟨S a, rfl, by rw [S_len, big]; exact hl, q H4 ((e2.trans e3).trans e4)⟩
theorem ev_slS {tl th : TO} {ts : TE} {lo hi : Option Int} {k : Int} (ha : Ev ta σ H (T a)) (h1 : EvO tl σ H lo) (h2 : EvO th σ H hi) (h3 : Ev ts σ H (.int k)) (hk : k ≠ 0) (hl : (stepS (S a) lo hi k).length ≤ 16777216) :
    Ev (tSlS ta tl th ts) σ H (.str (stepS (S a) lo hi k)) := fun H1 e _ q =>
  ha H1 e _ fun H2 e2 => h1 H2 (e.trans e2) _ fun H3 e3 => h2 H3 ((e.trans e2).trans e3) _ fun H4 e4 => h3 H4 (((e.trans e2).trans e3).trans e4) _ fun H5 e5 =>
    ⟨S a, k, rfl, rfl, hk, by rw [big]; exact hl, q H5 (((e2.trans e3).trans e4).trans e5)⟩

/-! ## loops -/
variable {D : Ends} {tu tz : TS} {g : TG}
theorem s_forStr {jx : Nat} (h : Ev te σ H (T l)) (Pv : Nat → L2.St → Hp → Prop) (h0 : ∀ H1, Ex H H1 → Pv 0 σ H1)
    (hs : ∀ (i : Nat) σ' H' (hi : i < l.length), Pv i σ' H' → tu { D with nx := Pv (i + 1), ct := Pv (i + 1), bk := D.nx } (σ'.set jx (some (T [l[i]]))) H')
    (hd : ∀ σ' H', Pv l.length σ' H' → D.nx σ' H') : (tFor (iStr te) (gName jx) tu) D σ H :=
  h H (Ex.refl H) _ fun H1 e => ⟨S l, rfl, for_it (walk_str (z := S l)) Pv (h0 H1 e) (fun _ _ _ _ _ => trivial) (fun i x σ' H2 H3 hi p y => by
    obtain ⟨rfl, c, hc, rfl⟩ := y
    have hi' : i < l.length := by simpa [S] using hi
    have e1 : c = l[i] := by
      have q : l[i]? = some c := by simpa [S] using hc
      rw [List.getElem?_eq_getElem hi'] at q
      exact (Option.some.inj q).symm
    subst e1
    exact hs i σ' _ hi' p) (fun σ' H2 p => hd σ' H2 (by simpa [S] using p))⟩
theorem q_forStr {jx : Nat} (h : Ev te σ H (T l)) (Pv : Nat → L2.St → Hp → Prop) (h0 : ∀ H1, Ex H H1 → Pv 0 σ H1)
    (hs : ∀ (i : Nat) σ' H' (hi : i < l.length), Pv i σ' H' → tu { D with nx := Pv (i + 1), ct := Pv (i + 1), bk := tz D } (σ'.set jx (some (T [l[i]]))) H')
    (hd : ∀ σ' H', Pv l.length σ' H' → tz D σ' H') : tSeq (tFor (iStr te) (gName jx) tu) tz D σ H :=
  s_forStr (D := { D with nx := tz D }) h Pv h0 hs hd
theorem walk_enumS {x : Str} : Walk (ItES x) x.cps.size (fun _ => True)
    (fun i H v H' => ∃ T c, v = .ref T ∧ H T = none ∧ H' = upd H T (.tup [.int (i : Nat), .str ⟨#[c]⟩]) ∧ x.cps[i]? = some c) where
  goes := fun i H h _ => h
  stops := fun H _ => Nat.le_refl _
  yields := fun i H v H' _ _ y => y
theorem s_forEnumS {jx jy : Nat} {ta : TA} (h : EvA ta σ H [T l]) (Pv : Nat → L2.St → Hp → Prop) (h0 : ∀ H1, Ex H H1 → Pv 0 σ H1)
    (hs : ∀ (i : Nat) σ' H' H2 (hi : i < l.length), Pv i σ' H' → Ex H' H2 → tu { D with nx := Pv (i + 1), ct := Pv (i + 1), bk := D.nx } ((σ'.set jx (some (.int (i : Int)))).set jy (some (T [l[i]]))) H2)
    (hd : ∀ σ' H', Pv l.length σ' H' → D.nx σ' H') : (tFor (iEnumS ta) (gTup K 2 (gCons (gName jx) (gCons (gName jy) gNil))) tu) D σ H :=
  h H (Ex.refl H) _ fun H1 e => ⟨S l, rfl, for_it (walk_enumS (x := S l)) Pv (h0 H1 e) (fun _ _ _ _ _ => trivial) (fun i x σ' H2 H3 hi p y => by
    obtain ⟨A, c, rfl, hn, rfl, hc⟩ := y
    have hi' : i < l.length := by simpa [S] using hi
    have e1 : c = l[i] := by
      have q : l[i]? = some c := by simpa [S] using hc
      rw [List.getElem?_eq_getElem hi'] at q
      exact (Option.some.inj q).symm
    subst e1
    exact ⟨A, _, rfl, SqT.of upd_same, rfl, _, _, rfl, _, _, rfl, rfl, hs i σ' H2 _ hi' p (Ex.new hn)⟩) (fun σ' H2 p => hd σ' H2 (by simpa [S] using p))⟩
theorem q_forEnumS {jx jy : Nat} {ta : TA} (h : EvA ta σ H [T l]) (Pv : Nat → L2.St → Hp → Prop) (h0 : ∀ H1, Ex H H1 → Pv 0 σ H1)
    (hs : ∀ (i : Nat) σ' H' H2 (hi : i < l.length), Pv i σ' H' → Ex H' H2 → tu { D with nx := Pv (i + 1), ct := Pv (i + 1), bk := tz D } ((σ'.set jx (some (.int (i : Int)))).set jy (some (T [l[i]]))) H2)
    (hd : ∀ σ' H', Pv l.length σ' H' → tz D σ' H') : tSeq (tFor (iEnumS ta) (gTup K 2 (gCons (gName jx) (gCons (gName jy) gNil))) tu) tz D σ H :=
  s_forEnumS (D := { D with nx := tz D }) h Pv h0 hs hd
/-- how many turns range(lo, hi, c) has, c positive -/
def rgN (i j c : Int) : Nat := if i < j then ((j - i - 1) / c + 1).toNat else 0
theorem rgC_pos {i j c : Int} (hi : 0 ≤ i) (hi' : i ≤ 16777216) (hj : 0 ≤ j) (hj' : j ≤ 16777216) (hc : 0 < c) (hc' : c ≤ 16777216) : RgC i j c (rgN i j c) := by
  have hq0 : i < j → 0 ≤ (j - i - 1) / c := fun h => Int.ediv_nonneg (by omega) (by omega)
  have hq1 : i < j → (j - i - 1) / c ≤ 16777216 := fun h => Int.le_trans (Int.ediv_le_self _ (by omega)) (by omega)
  refine ⟨by omega, by omega, ?_, ?_⟩
  · have e : Builtin.Range.rangeSize i j c = ((rgN i j c : Nat) : Int) := by
      unfold Builtin.Range.rangeSize rgN
      by_cases h : i < j
      · have := hq0 h
        rw [if_pos hc, if_pos h, if_pos h]
        omega
      · rw [if_pos hc, if_neg h, if_neg h]
        rfl
    have hn : (rgN i j c : Int) ≤ 16777217 := by
      unfold rgN
      by_cases h : i < j
      · have := hq0 h
        have := hq1 h
        rw [if_pos h]
        omega
      · rw [if_neg h]
        omega
    unfold Builtin.Range.small
    rw [e, if_pos hc]
    simp only [Builtin.Range.rangeFitsLong, Bool.and_eq_true, Bool.or_eq_true, decide_eq_true_eq, beq_iff_eq]
    omega
  · unfold Builtin.Range.rangeSize rgN
    by_cases h : i < j
    · have := hq0 h
      rw [if_pos hc, if_pos h, if_pos h]
      omega
    · rw [if_pos hc, if_neg h, if_neg h]
      rfl

theorem s_forR3 {jx : Nat} {ta : TA} {lo hi c : Int} (h : EvA ta σ H [.int lo, .int hi, .int c]) (b0 : 0 ≤ lo) (b1 : lo ≤ 16777216) (b2 : 0 ≤ hi) (b3 : hi ≤ 16777216) (b4 : 0 < c) (b5 : c ≤ 16777216)
    (Pv : Nat → L2.St → Hp → Prop) (h0 : ∀ H1, Ex H H1 → Pv 0 σ H1)
    (hs : ∀ (i : Nat) σ' H', i < rgN lo hi c → Pv i σ' H' → tu { D with nx := Pv (i + 1), ct := Pv (i + 1), bk := D.nx } (σ'.set jx (some (.int (lo + (i : Int) * c)))) H')
    (hd : ∀ σ' H', Pv (rgN lo hi c) σ' H' → D.nx σ' H') : tFor (iRng3 ta) (gName jx) tu D σ H :=
  h H (Ex.refl H) _ fun H1 e => ⟨lo, hi, c, rgN lo hi c, rfl, rgC_pos b0 b1 b2 b3 b4 b5, for_it walk_rangeC Pv (h0 H1 e) (fun _ _ _ _ _ => trivial) (fun i x σ' H2 H3 hi p y => by
    obtain ⟨rfl, rfl⟩ := y
    exact hs i σ' _ hi p) hd⟩
theorem q_forR3 {jx : Nat} {ta : TA} {lo hi c : Int} (h : EvA ta σ H [.int lo, .int hi, .int c]) (b0 : 0 ≤ lo) (b1 : lo ≤ 16777216) (b2 : 0 ≤ hi) (b3 : hi ≤ 16777216) (b4 : 0 < c) (b5 : c ≤ 16777216)
    (Pv : Nat → L2.St → Hp → Prop) (h0 : ∀ H1, Ex H H1 → Pv 0 σ H1)
    (hs : ∀ (i : Nat) σ' H', i < rgN lo hi c → Pv i σ' H' → tu { D with nx := Pv (i + 1), ct := Pv (i + 1), bk := tz D } (σ'.set jx (some (.int (lo + (i : Int) * c)))) H')
    (hd : ∀ σ' H', Pv (rgN lo hi c) σ' H' → tz D σ' H') : tSeq (tFor (iRng3 ta) (gName jx) tu) tz D σ H :=
  s_forR3 (D := { D with nx := tz D }) h b0 b1 b2 b3 b4 b5 Pv h0 hs hd

/-! ## comprehensions -/
theorem given_map {α : Type} (xs : List α) (d : α) (p : α → Bool) (f : α → V) : given xs.length (fun i => p (xs.getD i d)) (fun i => f (xs.getD i d)) = (xs.filter p).map f := by
  unfold given
  have e : xs = (List.range xs.length).map (fun i => xs.getD i d) := by
    apply List.ext_getElem
    · simp
    · intro i h1 h2
      simp [List.getD, h1]
  have q : (xs.filter p).map f = (((List.range xs.length).map (fun i => xs.getD i d)).filter p).map f := by rw [← e]
  rw [q, List.filter_map, List.map_map]
  rfl
variable {vs : List Nat} {tt : TT}
/-- a turn, of so many more -/
theorem cw_turnB {H H' : Hp} {f : Nat → Bool} {v : Nat → V} {Dl : Addr} {i : Nat} {σ2 : L2.St} (p : Cw H f v Dl i H') (hi : i < 1000000) (ht : EvT tt σ2 H (f i)) (he : f i = true → Ev tx σ2 H (v i)) :
    tt σ2 H' fun b H3 => if b = true then tx σ2 H3 fun y H4 => ∃ acc, H4 Dl = some (.lst acc) ∧ acc.length < sizeLine ∧ Cw H f v Dl (i + 1) (upd H4 Dl (.lst (acc ++ [y]))) else Cw H f v Dl (i + 1) H3 := by
  obtain ⟨p1, p2, p3⟩ := p
  refine ht H' p2 _ fun H3 e3 => ?_
  cases hf : f i with
  | true =>
    show tx σ2 H3 fun y H4 => ∃ acc, H4 Dl = some (.lst acc) ∧ acc.length < sizeLine ∧ Cw H f v Dl (i + 1) (upd H4 Dl (.lst (acc ++ [y])))
    refine he hf H3 (p2.trans e3) _ fun H4 e4 => ⟨given i f v, e4 Dl _ (e3 Dl _ p3), by rw [big]; have := given_len i f v; omega, p1, Ex.mut ((p2.trans e3).trans e4) p1, ?_⟩
    rw [given_yes hf]
    exact upd_same
  | false =>
    show Cw H f v Dl (i + 1) H3
    refine ⟨p1, p2.trans e3, ?_⟩
    rw [given_no hf]
    exact e3 Dl _ p3
theorem el_lcStr {jx : Nat} (p : Nat → Bool) (f : Nat → V) (h : Ev te σ H (T l)) (hz : l.length ≤ 400000) (hw : ∀ x, wipe ((wipe σ vs).set jx (some x)) vs = wipe σ vs)
    (ht : ∀ c H1, Ex H H1 → c ∈ l → EvT tt ((wipe σ vs).set jx (some (T [c]))) H1 (p c)) (he : ∀ c H1, Ex H H1 → c ∈ l → p c = true → Ev tx ((wipe σ vs).set jx (some (T [c]))) H1 (f c)) :
    EvL (tLc (iStr te) (gName jx) tt tx vs) σ H ((l.filter p).map f) := by
  rw [← given_map l 0 p f]
  exact fun H0 e Q q => h H0 e _ fun H1 ee => ⟨S l, rfl, fun Dl hD => lc_it (walk_str (z := S l)) (Cw H1 (fun i => p (l.getD i 0)) (fun i => f (l.getD i 0)) Dl) ⟨hD, Ex.new hD, upd_same⟩ (fun _ _ _ _ => trivial)
    (fun i x H2 H3 hi pv y => by
      obtain ⟨rfl, c, hc, rfl⟩ := y
      have hi' : i < l.length := by simpa [S] using hi
      have e1 : l.getD i 0 = c := by
        have q : l[i]? = some c := by simpa [S] using hc
        simp [List.getD, q]
      have hm : c ∈ l := by
        have q : l[i]? = some c := by simpa [S] using hc
        exact List.mem_of_getElem? q
      refine ⟨hw _, cw_turnB pv (by omega) ?_ ?_⟩
      · show EvT tt _ H1 (p (l.getD i 0))
        rw [e1]
        exact ht c H1 (e.trans ee) hm
      · intro hp
        show Ev tx _ H1 (f (l.getD i 0))
        rw [e1] at hp ⊢
        exact he c H1 (e.trans ee) hm hp) (fun H2 pv => q Dl H2 (fresh_back ee pv.1) (ee.trans pv.2.1) (by have := pv.2.2; simpa [S] using this))⟩
theorem el_lcEnumS {jx jy : Nat} {ta : TA} (p : Nat → Nat → Bool) (f : Nat → Nat → V) (h : EvA ta σ H [T l]) (hz : l.length ≤ 40000)
    (hw : ∀ x y, wipe (((wipe σ vs).set jx (some x)).set jy (some y)) vs = wipe σ vs)
    (ht : ∀ (i : Nat) c H1, Ex H H1 → l[i]? = some c → EvT tt (((wipe σ vs).set jx (some (.int (i : Int)))).set jy (some (T [c]))) H1 (p i c))
    (he : ∀ (i : Nat) c H1, Ex H H1 → l[i]? = some c → p i c = true → Ev tx (((wipe σ vs).set jx (some (.int (i : Int)))).set jy (some (T [c]))) H1 (f i c)) :
    EvL (tLc (iEnumS ta) (gTup K 2 (gCons (gName jx) (gCons (gName jy) gNil))) tt tx vs) σ H (given l.length (fun i => p i (l.getD i 0)) (fun i => f i (l.getD i 0))) := by
  exact fun H0 e Q q => h H0 e _ fun H1 ee => ⟨S l, rfl, fun Dl hD => lc_it (walk_enumS (x := S l)) (Cw H1 (fun i => p i (l.getD i 0)) (fun i => f i (l.getD i 0)) Dl) ⟨hD, Ex.new hD, upd_same⟩ (fun _ _ _ _ => trivial)
    (fun i x H2 H3 hi pv y => by
      obtain ⟨A, c, rfl, hn, rfl, hc⟩ := y
      have hi' : i < l.length := by simpa [S] using hi
      have hc' : l[i]? = some c := by simpa [S] using hc
      have e1 : l.getD i 0 = c := by simp [List.getD, hc']
      have hAD : Dl ≠ A := ne_of_none pv.2.2 hn
      have pv' : Cw H1 (fun i => p i (l.getD i 0)) (fun i => f i (l.getD i 0)) Dl i (upd H2 A (.tup [.int (i : Nat), .str ⟨#[c]⟩])) := ⟨pv.1, pv.2.1.trans (Ex.new hn), by rw [upd_ne hAD]; exact pv.2.2⟩
      refine ⟨A, _, rfl, SqT.of upd_same, rfl, _, _, rfl, _, _, rfl, rfl, hw _ _, cw_turn pv' (by omega) ?_ ?_⟩
      · show EvT tt _ H1 (p i (l.getD i 0))
        rw [e1]
        exact ht i c H1 (e.trans ee) hc'
      · intro hp
        show Ev tx _ H1 (f i (l.getD i 0))
        rw [e1] at hp ⊢
        exact he i c H1 (e.trans ee) hc' hp) (fun H2 pv => q Dl H2 (fresh_back ee pv.1) (ee.trans pv.2.1) (by have := pv.2.2; simpa [S] using this))⟩
/-- over a list of known items -/
theorem el_lcV {a : Addr} {xs : List V} {jx : Nat} (p : V → Bool) (f : V → V) (h : Ev te σ H (.ref a)) (hx : SqL K H a xs) (hz : xs.length ≤ 40000) (hw : ∀ x, wipe ((wipe σ vs).set jx (some x)) vs = wipe σ vs)
    (ht : ∀ x H1, Ex H H1 → x ∈ xs → EvT tt ((wipe σ vs).set jx (some x)) H1 (p x)) (he : ∀ x H1, Ex H H1 → x ∈ xs → p x = true → Ev tx ((wipe σ vs).set jx (some x)) H1 (f x)) :
    EvL (tLc (iList K te) (gName jx) tt tx vs) σ H ((xs.filter p).map f) := by
  rw [← given_map xs .non p f]
  refine el_lcL _ _ h hx hz hw (fun i x H1 e hi => ?_) (fun i x H1 e hi hp => ?_)
  · have e1 : xs.getD i .non = x := by simp [List.getD, hi]
    rw [e1]
    exact ht x H1 e (List.mem_of_getElem? hi)
  · have e1 : xs.getD i .non = x := by simp [List.getD, hi]
    rw [e1] at hp ⊢
    exact he x H1 e (List.mem_of_getElem? hi) hp
/-- over a new list -/
theorem el_lcVN {xs : List V} {jx : Nat} (p : V → Bool) (f : V → V) (h : EvL te σ H xs) (hz : xs.length ≤ 40000) (hw : ∀ x, wipe ((wipe σ vs).set jx (some x)) vs = wipe σ vs)
    (ht : ∀ x H1, Ex H H1 → x ∈ xs → EvT tt ((wipe σ vs).set jx (some x)) H1 (p x)) (he : ∀ x H1, Ex H H1 → x ∈ xs → p x = true → Ev tx ((wipe σ vs).set jx (some x)) H1 (f x)) :
    EvL (tLc (iList K te) (gName jx) tt tx vs) σ H ((xs.filter p).map f) := by
  rw [← given_map xs .non p f]
  refine el_lcNL _ _ h hz hw (fun i x H1 e hi => ?_) (fun i x H1 e hi hp => ?_)
  · have e1 : xs.getD i .non = x := by simp [List.getD, hi]
    rw [e1]
    exact ht x H1 e (List.mem_of_getElem? hi)
  · have e1 : xs.getD i .non = x := by simp [List.getD, hi]
    rw [e1] at hp ⊢
    exact he x H1 e (List.mem_of_getElem? hi) hp
/-- over range(lo, hi) -/
theorem el_lcR2 {ta : TA} {jx : Nat} {lo hi : Int} (p : Nat → Bool) (f : Nat → V) (h : EvA ta σ H [.int lo, .int hi]) (b0 : 0 ≤ lo) (b1 : lo ≤ 16777216) (b2 : 0 ≤ hi) (b3 : hi ≤ 16777216) (hn : hi - lo ≤ 40000) (hw : ∀ x, wipe ((wipe σ vs).set jx (some x)) vs = wipe σ vs)
    (ht : ∀ (i : Nat) H1, Ex H H1 → lo + (i : Int) < hi → EvT tt ((wipe σ vs).set jx (some (.int (lo + (i : Int))))) H1 (p i))
    (he : ∀ (i : Nat) H1, Ex H H1 → lo + (i : Int) < hi → p i = true → Ev tx ((wipe σ vs).set jx (some (.int (lo + (i : Int))))) H1 (f i)) :
    EvL (tLc (iRng2 ta) (gName jx) tt tx vs) σ H (given (hi - lo).toNat p f) := fun H0 e Q q => h H0 e _ fun H1 e1 => ⟨lo, hi, rfl, ⟨by omega, by omega, by omega, by omega⟩, fun Dl hD =>
  lc_range (lo := lo) (n := (hi - lo).toNat) (Cw H1 p f Dl) ⟨hD, Ex.new hD, upd_same⟩ (fun i H' hi' pv =>
    ⟨hw _, cw_turn pv (by omega) (ht i H1 (e.trans e1) (by omega)) (fun hf => he i H1 (e.trans e1) (by omega) hf)⟩) (fun H' pv => q Dl H' (fresh_back e1 pv.1) (e1.trans pv.2.1) pv.2.2)⟩
theorem et_yes : EvT tYes σ H true := fun H1 _ _ q => q H1 (Ex.refl H1)
end
end RD

/-! Built-ins by name; kinds; lists compared, joined, put together; sorted(set(..)). -/
namespace RE
open PySem PySem.Spec PyProof.Rows L2 Evl TL RC RA RD

theorem bt_len : bootBuiltins "len" = some (.builtin "len") := by decide +kernel
theorem bt_isinstance : bootBuiltins "isinstance" = some (.builtin "isinstance") := by decide +kernel
theorem bt_min : bootBuiltins "min" = some (.builtin "min") := by decide +kernel
theorem bt_max : bootBuiltins "max" = some (.builtin "max") := by decide +kernel
theorem bt_sum : bootBuiltins "sum" = some (.builtin "sum") := by decide +kernel
theorem bt_all : bootBuiltins "all" = some (.builtin "all") := by decide +kernel
theorem bt_any : bootBuiltins "any" = some (.builtin "any") := by decide +kernel
theorem bt_abs : bootBuiltins "abs" = some (.builtin "abs") := by decide +kernel
theorem bt_repr : bootBuiltins "repr" = some (.builtin "repr") := by decide +kernel
theorem bt_sorted : bootBuiltins "sorted" = some (.builtin "sorted") := by decide +kernel
theorem bt_divmod : bootBuiltins "divmod" = some (.builtin "divmod") := by decide +kernel
theorem bt_set : bootBuiltins "set" = some (.type "set") := by decide +kernel
theorem bt_list : bootBuiltins "list" = some (.type "list") := by decide +kernel
theorem bt_tuple : bootBuiltins "tuple" = some (.type "tuple") := by decide +kernel
theorem bt_dict : bootBuiltins "dict" = some (.type "dict") := by decide +kernel
theorem bt_str : bootBuiltins "str" = some (.type "str") := by decide +kernel
theorem bt_int : bootBuiltins "int" = some (.type "int") := by decide +kernel
theorem bt_bool : bootBuiltins "bool" = some (.type "bool") := by decide +kernel
theorem bt_range : bootBuiltins "range" = some (.type "range") := by decide +kernel

section
variable {X : Cx}
theorem ip_addT : PIp X .Add rAddT := fun pins s σ H x y v u Q I rx ry h => by
  obtain ⟨a, b, ha, hb, hl, q⟩ := h
  exact iop_add_str pins s σ H x y v u Q I rx ry ⟨S a, S b, ha, hb, by rw [S_len, S_len, big]; exact hl, by rw [S_append]; exact q⟩
end

section
variable {K : PySem.W.Frag} {σ : L2.St} {H H' : Hp} {ta tb te tx : TE} {t u : TT} {x y z v : V} {r : R2} {a b l : List Nat} {i j : Int} {D : Ends} {tu tz : TS}
theorem s_augT {k : Nat} (hx : σ[k]? = some (some (T a))) (h : Ev te σ H (T b)) (hl : a.length + b.length ≤ 16777216) (kk : ∀ H1, Ex H H1 → D.nx (σ.set k (some (T (a ++ b)))) H1) : tAug k te rAddT D σ H :=
  ⟨T a, hx, h H (Ex.refl H) _ fun H1 e => ⟨a, b, rfl, rfl, hl, kk H1 e⟩⟩
theorem q_augT {k : Nat} (hx : σ[k]? = some (some (T a))) (h : Ev te σ H (T b)) (hl : a.length + b.length ≤ 16777216) (kk : ∀ H1, Ex H H1 → tz D (σ.set k (some (T (a ++ b)))) H1) : tSeq (tAug k te rAddT) tz D σ H :=
  s_augT (D := { D with nx := tz D }) hx h hl kk

/-! ### isinstance(x, C), C built in -/
theorem ev_isi {t : Value} {n : String} {c : Bool} (ha : Ev te σ H x) (ht : ∀ H1, Ex H H1 → TyX K H1 x t) (hk : PySem.W.kitOne K t (.type n) = some c) :
    Ev (tCB (rIsi K) (tCons te (tCons (tC (.ty n)) tNil))) σ H (.bl c) :=
  ev_cb (ea_cons ha (ea_cons ev_c ea_nil)) fun H1 e Q q => ⟨x, .ty n, t, .type n, c, rfl, .ty n, ht H1 e, hk, q H1 (Ex.refl H1)⟩
theorem ev_isiT (ha : Ev te σ H (T l)) : Ev (tCB (rIsi K) (tCons te (tCons (tC (.ty "str")) tNil))) σ H (.bl true) := ev_isi ha (fun _ _ => .base (.str _)) (L2.kit_ty (by decide +kernel))
theorem ev_isiI (ha : Ev te σ H (.int i)) : Ev (tCB (rIsi K) (tCons te (tCons (tC (.ty "int")) tNil))) σ H (.bl true) := ev_isi ha (fun _ _ => .base (.int _)) (L2.kit_ty (by decide +kernel))
theorem ev_isiIb (ha : Ev te σ H (.int i)) : Ev (tCB (rIsi K) (tCons te (tCons (tC (.ty "bool")) tNil))) σ H (.bl false) := ev_isi ha (fun _ _ => .base (.int _)) (L2.kit_ty (by decide +kernel))
theorem ev_isiL {p : Addr} {xs : List V} (ha : Ev te σ H (.ref p)) (hp : H p = some (.lst xs)) : Ev (tCB (rIsi K) (tCons te (tCons (tC (.ty "list")) tNil))) σ H (.bl true) :=
  ev_isi ha (fun H1 e => .base (.lst (e p _ hp))) (L2.kit_ty (by decide +kernel))

/-! ### lists of data compared -/
theorem dpAll_strs {H : Hp} : ∀ xs : List Str, DpAll K H (xs.map V.str) (xs.map PyData.str)
  | [] => .nil
  | x :: r => .cons (.str x) (dpAll_strs r)
theorem canLay_strs : ∀ xs : List Str, (∀ x ∈ xs, PyData.strOk x = true) → PyData.canLayAll0 (xs.map PyData.str) = true
  | [], _ => rfl
  | x :: r, h => by
    have h1 := canLay_strs r fun y hy => h y (List.mem_cons_of_mem _ hy)
    have h2 := h x List.mem_cons_self
    simp [PyData.canLayAll0, PyData.canLay0, h1, h2]
theorem depth_strs : ∀ xs : List Str, PyData.depthAll (xs.map PyData.str) ≤ 1
  | [] => by simp [PyData.depthAll]
  | x :: r => by
    have := depth_strs r
    simp [PyData.depthAll, PyData.depth]
    omega
theorem shaped_strs {xs : List Str} (h : ∀ x ∈ xs, PyData.strOk x = true) : SeqAt.shaped (.list (xs.map PyData.str)) = true := by
  unfold SeqAt.shaped
  rw [Bool.and_eq_true]
  refine ⟨by simp [PyData.canLay0, canLay_strs xs h], decide_eq_true ?_⟩
  have := depth_strs xs
  simp [PyData.depth]
  omega
theorem eqv_strs : ∀ xs ys : List Str, PyData.eqvAll (xs.map PyData.str) (ys.map PyData.str) = decide (xs = ys)
  | [], [] => by simp [PyData.eqvAll]
  | [], _ :: _ => by simp [PyData.eqvAll]
  | _ :: _, [] => by simp [PyData.eqvAll]
  | x :: r, y :: t => by
    simp only [List.map_cons, PyData.eqvAll, PyData.eqv, eqv_strs r t, List.cons.injEq]
    by_cases e : x = y <;> simp [e]
theorem strOk_S {l : List Nat} (h : ∀ c ∈ l, c < 1114112) : PyData.strOk (S l) = true := by
  unfold PyData.strOk S
  rw [List.all_toArray, List.all_eq_true]
  exact fun c hc => decide_eq_true (h c hc)
/-- two lists of texts -/
theorem rv_eqD {p q : Addr} {xs ys : List Str} (hp : SqL K H p (xs.map V.str)) (hq : SqL K H q (ys.map V.str)) (h1 : ∀ x ∈ xs, PyData.strOk x = true) (h2 : ∀ x ∈ ys, PyData.strOk x = true) :
    RV (rEqD K) (.ref p) (.ref q) H (.bl (decide (xs = ys))) := fun H1 e Q k =>
  ⟨_, _, .lst (ex_l e hp) (dpAll_strs xs), .lst (ex_l e hq) (dpAll_strs ys), shaped_strs h1, shaped_strs h2, by
    have e2 : PyData.eqv (.list (xs.map PyData.str)) (.list (ys.map PyData.str)) = decide (xs = ys) := by
      rw [PyData.eqv]
      exact eqv_strs xs ys
    rw [e2]
    exact k H1 (Ex.refl H1)⟩
theorem rv_neD {p q : Addr} {xs ys : List Str} (hp : SqL K H p (xs.map V.str)) (hq : SqL K H q (ys.map V.str)) (h1 : ∀ x ∈ xs, PyData.strOk x = true) (h2 : ∀ x ∈ ys, PyData.strOk x = true) :
    RV (rNeD K) (.ref p) (.ref q) H (.bl (!decide (xs = ys))) := fun H1 e Q k =>
  ⟨_, _, .lst (ex_l e hp) (dpAll_strs xs), .lst (ex_l e hq) (dpAll_strs ys), shaped_strs h1, shaped_strs h2, by
    have e2 : PyData.eqv (.list (xs.map PyData.str)) (.list (ys.map PyData.str)) = decide (xs = ys) := by
      rw [PyData.eqv]
      exact eqv_strs xs ys
    rw [e2]
    exact k H1 (Ex.refl H1)⟩
/-- a known list held against a new one -/
theorem ev_opKL {p : Addr} {ys : List V} (ha : Ev ta σ H (.ref p)) (hb : EvL tb σ H ys) (hr : ∀ q H1, H1 q = some (.lst ys) → Ex H H1 → RV r (.ref p) (.ref q) H1 z) : Ev (tOp r ta tb) σ H z := ev_opL ha hb hr
theorem el_nil : EvL (tLst tNil) σ H [] := el_lst ea_nil (Nat.zero_le _)

/-! ### "".join(xs) -/
def rJoin (K : PySem.W.Frag) : V → List V → Hp → VK → Prop := fun x xs H Q => ∃ a p, ∃ ys : List Str, x = .str a ∧ xs = [.ref p] ∧ (SqL K H p (ys.map V.str) ∨ SqT K H p (ys.map V.str)) ∧
    (ys.map (·.length)).sum + ys.length * a.length ≤ 16777216 ∧ Q (.str (Txt.join a ys)) H
theorem joinL_nil : ∀ ys : List (List Nat), joinL [] ys = ys.flatten
  | [] => rfl
  | [p] => by simp [joinL]
  | p :: q :: r => by
    have := joinL_nil (q :: r)
    simp only [joinL, List.nil_append, this, List.flatten_cons]
theorem join_nil (ys : List (List Nat)) : Txt.join (S []) (ys.map S) = S ys.flatten := by
  rw [join_eq]
  refine ext_tl ?_
  rw [tl_join, List.map_map]
  have e : List.map (tl ∘ S) ys = ys := by
    induction ys with
    | nil => rfl
    | cons p r ih => rw [List.map_cons, ih]; rfl
  rw [e]
  exact joinL_nil ys
theorem sum_lens (ys : List (List Nat)) : ((ys.map S).map (·.length)).sum = ys.flatten.length := by
  rw [List.length_flatten, List.map_map]
  congr 1
theorem ev_join {x0 : Str} {ys : List (List Nat)} (hx : x0 = S []) (h : EvL te σ H (ys.map T)) (hl : ys.flatten.length ≤ 16777216) : Ev (tM1 (rJoin K) (tC (.str x0)) te) σ H (T ys.flatten) := by
  subst hx
  exact fun H1 e Q q => ⟨⟨_, rfl⟩, h H1 e _ fun p H2 _ e2 hp => ⟨S [], p, ys.map S, rfl, rfl, .inl (SqL.of (by rw [hp, List.map_map]; rfl)), by rw [sum_lens, S_len, List.length_nil, Nat.mul_zero]; exact hl, by rw [join_nil]; exact q H2 e2⟩⟩
theorem ev_joinL {x0 : Str} {p : Addr} {ys : List (List Nat)} (hx : x0 = S []) (h : Ev te σ H (.ref p)) (hp : SqL K H p (ys.map T)) (hl : ys.flatten.length ≤ 16777216) : Ev (tM1 (rJoin K) (tC (.str x0)) te) σ H (T ys.flatten) := by
  subst hx
  exact fun H1 e Q q => ⟨⟨_, rfl⟩, h H1 e _ fun H2 e2 => ⟨S [], p, ys.map S, rfl, rfl, .inl (by rw [List.map_map]; exact ex_l (e.trans e2) hp), by rw [sum_lens, S_len, List.length_nil, Nat.mul_zero]; exact hl, by rw [join_nil]; exact q H2 e2⟩⟩
/-! ### xs * k, xs + ys -/
theorem el_rep {xs : List V} (h : EvL ta σ H xs) (hb : ∀ H1, Ex H H1 → Ev tb σ H1 (.int i)) (h0 : 0 ≤ i) (h1 : i ≤ 16777216) (hl : xs.length * i.toNat ≤ 16777216) : EvL (tOp rRep ta tb) σ H (List.replicate i.toNat xs).flatten := fun H1 e Q q =>
  h H1 e _ fun p H2 _ e2 hp => hb H2 (e.trans e2) H2 (Ex.refl H2) _ fun H3 e3 => ⟨p, i, xs, rfl, rfl, e3 p _ hp, by omega, by omega, by rw [big]; exact hl, fun m hm => q m _ (fresh_back (e2.trans e3) hm) ((e2.trans e3).trans (Ex.new hm)) upd_same⟩
theorem el_cat {xs ys : List V} (h : EvL ta σ H xs) (hb : EvL tb σ H ys) (hl : xs.length + ys.length ≤ 16777216) : EvL (tOp rCat ta tb) σ H (xs ++ ys) := fun H1 e Q q =>
  h H1 e _ fun p H2 _ e2 hp => hb H2 (e.trans e2) _ fun m H3 _ e3 hm => ⟨p, m, xs, ys, rfl, rfl, e3 p _ hp, hm, by rw [big]; exact hl, fun n hn => q n _ (fresh_back (e2.trans e3) hn) ((e2.trans e3).trans (Ex.new hn)) upd_same⟩
/-! ### sorted(set(xs)) -/
/-- a new list of those texts, each once, sorted -/
def EvSet (te : TE) (σ : L2.St) (H : Hp) (xs : List Str) : Prop := ∀ H1, Ex H H1 → ∀ Q : VK, (∀ (ys : List Str) p H2, ys.Perm (RB.metT xs) → sortedS ys = true → H1 p = none → Ex H1 H2 → H2 p = some (.lst (ys.map V.str)) → Q (.ref p) H2) → te σ H1 Q
theorem es_sortedSet {w : World} {xs : List Str} (h : EvL te σ H (xs.map V.str)) (h1 : xs.length < 4000) (h2 : (RB.metT xs).length < 64) : EvSet (tCB (RB.rSortedO w) (tCons (tCB (RB.rSet K w) (tCons te tNil)) tNil)) σ H xs := fun H1 e Q q =>
  h H1 e _ fun p H2 _ e2 hp => ⟨p, xs, rfl, SqL.of hp, by unfold scanBound; omega, fun s hs => ⟨s, RB.metT xs, rfl, upd_same, h2, fun ys m pm so hm => by
    have ha : Ex H1 (upd H2 s (RB.SetO w s (RB.metT xs))) := e2.trans (Ex.new hs)
    exact q ys m _ pm so (fresh_back ha hm) (ha.trans (Ex.new hm)) upd_same⟩⟩
/-! ### repr of an int, as a text -/
theorem ev_reprI (ha : Ev te σ H (.int i)) (hi : i.natAbs.log2 < 1920) : Ev (tCB (fun xs H Q => ∃ i, xs = [.int i] ∧ i.natAbs.log2 < 1920 ∧ Q (.str (toString i)) H) (tCons te tNil)) σ H (.str (toString i)) :=
  ev_cb (ea_cons ha ea_nil) fun H1 _ Q q => ⟨i, rfl, hi, q H1 (Ex.refl H1)⟩

/-! ### lists of texts, by codes -/
theorem el_to {xs ys : List V} (h : EvL te σ H xs) (e : xs = ys) : EvL te σ H ys := e ▸ h
theorem map_T (ys : List (List Nat)) : ys.map T = (ys.map S).map V.str := by
  rw [List.map_map]
  rfl
theorem map_S_inj : ∀ {ys zs : List (List Nat)}, ys.map S = zs.map S → ys = zs
  | [], [], _ => rfl
  | [], _ :: _, h => by cases h
  | _ :: _, [], h => by cases h
  | y :: r, z :: t, h => by
    rw [List.map_cons, List.map_cons, List.cons.injEq] at h
    rw [S_inj.mp h.1, map_S_inj h.2]
theorem dec_mapS (ys zs : List (List Nat)) : decide (ys.map S = zs.map S) = decide (ys = zs) := by
  by_cases e : ys = zs
  · subst e
    simp
  · rw [decide_eq_false e, decide_eq_false fun q => e (map_S_inj q)]
theorem rv_neDT {p q : Addr} {ys zs : List (List Nat)} (hp : SqL K H p (ys.map T)) (hq : SqL K H q (zs.map T)) (h1 : ∀ y ∈ ys, ∀ c ∈ y, c < 1114112) (h2 : ∀ y ∈ zs, ∀ c ∈ y, c < 1114112) :
    RV (rNeD K) (.ref p) (.ref q) H (.bl (!decide (ys = zs))) := by
  rw [← dec_mapS]
  rw [map_T] at hp hq
  refine rv_neD hp hq (fun x hx => ?_) (fun x hx => ?_)
  · obtain ⟨y, hy, rfl⟩ := List.mem_map.mp hx
    exact strOk_S (h1 y hy)
  · obtain ⟨y, hy, rfl⟩ := List.mem_map.mp hx
    exact strOk_S (h2 y hy)
theorem rv_eqDT {p q : Addr} {ys zs : List (List Nat)} (hp : SqL K H p (ys.map T)) (hq : SqL K H q (zs.map T)) (h1 : ∀ y ∈ ys, ∀ c ∈ y, c < 1114112) (h2 : ∀ y ∈ zs, ∀ c ∈ y, c < 1114112) :
    RV (rEqD K) (.ref p) (.ref q) H (.bl (decide (ys = zs))) := by
  rw [← dec_mapS]
  rw [map_T] at hp hq
  refine rv_eqD hp hq (fun x hx => ?_) (fun x hx => ?_)
  · obtain ⟨y, hy, rfl⟩ := List.mem_map.mp hx
    exact strOk_S (h1 y hy)
  · obtain ⟨y, hy, rfl⟩ := List.mem_map.mp hx
    exact strOk_S (h2 y hy)
theorem ev_neLL {ys zs : List (List Nat)} (ha : EvL ta σ H (ys.map T)) (hb : EvL tb σ H (zs.map T)) (h1 : ∀ y ∈ ys, ∀ c ∈ y, c < 1114112) (h2 : ∀ y ∈ zs, ∀ c ∈ y, c < 1114112) :
    Ev (tOp (rNeD K) ta tb) σ H (.bl (!decide (ys = zs))) := ev_opLL ha hb fun p q H1 hp hq _ => rv_neDT (SqL.of hp) (SqL.of hq) h1 h2
theorem ev_neKL {p : Addr} {ys zs : List (List Nat)} (ha : Ev ta σ H (.ref p)) (hp : SqL K H p (ys.map T)) (hb : EvL tb σ H (zs.map T)) (h1 : ∀ y ∈ ys, ∀ c ∈ y, c < 1114112) (h2 : ∀ y ∈ zs, ∀ c ∈ y, c < 1114112) :
    Ev (tOp (rNeD K) ta tb) σ H (.bl (!decide (ys = zs))) := ev_opL ha hb fun q H1 hq e => rv_neDT (ex_l e hp) (SqL.of hq) h1 h2
theorem ev_eqKL {p : Addr} {ys zs : List (List Nat)} (ha : Ev ta σ H (.ref p)) (hp : SqL K H p (ys.map T)) (hb : EvL tb σ H (zs.map T)) (h1 : ∀ y ∈ ys, ∀ c ∈ y, c < 1114112) (h2 : ∀ y ∈ zs, ∀ c ∈ y, c < 1114112) :
    Ev (tOp (rEqD K) ta tb) σ H (.bl (decide (ys = zs))) := ev_opL ha hb fun q H1 hq e => rv_eqDT (ex_l e hp) (SqL.of hq) h1 h2
/-! ### slices with a step -/
def stepL (l : List Nat) (p k : Nat) : List Nat := (List.range (rgN p l.length k)).map fun j => l.getD (p + j * k) 0
theorem rgN_lt {p n k j : Nat} (hk : 0 < k) (hj : j < rgN p n k) : p + j * k < n := by
  unfold rgN at hj
  by_cases h : (p : Int) < (n : Int)
  · rw [if_pos h] at hj
    have h1 : (j : Int) ≤ ((n : Int) - p - 1) / k := by omega
    have h2 := (Int.le_ediv_iff_mul_le (by omega : (0 : Int) < (k : Int))).mp h1
    have h3 : ((j * k : Nat) : Int) = (j : Int) * (k : Int) := Int.natCast_mul j k
    omega
  · rw [if_neg h] at hj
    omega
theorem rgN_ge {p n k j : Nat} (hk : 0 < k) (h : p + j * k < n) : j < rgN p n k := by
  unfold rgN
  have hp : (p : Int) < (n : Int) := by
    have : 0 ≤ j * k := Nat.zero_le _
    omega
  rw [if_pos hp]
  have h3 : ((j * k : Nat) : Int) = (j : Int) * (k : Int) := Int.natCast_mul j k
  have h1 : (j : Int) ≤ ((n : Int) - p - 1) / k := (Int.le_ediv_iff_mul_le (by omega : (0 : Int) < (k : Int))).mpr (by omega)
  omega

theorem ev_chain {r' : R2} {tc : TE} {b1 b2 : Bool} (ha : Ev ta σ H x) (hb : Ev tb σ H y) (hr : RV r x y H (.bl b1)) (hc : b1 = true → Ev tc σ H z) (hr' : b1 = true → RV r' y z H (.bl b2)) : Ev (tChain r r' ta tb tc) σ H (.bl (b1 && b2)) := fun H1 e Q q =>
  ha H1 e _ fun H2 e2 => hb H2 (e.trans e2) _ fun H3 e3 => hr H3 ((e.trans e2).trans e3) _ fun H4 e4 => ⟨b1, rfl, by
    cases b1 with
    | true =>
      show tc σ H4 fun w' H5 => r' y w' H5 Q
      exact hc rfl H4 (((e.trans e2).trans e3).trans e4) _ fun H5 e5 => hr' rfl H5 ((((e.trans e2).trans e3).trans e4).trans e5) _ fun H6 e6 => q H6 ((((e2.trans e3).trans e4).trans e5).trans e6)
    | false =>
      show Q (.bl false) H4
      exact q H4 ((e2.trans e3).trans e4)⟩
end
end RE

/-! Seen pieces: columns, rims. -/
namespace RF
open PySem PySem.Spec PyProof.Rows L2 Evl TL RC RA RD RE

theorem stepS_eq (l : List Nat) (p k : Nat) (hk : 0 < k) : stepS (S l) (some (p : Int)) none (k : Int) = S (stepL l p k) := by
  have hidx : Builtin.Str.strSliceIndices (some (p : Int)) none (k : Int) (S l).length = (List.range (rgN p l.length k)).map (fun j => p + j * k) := by
    rw [S_len]
    unfold Builtin.Str.strSliceIndices sliceRange
    have hk' : (k : Int) > 0 := by omega
    have hp0 : ¬ ((p : Int) < 0) := by omega
    simp only [if_pos hk', if_neg hp0]
    by_cases h : (p : Int) < (l.length : Int)
    · have hmin : max 0 (min (p : Int) (l.length : Int)) = (p : Int) := by omega
      rw [hmin, if_pos h]
      have hc : (((l.length : Int) - p + k - 1) / k).toNat = rgN p l.length k := by
        unfold rgN
        rw [if_pos h]
        have e : ((l.length : Int) - p + k - 1) / k = ((l.length : Int) - p - 1) / k + 1 := by
          have e1 : (l.length : Int) - p + k - 1 = ((l.length : Int) - p - 1) + k * 1 := by omega
          rw [e1, Int.add_mul_ediv_left _ _ (by omega : (k : Int) ≠ 0)]
        rw [e]
      rw [hc]
      apply List.map_congr_left
      intro j _
      have e2 : (p : Int) + (k : Int) * (j : Int) = ((p + j * k : Nat) : Int) := by
        rw [Int.natCast_add, Int.natCast_mul, Int.mul_comm]
      rw [e2, Int.toNat_natCast]
    · have hmin : max 0 (min (p : Int) (l.length : Int)) = (l.length : Int) := by omega
      have h0 : rgN p l.length k = 0 := by
        unfold rgN
        rw [if_neg h]
      rw [hmin, h0, if_neg (by omega)]
      rfl
  have hpick : ((Builtin.Str.strSliceIndices (some (p : Int)) none (k : Int) (S l).length).filterMap ((S l).cps[·]?)) = stepL l p k := by
    rw [hidx]
    unfold stepL
    rw [List.filterMap_map]
    have : ∀ n, n ≤ rgN p l.length k → List.filterMap ((fun x => (S l).cps[x]?) ∘ fun j => p + j * k) (List.range n) = (List.range n).map fun j => l.getD (p + j * k) 0 := by
      intro n
      induction n with
      | zero => intro _; rfl
      | succ n ih =>
        intro hn
        have hlt := rgN_lt hk (show n < rgN p l.length k by omega)
        rw [List.range_succ, List.filterMap_append, List.map_append, ih (by omega)]
        congr 1
        have e : (S l).cps[p + n * k]? = some (l.getD (p + n * k) 0) := by
          show l.toArray[p + n * k]? = _
          simp [List.getD, hlt]
        simp [List.filterMap_cons, e]
    exact this _ (Nat.le_refl _)
  unfold stepS
  by_cases c : (((k : Int) == 1) && (Builtin.Str.strSliceIndices (some (p : Int)) none (k : Int) (S l).length).length == (S l).length) = true
  · rw [if_pos c]
    have hk1 : k = 1 := by
      have := ((Bool.and_eq_true _ _).mp c).1
      have : (k : Int) = 1 := by simpa using this
      omega
    have hlen : rgN p l.length k = l.length := by
      have := ((Bool.and_eq_true _ _).mp c).2
      rw [hidx, S_len] at this
      simpa using this
    subst hk1
    rw [S_inj]
    unfold stepL
    rw [hlen]
    apply List.ext_getElem
    · simp
    · intro i h1 h2
      have hp := rgN_lt (p := p) (n := l.length) (k := 1) (j := l.length - 1) (by omega) (by omega)
      have hp0 : p = 0 := by omega
      subst hp0
      simp [List.getD, h1]
  · rw [if_neg c, hpick]
    rfl

/-! ## columns -/
/-- the signs of the text from the blank-less list of marks, none, unseen -/
def SIGNS : List Nat := [97,98,99,100,101,102,103,104,105,106,107,108,109,110,111,112,113,114,115,116,117,118,119,120,121,122,46,63]
def Seen (l : List Nat) : Prop := l ≠ [] ∧ l.length ≤ 30000 ∧ ∀ c ∈ l, c ∈ SIGNS
theorem signs_lt {c : Nat} (h : c ∈ SIGNS) : c < 128 := by
  have : ∀ c ∈ SIGNS, c < 128 := by decide
  exact this c h
/-- what is seen at the places that are p behind a multiple of k -/
def col (l : List Nat) (k p : Nat) : List Nat := (stepL l p k).filter fun c => !decide (c = 63)
theorem mem_col {l : List Nat} {k p c : Nat} (hk : 0 < k) : c ∈ col l k p ↔ c ≠ 63 ∧ ∃ j, p + j * k < l.length ∧ l[p + j * k]? = some c := by
  unfold col stepL
  rw [List.mem_filter, List.mem_map]
  constructor
  · rintro ⟨⟨j, hj, rfl⟩, h2⟩
    have hlt := rgN_lt hk (List.mem_range.mp hj)
    exact ⟨by simpa using h2, j, hlt, by simp [List.getD, hlt]⟩
  · rintro ⟨h1, j, hlt, h3⟩
    exact ⟨⟨j, List.mem_range.mpr (rgN_ge hk hlt), by simp [List.getD, h3]⟩, by simpa using h1⟩
/-- the rim of length k that can have printed it: at each place the one sign that is seen there, ? for none -/
def rimAt (l : List Nat) (k p : Nat) : Nat := (col l k p).headD 63
def oneSign (l : List Nat) (k p : Nat) : Prop := ∀ a ∈ col l k p, ∀ b ∈ col l k p, a = b
instance (l : List Nat) (k p : Nat) : Decidable (oneSign l k p) := inferInstanceAs (Decidable (∀ a ∈ col l k p, ∀ b ∈ col l k p, a = b))
def fitsOne (l : List Nat) (k : Nat) : Prop := ∀ p, p < k → oneSign l k p
instance (l : List Nat) (k : Nat) : Decidable (fitsOne l k) := inferInstanceAs (Decidable (∀ p, p < k → oneSign l k p))
def rimL (l : List Nat) (k : Nat) : List Nat := (List.range k).map (rimAt l k)
/-- a text, or None -/
def optT : Option (List Nat) → V
  | none => .non
  | some l => T l
def rimOf (l : List Nat) (k : Nat) : Option (List Nat) := if fitsOne l k then some (rimL l k) else none
theorem stepL_len (l : List Nat) (p k : Nat) (hk : 0 < k) : (stepL l p k).length ≤ l.length := by
  unfold stepL
  rw [List.length_map, List.length_range]
  by_cases h : rgN p l.length k = 0
  · omega
  · have := rgN_lt hk (show rgN p l.length k - 1 < rgN p l.length k by omega)
    have h2 : (rgN p l.length k - 1) * 1 ≤ (rgN p l.length k - 1) * k := Nat.mul_le_mul_left _ hk
    omega
theorem col_len (l : List Nat) (p k : Nat) (hk : 0 < k) : (col l k p).length ≤ l.length := Nat.le_trans (List.length_filter_le _ _) (stepL_len l p k hk)
theorem stepL_mem {l : List Nat} {p k c : Nat} (hk : 0 < k) (h : c ∈ stepL l p k) : c ∈ l := by
  unfold stepL at h
  obtain ⟨j, hj, rfl⟩ := List.mem_map.mp h
  have hlt := rgN_lt hk (List.mem_range.mp hj)
  have e : l[p + j * k]? = some (l.getD (p + j * k) 0) := by simp [List.getD, hlt]
  exact List.mem_of_getElem? e
theorem col_signs {l : List Nat} {p k c : Nat} (hk : 0 < k) (hl : ∀ c ∈ l, c ∈ SIGNS) (h : c ∈ col l k p) : c ∈ SIGNS := hl c (stepL_mem hk (List.mem_filter.mp h).1)
theorem col_ne {l : List Nat} {p k c : Nat} (h : c ∈ col l k p) : c ≠ 63 := by simpa using (List.mem_filter.mp h).2
/-! ### the texts met in a column -/
theorem nodup_len_le : ∀ (xs ys : List Nat), xs.Nodup → (∀ x ∈ xs, x ∈ ys) → xs.length ≤ ys.length
  | [], _, _, _ => Nat.zero_le _
  | x :: r, ys, nd, h => by
    have hx := h x List.mem_cons_self
    have nd' := List.nodup_cons.mp nd
    have := nodup_len_le r (ys.erase x) nd'.2 fun y hy => (List.mem_erase_of_ne (fun e : y = x => nd'.1 (by rw [← e]; exact hy))).mpr (h y (List.mem_cons_of_mem _ hy))
    rw [List.length_erase_of_mem hx] at this
    have hpos := List.length_pos_of_mem hx
    rw [List.length_cons]
    omega
theorem met_lt {xs : List Nat} (h : ∀ c ∈ xs, c ∈ SIGNS) : (RB.metT (xs.map fun c => S [c])).length < 64 := by
  have hm : ∀ z ∈ RB.metT (xs.map fun c => S [c]), ∃ c ∈ SIGNS, z = S [c] := fun z hz => by
    obtain ⟨c, hc, rfl⟩ := List.mem_map.mp (RB.metT_mem.mp hz)
    exact ⟨c, h c hc, rfl⟩
  have nd := RB.metT_nodup (xs.map fun c => S [c])
  revert hm nd
  generalize RB.metT (xs.map fun c => S [c]) = ms
  intro hm nd
  have h1 : (ms.map fun z => (tl z).headD 0).Nodup := by
    refine List.Pairwise.map _ (fun a b hab => hab) ?_
    refine List.Pairwise.imp_of_mem (fun {a b} ha hb hne => ?_) nd
    obtain ⟨c, _, rfl⟩ := hm a ha
    obtain ⟨d, _, rfl⟩ := hm b hb
    intro e
    apply hne
    have e' : c = d := by simpa using e
    rw [e']
  have := nodup_len_le _ SIGNS h1 fun x hx => by
    obtain ⟨z, hz, rfl⟩ := List.mem_map.mp hx
    obtain ⟨c, hc, rfl⟩ := hm z hz
    simpa using hc
  rw [List.length_map] at this
  exact Nat.lt_of_le_of_lt this (by decide)
end RF

/-! Draws: what stays while numbers are drawn. -/
namespace RG
open PySem PySem.Spec PyProof.Rows L2 Evl TL RC RA RD RE
/-- all but the thing at b is as it was -/
def But (b : Addr) (H H' : Hp) : Prop := ∀ a o, a ≠ b → H a = some o → H' a = some o
theorem But.refl (b : Addr) (H : Hp) : But b H H := fun _ _ _ h => h
theorem But.trans {b : Addr} {H H1 H2 : Hp} (x : But b H H1) (y : But b H1 H2) : But b H H2 := fun a o n h => y a o n (x a o n h)
theorem But.ex {b : Addr} {H H1 : Hp} (e : Ex H H1) : But b H H1 := fun a o _ h => e a o h
theorem But.put {b : Addr} {H H1 : Hp} {o : HO} (x : But b H H1) : But b H (upd H1 b o) := fun a u n h => by
  rw [upd_ne n]
  exact x a u n h
theorem But.new {b p : Addr} {H : Hp} {o : HO} (h : H p = none) : But b H (upd H p o) := But.ex (Ex.new h)
theorem But.seq {K : PySem.W.Frag} {b a : Addr} {H H1 : Hp} {xs : List V} (x : But b H H1) (h : SqL K H a xs) (n : a ≠ b) : SqL K H1 a xs := by
  rcases h with (h | ⟨o, h⟩) | h
  · exact .inl (.inl (x a _ n h))
  · exact .inl (.inr ⟨o, x a _ n h⟩)
  · exact .inr h
/-- a thing that is new since H, changed: for H nothing -/
theorem But.own {b : Addr} {H0 H H' : Hp} (e : Ex H0 H) (h0 : H0 b = none) (x : But b H H') : Ex H0 H' := fun a o h => x a o (ne_of_none h h0) (e a o h)
abbrev M61 : Int := 2305843009213693951
/-- the bag at b: the script's copy (at q), where it is read on, what is left of a cell, how many draws, all cells mixed; n draws at most so far -/
def Bag (H : Hp) (b q : Addr) (n : Nat) : Prop := ∃ (ns : List Int) (i j c t : Int), H b = some (.lst [.ref q, .int i, .int j, .int c, .int t]) ∧ H q = some (.lst (ns.map V.int)) ∧
  0 ≤ i ∧ i ≤ ns.length ∧ 0 ≤ c ∧ c ≤ n
theorem Bag.mono {H : Hp} {b q : Addr} {n m : Nat} (h : Bag H b q n) (l : n ≤ m) : Bag H b q m := by
  obtain ⟨ns, i, j, c, t, h1, h2, h3, h4, h5, h6⟩ := h
  exact ⟨ns, i, j, c, t, h1, h2, h3, h4, h5, by omega⟩
theorem Bag.ex {H H1 : Hp} {b q : Addr} {n : Nat} (h : Bag H b q n) (e : Ex H H1) : Bag H1 b q n := by
  obtain ⟨ns, i, j, c, t, h1, h2, h3⟩ := h
  exact ⟨ns, i, j, c, t, e _ _ h1, e _ _ h2, h3⟩
theorem Bag.new {H : Hp} {b q p : Addr} {n : Nat} {o : HO} (h : Bag H b q n) (hp : H p = none) : Bag (upd H p o) b q n := h.ex (Ex.new hp)
theorem Bag.ne {H : Hp} {b q p : Addr} {n : Nat} (h : Bag H b q n) (hp : H p = none) : p ≠ b ∧ p ≠ q := by
  obtain ⟨ns, i, j, c, t, h1, h2, h3⟩ := h
  exact ⟨(ne_of_none h1 hp).symm, (ne_of_none h2 hp).symm⟩
theorem Bag.put {H : Hp} {b q p : Addr} {n : Nat} {o : HO} (h : Bag H b q n) (h1 : p ≠ b) (h2 : p ≠ q) : Bag (upd H p o) b q n := by
  obtain ⟨ns, i, j, c, t, e1, e2, h3⟩ := h
  exact ⟨ns, i, j, c, t, by rw [upd_ne h1.symm]; exact e1, by rw [upd_ne h2.symm]; exact e2, h3⟩
theorem But.at {b p : Addr} {H H1 : Hp} {o : HO} (x : But b H H1) (n : p ≠ b) (h : H p = some o) : H1 p = some o := x p o n h
def stirF (number place : Int) : Int :=
  let one := (number * 998244353 + place * 1000000007 + 5) % 2305843009213693951
  let two := one * one % 2305843009213693951
  (two * 2860486313 + place * place * 48271 + one / 3) % 2305843009213693921 / 1024

/-! ## lists made by draws -/
structure Res (R : Hp → Nat → Prop) (b : Addr) (own : Addr → Prop) : Prop where
  ex : ∀ {H H1 n}, R H n → Ex H H1 → R H1 n
  mono : ∀ {H n m}, R H n → n ≤ m → R H m
  ne : ∀ {H n p}, R H n → H p = none → ¬ own p
  put : ∀ {H n p o}, R H n → ¬ own p → R (upd H p o) n
  self : own b
theorem bagRes (b q : Addr) : Res (fun H n => Bag H b q n) b (fun p => p = b ∨ p = q) :=
  ⟨fun h e => h.ex e, fun h l => h.mono l, fun h hp z => z.elim (h.ne hp).1 (h.ne hp).2, fun h z => h.put (fun e => z (.inl e)) fun e => z (.inr e), .inl rfl⟩
section
variable {R : Hp → Nat → Prop} {b : Addr} {own : Addr → Prop} {K : PySem.W.Frag} {σ : L2.St} {H : Hp} {vs : List Nat} {tel te : TE} {ta : TA} {j size n dn : Nat} {Q : VK}
theorem lcB (Rs : Res R b own) (G : V → Prop) (hR : R H n) (h : EvA ta σ H [.int (size : Int)]) (hz : size ≤ 100000) (hw : ∀ x, wipe ((wipe σ vs).set j (some x)) vs = wipe σ vs)
    (hel : ∀ (i : Nat) H1, i < size → But b H H1 → R H1 (n + i * dn) → ∀ Q', (∀ v H2, G v → But b H1 H2 → R H2 (n + i * dn + dn) → Q' v H2) → tel ((wipe σ vs).set j (some (.int (i : Int)))) H1 Q')
    (hQ : ∀ xs p H2, xs.length = size → (∀ x ∈ xs, G x) → H p = none → But b H H2 → R H2 (n + size * dn) → H2 p = some (.lst xs) → Q (.ref p) H2) :
    tLc (iRng1 ta) (gName j) tYes tel vs σ H Q :=
  h H (Ex.refl H) _ fun H0 e0 => ⟨(size : Int), rfl, by omega, by omega, fun Dl hD => by
    have hDo : ¬ own Dl := Rs.ne (Rs.ex hR e0) hD
    have hDb : Dl ≠ b := fun z => hDo (by rw [z]; exact Rs.self)
    have hsz : ((size : Int)).toNat = size := by omega
    rw [hsz]
    refine lc_range (lo := 0) (n := size) (fun i H' => ∃ xs : List V, xs.length = i ∧ (∀ x ∈ xs, G x) ∧ H' Dl = some (.lst xs) ∧ But b H H' ∧ R H' (n + i * dn))
      ⟨[], rfl, fun x hx => (by cases hx), upd_same, But.ex (e0.trans (Ex.new hD)), by rw [Nat.zero_mul]; exact Rs.ex hR (e0.trans (Ex.new hD))⟩ (fun i H' hi hp => ?_) (fun H' hp => ?_)
    · obtain ⟨xs, h1, h2, h3, h4, h5⟩ := hp
      have ei : (0 : Int) + (i : Int) = (i : Int) := Int.zero_add _
      rw [ei]
      refine ⟨hw _, ?_⟩
      show (if true = true then tel ((wipe σ vs).set j (some (.int (i : Int)))) H' (fun y H4 => ∃ acc, H4 Dl = some (.lst acc) ∧ acc.length < sizeLine ∧ ∃ xs : List V, xs.length = i + 1 ∧ (∀ x ∈ xs, G x) ∧
          (upd H4 Dl (.lst (acc ++ [y]))) Dl = some (.lst xs) ∧ But b H (upd H4 Dl (.lst (acc ++ [y]))) ∧ R (upd H4 Dl (.lst (acc ++ [y]))) (n + (i + 1) * dn))
        else ∃ xs : List V, xs.length = i + 1 ∧ (∀ x ∈ xs, G x) ∧ H' Dl = some (.lst xs) ∧ But b H H' ∧ R H' (n + (i + 1) * dn))
      rw [if_pos rfl]
      refine hel i H' hi h4 h5 _ fun v H2 gv u2 r2 => ⟨xs, u2 Dl _ hDb h3, by rw [h1, big]; omega, xs ++ [v], by rw [List.length_append, h1]; rfl, fun x hx => ?_, upd_same, ?_, ?_⟩
      · rcases List.mem_append.mp hx with z | z
        · exact h2 x z
        · rw [List.mem_singleton.mp z]
          exact gv
      · intro a o na ha
        have hne : a ≠ Dl := ne_of_none (e0 a o ha) hD
        rw [upd_ne hne]
        exact (h4.trans u2) a o na ha
      · have e1 : n + (i + 1) * dn = n + i * dn + dn := by rw [Nat.succ_mul, Nat.add_assoc]
        rw [e1]
        exact Rs.put r2 hDo
    · obtain ⟨xs, h1, h2, h3, h4, h5⟩ := hp
      exact hQ xs Dl H' h1 h2 (fresh_back e0 hD) h4 h5 h3⟩
end
theorem cutS_eq (l : List Nat) (lo hi : Option Int) : cutS (S l) lo hi = S ((l.drop (HT.sIx l.length 0 lo)).take (HT.sIx l.length l.length hi - HT.sIx l.length 0 lo)) := by
  refine ext_tl ?_
  unfold cutS
  simp
end RG
namespace RG
open PySem PySem.Spec PyProof.Rows L2 Evl TL RC RA RD RE
theorem cutS_take (l : List Nat) (k : Nat) : cutS (S l) none (some (k : Int)) = S (l.take k) := by
  rw [cutS_eq, HT.sIx_none, HT.sIx_nat, S_inj, List.drop_zero, Nat.sub_zero]
  by_cases h : k ≤ l.length
  · rw [Nat.min_eq_left h]
  · rw [Nat.min_eq_right (by omega), List.take_of_length_le (Nat.le_refl _)]
    exact (List.take_of_length_le (by omega)).symm
/-- marks, and none -/
def MARKS : List Nat := [97,98,99,100,101,102,103,104,105,106,107,108,109,110,111,112,113,114,115,116,117,118,119,120,121,122,46]
def RimOk (most : Nat) (z : List Nat) : Prop := 1 ≤ z.length ∧ z.length ≤ most ∧ ∀ c ∈ z, c ∈ MARKS
theorem repT_one (c k : Nat) : repT [c] k = List.replicate k c := by
  unfold repT
  induction k with
  | zero => rfl
  | succ k ih => rw [List.replicate_succ, List.flatten_cons, ih, List.replicate_succ]; rfl
theorem repT_len (l : List Nat) (k : Nat) : (repT l k).length = k * l.length := by
  unfold repT
  simp
theorem repT_mem {l : List Nat} {k c : Nat} (h : c ∈ repT l k) : c ∈ l := by
  unfold repT at h
  obtain ⟨m, hm, hc⟩ := List.mem_flatten.mp h
  rw [List.eq_of_mem_replicate hm] at hc
  exact hc
theorem cs {x : Str} (l : List Nat) (h : x = S l) : V.str x = T l := by rw [h]
theorem getD_mem {l : List Nat} {i : Nat} (h : i < l.length) : l.getD i 0 ∈ l := by
  have e : l.getD i 0 = l[i] := by simp [List.getD, h]
  rw [e]
  exact List.getElem_mem h
theorem texts_of {xs : List V} {P : List Nat → Prop} (h : ∀ x ∈ xs, ∃ l, x = T l ∧ P l) : ∃ ys : List (List Nat), xs = ys.map T ∧ ∀ y ∈ ys, P y := by
  induction xs with
  | nil => exact ⟨[], rfl, fun y hy => by cases hy⟩
  | cons x r ih =>
    obtain ⟨l, rfl, hl⟩ := h x List.mem_cons_self
    obtain ⟨ys, rfl, hys⟩ := ih fun y hy => h y (List.mem_cons_of_mem _ hy)
    exact ⟨l :: ys, rfl, fun y hy => (List.mem_cons.mp hy).elim (fun e => by rw [e]; exact hl) (hys y)⟩
theorem flat_one {ys : List (List Nat)} (h : ∀ y ∈ ys, y.length = 1) : ys.flatten.length = ys.length := by
  induction ys with
  | nil => rfl
  | cons y r ih => rw [List.flatten_cons, List.length_append, h y List.mem_cons_self, ih fun z hz => h z (List.mem_cons_of_mem _ hz), List.length_cons]; omega
end RG

/-! A wheel fits a seen piece: by its columns, by pairs of places. -/
namespace RH
open PySem PySem.Spec PyProof.Rows L2 Evl TL RC RA RD RE RF RG
def pairOk (l : List Nat) (k i : Nat) : Prop := l.getD i 0 ≠ 63 → ∀ m, i + (m + 1) * k < l.length → l.getD (i + (m + 1) * k) 0 ≠ 63 → l.getD (i + (m + 1) * k) 0 = l.getD i 0
theorem get_getD {l : List Nat} {i : Nat} (h : i < l.length) : l[i]? = some (l.getD i 0) := by simp [List.getD, h]
theorem fits_iff {l : List Nat} {k : Nat} (hk : 0 < k) : fitsOne l k ↔ ∀ i, i < l.length → pairOk l k i := by
  constructor
  · intro h i hi h1 m hm h2
    have hp : i % k < k := Nat.mod_lt _ hk
    have hd : i % k + (i / k) * k = i := by
      rw [Nat.mul_comm]
      exact Nat.mod_add_div i k
    have e2 : i % k + (i / k + (m + 1)) * k = i + (m + 1) * k := by
      rw [Nat.add_mul]
      omega
    refine h (i % k) hp _ ((mem_col hk).mpr ⟨h2, i / k + (m + 1), by rw [e2]; exact hm, by rw [e2]; exact get_getD hm⟩) _ ((mem_col hk).mpr ⟨h1, i / k, by rw [hd]; exact hi, by rw [hd]; exact get_getD hi⟩)
  · intro h p hp a ha b hb
    obtain ⟨a1, i, hi, ai⟩ := (mem_col hk).mp ha
    obtain ⟨b1, j, hj, bj⟩ := (mem_col hk).mp hb
    rw [get_getD hi] at ai
    rw [get_getD hj] at bj
    have ea := Option.some.inj ai
    have eb := Option.some.inj bj
    have key : ∀ i j, i < j → p + j * k < l.length → l.getD (p + i * k) 0 ≠ 63 → l.getD (p + j * k) 0 ≠ 63 → l.getD (p + j * k) 0 = l.getD (p + i * k) 0 := fun i j hij hj n1 n2 => by
      have e : p + i * k + (j - i - 1 + 1) * k = p + j * k := by
        rw [Nat.add_assoc, ← Nat.add_mul]
        congr 2
        omega
      have hi : p + i * k < l.length := by
        have : i * k ≤ j * k := Nat.mul_le_mul_right _ (by omega)
        omega
      have := h (p + i * k) hi n1 (j - i - 1)
      rw [e] at this
      exact this hj n2
    rw [← ea] at a1
    rw [← eb] at b1
    rw [← ea, ← eb]
    rcases Nat.lt_trichotomy i j with z | z | z
    · exact (key i j z hj a1 b1).symm
    · rw [z]
    · exact key j i z hi b1 a1
/-- a list of signs that agrees with each column is the rim -/
theorem rim_of_signs {l cs : List Nat} {k : Nat} (hk : 0 < k) (hf : fitsOne l k) (hc : cs.length = k)
    (h : ∀ r, r < k → (cs.getD r 0 = 63 ∧ ∀ j, j < l.length → j % k = r → l.getD j 0 = 63) ∨ cs.getD r 0 ∈ col l k r) : cs = rimL l k := by
  apply List.ext_getElem
  · simp [rimL, hc]
  · intro r h1 h2
    have hr : r < k := by omega
    have e1 : cs[r] = cs.getD r 0 := by simp [List.getD, h1]
    have e2 : (rimL l k)[r] = rimAt l k r := by simp [rimL]
    rw [e1, e2]
    unfold rimAt
    rcases h r hr with ⟨q1, q2⟩ | q
    · rw [q1]
      cases hcol : col l k r with
      | nil => rfl
      | cons c t =>
        have hm : c ∈ col l k r := by
          rw [hcol]
          exact List.mem_cons_self
        obtain ⟨n1, j, hj, cj⟩ := (mem_col hk).mp hm
        have := q2 (r + j * k) hj (by rw [Nat.add_mul_mod_self_right]; exact Nat.mod_eq_of_lt hr)
        rw [get_getD hj, this] at cj
        exact absurd (Option.some.inj cj).symm n1
    · cases hcol : col l k r with
      | nil =>
        rw [hcol] at q
        cases q
      | cons c t =>
        have hm : c ∈ col l k r := by
          rw [hcol]
          exact List.mem_cons_self
        exact hf r hr _ q _ hm
theorem code_lt (s : String) : ∀ c ∈ tl (Str.ofString s), c < 1114112 := fun c hc => by
  rw [tl_ofString] at hc
  obtain ⟨x, _, rfl⟩ := List.mem_map.mp hc
  have := x.valid
  show x.val.toNat < 1114112
  rcases this with h | h
  · exact Nat.lt_trans h (by decide)
  · exact h.2
theorem flat_T (cs : List Nat) : (cs.map fun c => [c]).flatten = cs := by
  induction cs with
  | nil => rfl
  | cons c r ih => rw [List.map_cons, List.flatten_cons, ih]; rfl
end RH

/-! What the laws' own bodies need. -/
namespace RI
open PySem PySem.Spec PyProof.Rows L2 Evl TL RC RA RD RE RF RG RH
section
variable {K : PySem.W.Frag} {σ : L2.St} {H H' : Hp} {ta tb te tx : TE} {i j : Int} {z : V}
theorem ev_min2 (ha : Ev ta σ H (.int i)) (hb : Ev tb σ H (.int j)) : Ev (tCB (fun xs H Q => ∃ i j, xs = [.int i, .int j] ∧ Q (.int (if j < i then j else i)) H) (tCons ta (tCons tb tNil))) σ H (.int (if j < i then j else i)) :=
  ev_cb (ea_cons ha (ea_cons hb ea_nil)) fun H1 _ Q q => ⟨i, j, rfl, q H1 (Ex.refl H1)⟩
def rpr (i : Int) : List Nat := tl (toString i : Str)
theorem rpr_S (i : Int) : (.str (toString i) : V) = T (rpr i) := (congrArg V.str (S_tl _)).symm
theorem rpr_lt (i : Int) : ∀ c ∈ rpr i, c < 1114112 := code_lt _
abbrev rRepr : List V → Hp → VK → Prop := fun xs H Q => ∃ i, xs = [.int i] ∧ i.natAbs.log2 < 1920 ∧ Q (.str (toString i)) H
/-- [repr(x) for x in numbers] -/
theorem el_reprs {p : Addr} {ns : List Int} {jx : Nat} {vs : List Nat} (h : Ev te σ H (.ref p)) (hp : SqL K H p (ns.map V.int)) (hn : ns.length ≤ 40000) (hl : ∀ i ∈ ns, i.natAbs.log2 < 1920)
    (hw : ∀ x, wipe ((wipe σ vs).set jx (some x)) vs = wipe σ vs) (hj : ∀ x, ((wipe σ vs).set jx (some x))[jx]? = some (some x)) :
    EvL (tLc (iList K te) (gName jx) tYes (tCB rRepr (tCons (tVar jx) tNil)) vs) σ H ((ns.map rpr).map T) := by
  refine el_to (el_lcV (fun _ => true) (fun x => match x with | .int i => .str (toString i) | _ => .non) h hp (by rw [List.length_map]; exact hn) hw (fun x H1 _ _ => et_yes) (fun x H1 _ hx _ => ?_)) ?_
  · obtain ⟨i, hi, rfl⟩ := List.mem_map.mp hx
    exact ev_reprI (ev_var (hj _)) (hl i hi)
  · rw [List.filter_eq_self.mpr (fun _ _ => rfl), List.map_map, List.map_map]
    exact List.map_congr_left fun i _ => rpr_S i
theorem small_log {i : Int} (h0 : 0 ≤ i) (h1 : i ≤ 1000000000) : i.natAbs.log2 < 1920 := by
  have : i.natAbs < 2 ^ 1920 := Nat.lt_of_lt_of_le (show i.natAbs < 2 ^ 30 by omega) (Nat.pow_le_pow_right (by decide) (by decide))
  by_cases hz : i.natAbs = 0
  · rw [hz]
    decide
  · exact (Nat.log2_lt hz).mpr this
theorem ev_all {bs : List Bool} (h : EvL te σ H (bs.map V.bl)) : Ev (tCB (rAll K) (tCons te tNil)) σ H (.bl (bs.all id)) := fun H1 e Q q => h H1 e _ fun p H2 hp e2 h2 => ⟨p, bs, rfl, SqL.of h2, q H2 e2⟩
theorem ev_any {bs : List Bool} (h : EvL te σ H (bs.map V.bl)) : Ev (tCB (rAny K) (tCons te tNil)) σ H (.bl (bs.any id)) := fun H1 e Q q => h H1 e _ fun p H2 hp e2 h2 => ⟨p, bs, rfl, SqL.of h2, q H2 e2⟩
theorem eqV_T (a b : List Nat) : eqV (T a) (T b) = decide (a = b) := by
  show (S a == S b) = decide (a = b)
  rw [Bool.eq_iff_iff, beq_iff_eq, decide_eq_true_iff, S_inj]
/-- a text among two -/
theorem inV_T2 (x a b : List Nat) : inV (T x) [T a, T b] = (decide (a = x) || decide (b = x)) := by
  show (eqV (T a) (T x) || (eqV (T b) (T x) || false)) = _
  rw [eqV_T, eqV_T, Bool.or_false]
theorem ev_inT2 {a b x : List Nat} {tc : TE} (hx : Ev tc σ H (T x)) (ha : Ev ta σ H (T a)) (hb : Ev tb σ H (T b)) : Ev (tOp (rIn K false) tc (tTup (tCons ta (tCons tb tNil)))) σ H (.bl (decide (a = x) || decide (b = x))) := by
  rw [← inV_T2]
  exact ev_inU hx (eu_tup (ea_cons ha (ea_cons hb ea_nil)) (by show 2 ≤ 100000; decide)) rfl rfl
theorem ev_niT2 {a b x : List Nat} {tc : TE} (hx : Ev tc σ H (T x)) (ha : Ev ta σ H (T a)) (hb : Ev tb σ H (T b)) : Ev (tOp (rIn K true) tc (tTup (tCons ta (tCons tb tNil)))) σ H (.bl (!(decide (a = x) || decide (b = x)))) := by
  rw [← inV_T2]
  exact ev_niU hx (eu_tup (ea_cons ha (ea_cons hb ea_nil)) (by show 2 ≤ 100000; decide)) rfl rfl
theorem scal_opt (o o' : Option (List Nat)) : scal (optT o) (optT o') = true := by cases o <;> cases o' <;> rfl
end
end RI

/-! text.replace of written texts within a loop; what replacing one sign gives. -/
namespace RJ
open PySem PySem.Spec PyProof.Rows L2 Evl TL RC RA RD RE RF RG RH RI
def subst (c : Nat) (z : List Nat) (l : List Nat) : List Nat := l.flatMap fun k => if k = c then z else [k]
theorem subst_free {c : Nat} {z : List Nat} : ∀ {l : List Nat}, c ∉ l → subst c z l = l
  | [], _ => rfl
  | k :: r, h => by
    have h1 : ¬ k = c := fun e => h (e ▸ List.mem_cons_self)
    have ih := subst_free (z := z) (l := r) fun m => h (List.mem_cons_of_mem _ m)
    unfold subst at ih ⊢
    rw [List.flatMap_cons, if_neg h1, ih]
    rfl
theorem subst_append {c : Nat} {z a b : List Nat} : subst c z (a ++ b) = subst c z a ++ subst c z b := List.flatMap_append
theorem subst_join (c : Nat) (z : List Nat) : ∀ ps : List Str, (∀ p ∈ ps, c ∉ p.cps.toList) → subst c z (Str.join ⟨#[c]⟩ ps).cps.toList = (Str.join (S z) ps).cps.toList
  | [], _ => rfl
  | [p], h => subst_free (h p (List.mem_singleton.mpr rfl))
  | p :: q :: r, h => by
    have ih := subst_join c z (q :: r) fun a ha => h a (List.mem_cons_of_mem _ ha)
    show subst c z (p ++ ⟨#[c]⟩ ++ Str.join ⟨#[c]⟩ (q :: r)).cps.toList = (p ++ S z ++ Str.join (S z) (q :: r)).cps.toList
    simp only [Str.cps_append, Array.toList_append]
    rw [subst_append, subst_append, ih, subst_free (h p List.mem_cons_self)]
    congr 2
    show subst c z [c] = z
    unfold subst
    simp
theorem repl_S (l z : List Nat) (c : Nat) : Txt.replace (S l) (S [c]) (S z) = S (subst c z l) := by
  refine ext_tl ?_
  show (Txt.replace (S l) ⟨#[c]⟩ (S z)).cps.toList = subst c z l
  rw [StrLaws.replace_one, ← subst_join c z _ (StrLaws.split_free _ c), StrLaws.join_split]
  rfl
theorem subst_nil (c : Nat) (l : List Nat) : subst c [] l = l.filter fun k => !decide (k = c) := by
  unfold subst
  induction l with
  | nil => rfl
  | cons k r ih =>
    rw [List.flatMap_cons, ih]
    by_cases h : k = c
    · rw [if_pos h, List.filter_cons_of_neg (by simp [h])]
      rfl
    · rw [if_neg h, List.filter_cons_of_pos (by simp [h])]
      rfl
theorem ev_replC {to : TE} {σ : L2.St} {H : Hp} {y z : Str} {c : Nat} {z' a : List Nat} (hy : y = S [c]) (hz : z = S z') (h : Ev to σ H (T a)) (hb : a.length + (a.length + 1) * z'.length ≤ 16777216) : Ev (CwR.tReplC to y z) σ H (T (subst c z' a)) := fun H1 e Q q =>
  h H1 e _ fun H2 e2 => ⟨S a, rfl, by rw [S_len, hz, S_len]; exact hb, by
    rw [hy, hz, repl_S]
    exact q H2 e2⟩
section
variable {X : Cx} {st : Stmt} {rest : List Stmt} {t u : TS}
/-- a value whose making wants a token, stored -/
theorem pst_set {i : Nat} {x : Str} {e : Expr} {te : TE} {pos' pos : Pos} (hN : X.N.Nodup) (hi : X.N[i]? = some x) (hx : Loc X.env.scope x) (he : PET X e te) (hs : swapsWith e (some (.Name x pos')) pos.line X.env = pure false := by rfl)
    (hf : X.fn x = true ∨ X.env.scope.names.lookup x = some .local := by first | exact .inl rfl | exact .inr rfl | assumption) : PST X (.Assign [.Name x pos'] e pos) (tAsg te (gName i)) := by
  intro pins s σ H D h0 I h
  refine wpAny_Assign_Name (wpAny_mono (he pins s σ H _ h0 I h) (fun v s1 q => ?_) fun _ _ z => z) hs
  obtain ⟨y, H1, I1, r1, q1⟩ := q
  exact store_ok I1 hN hi hx r1 (fun s2 I2 => ⟨_, H1, I2, q1⟩) hf
/-- a loop within which a token is out: the walk of the kit's for, and that tokens grow -/
theorem pst_forT {tg iter : Expr} {body : List Stmt} {wi : TI} {g : TG} {tb : TS} {pos : Pos} (hp : PassesOwn (model X.prog X.w) X.A X.env X.xe) (hc : X.calm = true) (hi : PI X tg iter wi) (hg : PG X tg g) (hb : PSsT X body tb)
    (hs : ∀ x, foldedSetIterable iter X.env x = pure x := by intro _; rfl) : PST X (.For tg iter body [] pos) (tFor wi g tb) := by
  intro pins s σ H D h0 I h
  have grows : ∀ {α : Type} {m : Sem α} {Q : α → Shared → Prop} {E : Value → Shared → Prop} {z : Shared}, 1 ≤ z.toks → wpAny (model X.prog X.w) X.A m Q E z → wpAny (model X.prog X.w) X.A m (fun a z' => 1 ≤ z'.toks ∧ Q a z') E z :=
    fun hz hw => wpAny_mono (PySem.wpAny_toks hw) (fun _ _ q => ⟨Nat.le_trans hz q.1, q.2⟩) fun _ _ q => q.2
  refine wpAny_For (wpAny_mono (grows h0 (hi.run pins s σ H _ I h)) (fun v s1 h1 => wpAny_mono (grows h1.1 h1.2) (fun itv s2 h2 => ?_) fun _ _ z => z) fun _ _ z => z) hs
  obtain ⟨k2, it, fp, tn, J, H2, e, I2, Tn, st2, f2, W, ⟨m0, w0⟩, turn⟩ := h2
  subst e
  have stat : ∀ {H' : Hp}, (∀ b ∈ fp, H' b = none) → ∀ b ∈ fp, FpOk X pins H' b := fun hn b hb => ⟨hn b hb, (f2 b hb).2⟩
  refine codeAny_forLoop_any (fun n z => 1 ≤ z.toks ∧ ∃ i σ' H', Inv X pins σ' H' z ∧ tn i z.heap ∧ (∀ b ∈ fp, H' b = none) ∧ W i n σ' H') ?_ m0 ⟨k2, 0, σ, H2, I2, st2, fun b hb => (f2 b hb).1, w0⟩
  rintro n s3 ⟨k3, i, σ3, H3, I3, st3, fr3, w3⟩
  rcases turn i n σ3 H3 w3 with ⟨stop, qn⟩ | ⟨go, Nx, hN, step⟩
  · refine wpAny_passesOwn hp (thn (Tn.done X rfl rfl rfl hc i pins s3 σ3 H3 X.xe I3 (stat fr3) st3 stop) fun r s4 ⟨hr, I4⟩ => ?_)
    subst hr
    exact wpAny_execs_nil ⟨σ3, H3, I4, qn⟩
  · refine wpAny_passesOwn hp (thn (grows k3 (Tn.item X rfl rfl rfl hc i pins s3 σ3 H3 X.xe I3 (stat fr3) st3 go)) fun r s4 ⟨k4, v, hr, h4⟩ => ?_)
    subst hr
    refine wpAny_passesOwn hp (thn (grows k4 h4) fun _ s5 ⟨k5, x, H5, I5, r5, y5, st5, fr5⟩ => ?_)
    have I5' := I5.pinned (stat fr5) (Tn.obj _ _ st5)
    refine wpAny_passesOwn hp (thn (grows k5 (hg.run _ s5 σ3 H5 x v _ I5' r5 (step x H5 y5))) fun _ s6 ⟨k6, σ6, H6, I6, q6⟩ => ?_)
    refine wpAny_passesOwn hp (thn (grows k6 (hb _ s6 σ6 H6 _ k6 I6 q6)) fun f s7 ⟨k7, q7⟩ => ?_)
    have again : ∀ {σ7 : L2.St} {H7 : Hp}, Inv X (pins ++ pinsAt fp s5.heap) σ7 H7 s7 → Nx σ7 H7 → ∃ m, m < n ∧ 1 ≤ s7.toks ∧ ∃ i σ' H', Inv X pins σ' H' s7 ∧ tn i s7.heap ∧ (∀ b ∈ fp, H' b = none) ∧ W i m σ' H' := fun {σ7 H7} I7 n7 => by
      obtain ⟨m', hm, w7⟩ := hN σ7 H7 n7
      refine ⟨m', hm, k7, i + 1, σ7, H7, I7.unpinned, Tn.keep _ _ _ st5 fun b hb o e => (I7.pin (b, o) (List.mem_append_right _ (List.mem_append_right _ (mem_pinsAt hb e)))).1, fun b hb => ?_, w7⟩
      obtain ⟨o, e, d⟩ := Tn.obj _ _ st5 b hb
      exact (I7.pin (b, o) (List.mem_append_right _ (List.mem_append_right _ (mem_pinsAt hb e)))).2.1
    cases f with
    | next => obtain ⟨σ7, H7, I7, n7⟩ := q7; exact again I7 n7
    | cont => obtain ⟨σ7, H7, I7, n7⟩ := q7; exact again I7 n7
    | brk => obtain ⟨σ7, H7, I7, q7⟩ := q7; exact ⟨σ7, H7, I7.unpinned, q7⟩
    | ret v => obtain ⟨x7, σ7, H7, I7, r7, q7⟩ := q7; exact ⟨x7, σ7, H7, I7.unpinned, r7, q7⟩
end
end RJ

/-! What is left beneath a wheel: the plain law. -/
namespace RL
open PySem PySem.Spec PyProof.Rows L2 Evl TL RC RA RD RE RF RG RH RI
/-- the rim's mark at a place -/
def rimM (rim : List Nat) (i : Nat) : Nat := rim.getD (i % rim.length) 0
def benL (l rim : List Nat) : List Nat := (List.range l.length).map fun i => if rimM rim i = 46 then l.getD i 0 else 63
def benP (l rim : List Nat) (i : Nat) : Prop := rimM rim i = 46 ∨ l.getD i 0 = rimM rim i ∨ l.getD i 0 = 63
def benOk (l rim : List Nat) : Prop := ∀ i, i < l.length → benP l rim i
instance (l rim : List Nat) (i : Nat) : Decidable (benP l rim i) := inferInstanceAs (Decidable (_ ∨ _))
instance (l rim : List Nat) : Decidable (benOk l rim) := inferInstanceAs (Decidable (∀ i, i < l.length → benP l rim i))
def benOf (l rim : List Nat) : Option (List Nat) := if benOk l rim then some (benL l rim) else none
theorem benL_len (l rim : List Nat) : (benL l rim).length = l.length := by simp [benL]
theorem benL_at {l rim : List Nat} {i : Nat} (h : i < l.length) : (benL l rim).getD i 0 = if rimM rim i = 46 then l.getD i 0 else 63 := by
  unfold benL
  rw [List.getD, List.getElem?_map, List.getElem?_range h]
  rfl
theorem benL_mem {l rim : List Nat} {c : Nat} (h : c ∈ benL l rim) : c ∈ l ∨ c = 63 := by
  unfold benL at h
  obtain ⟨i, hi, rfl⟩ := List.mem_map.mp h
  have hi' := List.mem_range.mp hi
  by_cases e : rimM rim i = 46
  · rw [if_pos e]
    exact .inl (getD_mem hi')
  · rw [if_neg e]
    exact .inr rfl
theorem benL_seen {l rim : List Nat} (h : RF.Seen l) : RF.Seen (benL l rim) :=
  ⟨fun e => h.1 (by have := congrArg List.length e; rw [benL_len] at this; exact List.eq_nil_of_length_eq_zero this), by rw [benL_len]; exact h.2.1, fun c hc => (benL_mem hc).elim (h.2.2 c) fun e => by rw [e]; decide⟩
theorem ext_getD {a b : List Nat} (h : a.length = b.length) (h2 : ∀ i, i < a.length → a.getD i 0 = b.getD i 0) : a = b := by
  apply List.ext_getElem h
  intro i h3 h4
  have := h2 i h3
  simpa [List.getD, h3, h4] using this
/-- beneath what is beneath: the same -/
theorem benOf_again (l rim : List Nat) : benOf (benL l rim) rim = some (benL l rim) := by
  have hok : benOk (benL l rim) rim := fun i hi => by
    rw [benL_len] at hi
    by_cases e : rimM rim i = 46
    · exact .inl e
    · refine .inr (.inr ?_)
      rw [benL_at hi, if_neg e]
  unfold benOf
  rw [if_pos hok]
  congr 1
  refine ext_getD (benL_len _ _) fun i hi => ?_
  rw [benL_len, benL_len] at hi
  rw [benL_at (by rw [benL_len]; exact hi), benL_at hi]
  by_cases e : rimM rim i = 46
  · rw [if_pos e, if_pos e]
  · rw [if_neg e, if_neg e]
/-- beneath a wheel without marks: the piece -/
theorem benOf_none {l rim : List Nat} (h : ∀ c ∈ rim, c = 46) (hr : 0 < rim.length) : benOf l rim = some l := by
  have hm : ∀ i, rimM rim i = 46 := fun i => h _ (getD_mem (Nat.mod_lt _ hr))
  have hok : benOk l rim := fun i _ => .inl (hm i)
  unfold benOf
  rw [if_pos hok]
  congr 1
  refine ext_getD (benL_len _ _) fun i hi => ?_
  rw [benL_len] at hi
  rw [benL_at hi, if_pos (hm i)]
def LET : List Nat := [97,98,99,100,101,102,103,104,105,106,107,108,109,110,111,112,113,114,115,116,117,118,119,120,121,122]
theorem marks_of : ∀ c ∈ MARKS, (decide (c ∈ LET) || decide (c = 46)) = true := by decide
theorem marks_signs : ∀ c ∈ MARKS, c ∈ SIGNS := by decide
theorem marks_ne : ∀ c ∈ MARKS, c ≠ 63 := by decide
theorem signs_marks : ∀ c ∈ SIGNS, c ≠ 63 → c ∈ MARKS := by decide
end RL

/-! word, *things = a tuple. One of two readings. -/
namespace RS
open PySem PySem.Spec PyProof.Rows L2
section
variable {prog : Program} {w : World} {A : Around} {E : Value → Shared → Prop} {s : Shared}
/-- a walk begun later -/
theorem later {I : Addr} {fp wr : List Addr} {G : Array GenState → Array GenState → Prop} {n : Nat} {P : Nat → Value → Prop} {St : Nat → Shared → Prop} (W : WalksS prog w A I fp wr G n P St) (k : Nat) (hk : k ≤ n) :
    WalksS prog w A I fp wr G (n - k) (fun i => P (i + k)) (fun i => St (i + k)) where
  sub := W.sub
  grefl := W.grefl
  gtrans := W.gtrans
  frame := fun i s h' tk st => W.frame (i + k) s h' tk st
  item := fun i s Q E hi st hQ => W.item (i + k) s Q E (by omega) st fun v s' hP hS hm => hQ v s' hP (by rw [Nat.add_right_comm]; exact hS) hm
  done := fun s Q E st hQ => W.done s Q E (by rw [Nat.sub_add_cancel hk] at st; exact st) hQ
  self := fun i s Q E st hQ => W.self (i + k) s Q E st hQ
theorem items_eq {its : List Value} {x : Value} {acc : Array Value} (h : ItemsOf (fun i v => (x :: its).toArray[i + 1]? = some v) acc its.length) : acc.toList = its := by
  obtain ⟨h1, h2⟩ := h
  apply List.ext_getElem (by simpa using h1)
  intro i h3 h4
  have h5 : acc[i]? = some (acc.toList[i]) := by
    rw [← Array.getElem?_toList]
    exact List.getElem?_eq_getElem h3
  have h6 : (x :: its).toArray[i + 1]? = some (acc.toList[i]) := h2 i _ h5
  have h7 : (x :: its).toArray[i + 1]? = some its[i] := by simp [h4]
  rw [h7] at h6
  exact (Option.some.inj h6).symm
theorem unpackStar {t : Addr} {x : Value} {its : List Value} {Q : List Value → Shared → Prop} (hh : A.handled = none) (ht : IsTup s.heap t (x :: its).toArray) (hz : its.length ≤ sizeLine)
    (hQ : ∀ s2 : Shared, (∀ b o, s.heap.get? b = some o → s2.heap.get? b = some o) → s2.gens = s.gens → s2.drawn = s.drawn → s2.os = s.os →
      Q [x, .ref s2.heap.objs.size] { s2 with heap := s2.heap.push { cls := .type "list", data := .seq its.toArray } }) : wpAny (model prog w) A (unpackItems (.ref t) 2 (some 1)) Q E s := by
  have hlt : t ≠ s.heap.objs.size := by
    obtain ⟨o, ho, _⟩ := ht
    exact Nat.ne_of_lt (Heap.lt_size ho)
  unfold unpackItems
  refine wpAny_bind ?_
  unfold notIterableAtAll
  refine wpAny_bind (wpAny_specialOf ht.typeIs slot_tuple_iter.lookup ?_)
  refine wpAny_pure ?_
  simp only [Bool.false_eq_true, if_false]
  refine wpAny_bind (wpAny_holding (iter_tuple ht ?_))
  have hsz : 0 + 1 ≤ (x :: its).toArray.size := by simp
  refine wpAny_bind (wpAny_holding (draw_tuple hlt 1 0 _ _ ⟨_, Heap.get?_push_size _ rfl, rfl, rfl⟩ (ht.push _) hsz fun h₁ hit₁ hs₁ => ?_))
  have ht₁ : IsTup h₁ t (x :: its).toArray := (ht.push _).extBut hs₁.extBut hlt
  show wpAny _ _ (if [x].length < 1 then _ else _) _ _ _
  rw [if_neg (by simp)]
  have W := later (Walks.toS (Walks.tuple (prog := prog) (w := w) (A := A.in1) hh s.heap.objs.size t hlt (x :: its).toArray)) 1 (by simp)
  have hn : (x :: its).toArray.size - 1 = its.length := by simp
  rw [hn] at W
  refine wpAny_bind (wpAny_holding (wpAny_collect_iter (T := "tuple_iterator") (.inr (.inr (.inr rfl))) W (fun i s st => ⟨_, st.1.choose_spec.1, st.1.choose_spec.2.1⟩) ⟨hit₁, ht₁⟩ ?_ (by simp) (fun s' acc hm hi => ?_) hz))
  · intro b hb
    rcases List.mem_cons.mp hb with e | hb
    · rw [e]
      obtain ⟨o, ho, _⟩ := hit₁
      exact Heap.lt_size ho
    · rw [List.mem_singleton.mp hb]
      obtain ⟨o, ho, _⟩ := ht₁
      exact Heap.lt_size ho
  · rw [items_eq hi]
    show wpAny _ _ (if its.length < 0 then _ else _) _ _ _
    rw [if_neg (Nat.not_lt_zero _)]
    have e1 : its.take (its.length - 0) = its := by simp
    have e2 : its.drop (its.length - 0) = [] := by simp
    show wpAny _ _ (newList (its.take (its.length - 0)) >>= fun l => pure ([x] ++ [l] ++ its.drop (its.length - 0))) _ _ _
    rw [e1, e2]
    refine wpAny_bind (wpAny_newList (wpAny_pure ?_) hz)
    refine hQ s' (fun b o e => ?_) hm.gens hm.drawn hm.os
    have hb : b ≠ s.heap.objs.size := Nat.ne_of_lt (Heap.lt_size e)
    exact hm.heap b o (by simpa using hb) (hs₁.extBut b o hb (Heap.get?_push_of_some _ e))
theorem assign_star {env : Env} {elts : List Expr} {k : Nat} {pos : Pos} {t : Addr} {x : Value} {its : List Value} {Q : Unit → Shared → Prop} (hh : A.handled = none) (ht : IsTup s.heap t (x :: its).toArray) (hz : its.length ≤ sizeLine)
    (hn : (assignEach elts env).length = 2) (hstar : (assignEach elts env).findIdx? (·.1) = some 1)
    (hQ : ∀ s2 : Shared, (∀ b o, s.heap.get? b = some o → s2.heap.get? b = some o) → s2.gens = s.gens → s2.drawn = s.drawn → s2.os = s.os →
      wpAny (model prog w) A (assignInOrder ((assignEach elts env).map (·.2)) [x, .ref s2.heap.objs.size]) Q E { s2 with heap := s2.heap.push { cls := .type "list", data := .seq its.toArray } }) :
    wpAny (model prog w) A (assign (.Tuple elts k pos) env (.ref t)) Q E s := by
  rw [assign_Tuple]
  refine wpAny_bind (wpAny_standAt ?_)
  unfold unpack
  rw [hn, hstar]
  exact wpAny_bind (wpAny_holding (unpackStar hh ht hz hQ))
end
section
variable {X : Cx} {pos p3 : Pos} {t u : TE}
theorem pgs_star {e : Expr} {g : TG} (h : PG X e g) (hs : (assignEach [.Starred e p3] X.env).map (·.2) = [assign e X.env] := by rfl) : PGs X [.Starred e p3] (gCons g gNil) := by
  refine ⟨fun pins s σ H vs us Q I r hh => ?_⟩
  obtain ⟨v, vr, e1, q⟩ := hh
  subst e1
  cases r with
  | cons r rr =>
    rw [hs]
    refine assignInOrder_cons (thn (h.run pins s σ H _ _ _ I r q) fun _ s1 ⟨σ1, H1, I1, e3, q1⟩ => ?_)
    subst e3
    cases rr
    exact assignInOrder_nil ⟨σ1, H1, I1, q1⟩
/-- a, *b = a tuple: b a new list of all behind the first -/
def gStar (K : PySem.W.Frag) (t : TGs) : TG := fun v σ H Q => ∃ a x xs, v = .ref a ∧ SqT K H a (x :: xs) ∧ ∀ l, H l = none → t [x, .ref l] σ (upd H l (.lst xs)) Q
theorem pg_star {es : List Expr} {k : Nat} {t : TGs} (hc : X.calm = true) (h : PGs X es t)
    (hn : (assignEach es X.env).length = 2 := by rfl) (hst : (assignEach es X.env).findIdx? (·.1) = some 1 := by rfl) : PG X (.Tuple es k pos) (gStar X.K t) := by
  refine ⟨fun pins s σ H v u Q I r hw => ?_⟩
  obtain ⟨a, x, xs, e1, hq, hw⟩ := hw
  subst e1
  cases r
  obtain ⟨its, rv, ht, hz⟩ := I.tuple hq
  cases rv with
  | @cons _ y _ its rx rv =>
    have hz' : its.length ≤ sizeLine := by
      rw [← rv.length]
      exact Nat.le_trans (Nat.le_succ _) hz
    refine assign_star (I.ok.hd hc) ht hz' hn hst fun s2 hk hg hd ho => ?_
    obtain ⟨h2, g2, d2, t2, o2⟩ := s2
    obtain ⟨h1, g1, d1, t1, o1⟩ := s
    obtain rfl : g2 = g1 := hg
    obtain rfl : d2 = d1 := hd
    obtain rfl : o2 = o1 := ho
    have I1 : Inv X pins σ H ⟨h2, g2, d2, t2, o2⟩ := I.kept (h' := h2) (t' := t2) hk
    have I2 := I1.laid (a := h2.objs.size) (o := .lst xs) (h' := h2.push { cls := .type "list", data := .seq its.toArray }) (t' := t2) (fun b u e => Heap.get?_push_of_some _ e) (Nat.le_refl _)
      ⟨by rw [rv.length]; exact hz', its, 0, rv, Heap.get?_push_size _ rfl⟩
    exact h.run pins _ σ _ [x, .ref h2.objs.size] _ Q I2 (.cons rx (.cons rfl .nil)) (hw _ (I1.hok.fresh (Nat.le_refl _)))
/-- one of two readings -/
theorem pe_or2 {e : Expr} (h1 : PE X e t) (h2 : PE X e u) : PE X e (fun σ H Q => t σ H Q ∨ u σ H Q) :=
  ⟨fun pins s σ H Q I h => h.elim (h1.run pins s σ H Q I) (h2.run pins s σ H Q I)⟩
/-- one of many readings -/
theorem pe_some {ι : Type} {e : Expr} {t : ι → TE} (h : ∀ i, PE X e (t i)) : PE X e (fun σ H Q => ∃ i, t i σ H Q) :=
  ⟨fun pins s σ H Q I ⟨i, q⟩ => (h i).run pins s σ H Q I q⟩
theorem pi_or2 {tg e : Expr} {t u : TI} (h1 : PI X tg e t) (h2 : PI X tg e u) : PI X tg e (fun σ H R => t σ H R ∨ u σ H R) :=
  ⟨fun pins s σ H Q I h => h.elim (h1.run pins s σ H Q I) (h2.run pins s σ H Q I)⟩
end
end RS

/-! Presses: what they print, how they come round. Plain. -/
namespace RP
mutual
inductive Pr : Type
  | wheel (rim : List Nat)
  | turned (p : Pr) (n : Nat)
  | over (a b : Pr)
  | cut (a b : Pr)
  | held (a b : Pr)
  | taking (ps : Ps)
  | thn (a : Pr) (n : Nat) (b : Pr)
  | dyed (p : Pr) (ds : List (Nat × Nat))
inductive Ps : Type
  | nil
  | cons (p : Pr) (n : Nat) (r : Ps)
end
/-- how many of the first n places have a mark -/
def cnt (f : Nat → Nat) : Nat → Nat
  | 0 => 0
  | n + 1 => cnt f n + (if f n = 46 then 0 else 1)
def total : Ps → Nat
  | .nil => 0
  | .cons _ n r => n + total r
def dye (ds : List (Nat × Nat)) (c : Nat) : Nat := (ds.lookup c).getD c
mutual
def mark : Pr → Nat → Nat
  | .wheel rim, i => rim.getD (i % rim.length) 0
  | .turned p n, i => mark p (i + n)
  | .over a b, i => if mark b i = 46 then mark a i else mark b i
  | .cut a b, i => if mark b i = 46 then 46 else mark a i
  | .held a b, i => if mark b i = 46 then 46 else mark a (cnt (mark b) i)
  | .taking ps, i => markT ps (i / total ps) (i % total ps)
  | .thn a n b, i => if i < n then mark a i else mark b (i - n)
  | .dyed p ds, i => dye ds (mark p i)
def markT : Ps → Nat → Nat → Nat
  | .nil, _, _ => 0
  | .cons p n r, lap, more => if more < n then mark p (lap * n + more) else markT r lap (more - n)
end
/-- a / b, rounded up -/
def up (a b : Nat) : Nat := (a + b - 1) / b
mutual
/-- from where on it comes round, and by which length -/
def round : Pr → Nat × Nat
  | .wheel rim => (0, rim.length)
  | .turned p n => ((round p).1 - n, (round p).2)
  | .over a b => (max (round a).1 (round b).1, Nat.lcm (round a).2 (round b).2)
  | .cut a b => (max (round a).1 (round b).1, Nat.lcm (round a).2 (round b).2)
  | .held a b =>
    if cnt (mark b) ((round b).1 + (round b).2) - cnt (mark b) (round b).1 = 0 then ((round b).1, 1)
    else ((round b).1 + up ((round a).1 - cnt (mark b) (round b).1) (cnt (mark b) ((round b).1 + (round b).2) - cnt (mark b) (round b).1) * (round b).2,
      (round a).2 / Nat.gcd (round a).2 (cnt (mark b) ((round b).1 + (round b).2) - cnt (mark b) (round b).1) * (round b).2)
  | .taking ps => ((roundT ps).1 * total ps, (roundT ps).2 * total ps)
  | .thn _ n b => (n + (round b).1, (round b).2)
  | .dyed p _ => round p
def roundT : Ps → Nat × Nat
  | .nil => (0, 1)
  | .cons p n r => (max (up (round p).1 n) (roundT r).1, Nat.lcm ((round p).2 / Nat.gcd (round p).2 n) (roundT r).2)
end
mutual
/-- rims of some sign, pairs of some place -/
def Ok : Pr → Prop
  | .wheel rim => 0 < rim.length
  | .turned p _ => Ok p
  | .over a b => Ok a ∧ Ok b
  | .cut a b => Ok a ∧ Ok b
  | .held a b => Ok a ∧ Ok b
  | .taking ps => OkT ps ∧ 0 < total ps
  | .thn a _ b => Ok a ∧ Ok b
  | .dyed p _ => Ok p
def OkT : Ps → Prop
  | .nil => True
  | .cons p n r => Ok p ∧ 0 < n ∧ OkT r
end
/-! ### periods -/
def Per (f : Nat → Nat) (b l : Nat) : Prop := 0 < l ∧ ∀ i, b ≤ i → f (i + l) = f i
theorem Per.mul {f : Nat → Nat} {b l : Nat} (h : Per f b l) : ∀ (k i : Nat), b ≤ i → f (i + k * l) = f i
  | 0, i, _ => by rw [Nat.zero_mul]; rfl
  | k + 1, i, hi => by
    rw [Nat.succ_mul, ← Nat.add_assoc, h.2 _ (Nat.le_trans hi (Nat.le_add_right _ _))]
    exact h.mul k i hi
theorem Per.dvd {f : Nat → Nat} {b l m i : Nat} (h : Per f b l) (hd : l ∣ m) (hi : b ≤ i) : f (i + m) = f i := by
  obtain ⟨k, rfl⟩ := hd
  rw [Nat.mul_comm]
  exact h.mul k i hi
theorem cnt_le (f : Nat → Nat) : ∀ n, cnt f n ≤ n
  | 0 => Nat.le_refl _
  | n + 1 => by
    have := cnt_le f n
    show cnt f n + _ ≤ _
    split <;> omega
theorem cnt_mono (f : Nat → Nat) : ∀ {a b : Nat}, a ≤ b → cnt f a ≤ cnt f b := fun {a b} h => by
  induction h with
  | refl => exact Nat.le_refl _
  | step _ ih => exact Nat.le_trans ih (Nat.le_add_right _ _)
/-- the marks of one round -/
def perR (f : Nat → Nat) (b l : Nat) : Nat := cnt f (b + l) - cnt f b
theorem cnt_round {f : Nat → Nat} {b l : Nat} (h : Per f b l) : ∀ i, b ≤ i → cnt f (i + l) = cnt f i + perR f b l := fun i hi => by
  obtain ⟨d, rfl⟩ := Nat.exists_eq_add_of_le hi
  clear hi
  induction d with
  | zero =>
    have := cnt_mono f (Nat.le_add_right b l)
    unfold perR
    rw [Nat.add_zero]
    omega
  | succ d ih =>
    have e : b + (d + 1) + l = b + d + l + 1 := by omega
    have e2 : b + (d + 1) = b + d + 1 := by omega
    rw [e, e2]
    show cnt f (b + d + l) + _ = cnt f (b + d) + _ + _
    rw [ih, h.2 (b + d) (by omega)]
    omega
theorem cnt_rounds {f : Nat → Nat} {b l : Nat} (h : Per f b l) : ∀ k i, b ≤ i → cnt f (i + k * l) = cnt f i + k * perR f b l
  | 0, i, _ => by rw [Nat.zero_mul, Nat.zero_mul]; rfl
  | k + 1, i, hi => by
    rw [Nat.succ_mul, ← Nat.add_assoc, cnt_round h _ (Nat.le_trans hi (Nat.le_add_right _ _)), cnt_rounds h k i hi, Nat.succ_mul]
    omega
theorem up_mul {a b : Nat} (h : 0 < b) : a ≤ up a b * b := by
  unfold up
  have h1 := Nat.div_add_mod (a + b - 1) b
  have h2 := Nat.mod_lt (a + b - 1) h
  rw [Nat.mul_comm]
  omega
theorem dvd_gcd_mul {l m k : Nat} (h : l / Nat.gcd l m ∣ k) : l ∣ k * m := by
  have h1 : Nat.gcd l m ∣ l := Nat.gcd_dvd_left _ _
  have h2 : Nat.gcd l m ∣ m := Nat.gcd_dvd_right _ _
  obtain ⟨x, hx⟩ := h2
  obtain ⟨y, hy⟩ := h
  refine ⟨y * x, ?_⟩
  have e : l / Nat.gcd l m * Nat.gcd l m = l := Nat.div_mul_cancel h1
  calc k * m = (l / Nat.gcd l m * y) * (Nat.gcd l m * x) := by rw [← hy, ← hx]
    _ = (l / Nat.gcd l m * Nat.gcd l m) * (y * x) := by ac_rfl
    _ = l * (y * x) := by rw [e]
/-- a place of a taking press: whose turn, how far -/
def PerT : Ps → Nat → Nat → Prop
  | .nil, _, _ => True
  | .cons p n r, b, l => (∀ i, b * n ≤ i → mark p (i + l * n) = mark p i) ∧ PerT r b l
theorem PerT.at : ∀ (ps : Ps) {b l lap more : Nat}, PerT ps b l → b ≤ lap → markT ps (lap + l) more = markT ps lap more
  | .nil, _, _, _, _, _, _ => by simp [markT]
  | .cons p n r, b, l, lap, more, h, hb => by
    unfold markT
    by_cases hm : more < n
    · rw [if_pos hm, if_pos hm]
      have e : (lap + l) * n + more = lap * n + more + l * n := by rw [Nat.add_mul]; omega
      rw [e]
      refine h.1 _ ?_
      have := Nat.mul_le_mul_right n hb
      omega
    · rw [if_neg hm, if_neg hm]
      exact PerT.at r h.2 hb
theorem PerT.more : ∀ (ps : Ps) {b l b' l' : Nat}, PerT ps b l → b ≤ b' → l ∣ l' → PerT ps b' l'
  | .nil, _, _, _, _, _, _, _ => trivial
  | .cons p n r, b, l, b', l', h, hb, hl => by
    refine ⟨fun i hi => ?_, PerT.more r h.2 hb hl⟩
    obtain ⟨k, rfl⟩ := hl
    have := Nat.mul_le_mul_right n hb
    have e : l * k * n = k * (l * n) := by ac_rfl
    rw [e]
    have hi2 : b * n ≤ i := by omega
    clear e hi
    induction k with
    | zero => rw [Nat.zero_mul, Nat.add_zero]
    | succ k ih => rw [Nat.succ_mul, ← Nat.add_assoc, h.1 _ (by omega), ih]
mutual
theorem per : ∀ p, Ok p → Per (mark p) (round p).1 (round p).2
  | .wheel rim, h => by
    refine ⟨h, fun i _ => ?_⟩
    simp [mark, round]
  | .turned p n, h => by
    have ih := per p h
    refine ⟨ih.1, fun i hi => ?_⟩
    show mark p (i + (round p).2 + n) = mark p (i + n)
    have e : i + (round p).2 + n = i + n + (round p).2 := by omega
    rw [e]
    refine ih.2 _ ?_
    have hi' : (round p).1 - n ≤ i := hi
    omega
  | .over a b, h => by
    have ha := per a h.1
    have hb := per b h.2
    refine ⟨Nat.lcm_pos ha.1 hb.1, fun i hi => ?_⟩
    have hi' : max (round a).1 (round b).1 ≤ i := hi
    show (if mark b (i + Nat.lcm _ _) = 46 then mark a (i + Nat.lcm _ _) else mark b (i + Nat.lcm _ _)) = _
    rw [ha.dvd (Nat.dvd_lcm_left _ _) (by omega), hb.dvd (Nat.dvd_lcm_right _ _) (by omega)]
    rfl
  | .cut a b, h => by
    have ha := per a h.1
    have hb := per b h.2
    refine ⟨Nat.lcm_pos ha.1 hb.1, fun i hi => ?_⟩
    have hi' : max (round a).1 (round b).1 ≤ i := hi
    show (if mark b (i + Nat.lcm _ _) = 46 then 46 else mark a (i + Nat.lcm _ _)) = _
    rw [ha.dvd (Nat.dvd_lcm_left _ _) (by omega), hb.dvd (Nat.dvd_lcm_right _ _) (by omega)]
    rfl
  | .held a b, h => by
    have ha := per a h.1
    have hb := per b h.2
    have hr := cnt_rounds hb
    show Per (mark (.held a b)) (round (.held a b)).1 (round (.held a b)).2
    have hrd : round (.held a b) = if perR (mark b) (round b).1 (round b).2 = 0 then ((round b).1, 1)
        else ((round b).1 + up ((round a).1 - cnt (mark b) (round b).1) (perR (mark b) (round b).1 (round b).2) * (round b).2,
          (round a).2 / Nat.gcd (round a).2 (perR (mark b) (round b).1 (round b).2) * (round b).2) := by
      rw [round]
      rfl
    rw [hrd]
    by_cases h0 : perR (mark b) (round b).1 (round b).2 = 0
    · rw [if_pos h0]
      refine ⟨Nat.one_pos, fun i hi => ?_⟩
      have hi' : (round b).1 ≤ i := hi
      have none : ∀ j, (round b).1 ≤ j → mark b j = 46 := fun j hj => by
        have h1 := cnt_round hb j hj
        rw [h0, Nat.add_zero] at h1
        have hl : 0 < (round b).2 := hb.1
        have h2 := cnt_mono (mark b) (show j + 1 ≤ j + (round b).2 by omega)
        rw [h1] at h2
        have h3 : cnt (mark b) (j + 1) = cnt (mark b) j + (if mark b j = 46 then 0 else 1) := rfl
        rw [h3] at h2
        by_cases hm : mark b j = 46
        · exact hm
        · rw [if_neg hm] at h2
          omega
      show (if mark b (i + 1) = 46 then 46 else _) = (if mark b i = 46 then 46 else _)
      rw [if_pos (none _ (by omega)), if_pos (none _ hi')]
    · rw [if_neg h0]
      have hm : 0 < perR (mark b) (round b).1 (round b).2 := Nat.pos_of_ne_zero h0
      revert hm hr
      generalize perR (mark b) (round b).1 (round b).2 = mr
      intro hr hm
      have hg : 0 < Nat.gcd (round a).2 mr := Nat.gcd_pos_of_pos_left _ ha.1
      have ht : 0 < (round a).2 / Nat.gcd (round a).2 mr := Nat.div_pos (Nat.le_of_dvd ha.1 (Nat.gcd_dvd_left _ _)) hg
      refine ⟨Nat.mul_pos ht hb.1, fun i hi => ?_⟩
      have hi' : (round b).1 + up ((round a).1 - cnt (mark b) (round b).1) mr * (round b).2 ≤ i := hi
      have hbi : (round b).1 ≤ i := Nat.le_trans (Nat.le_add_right _ _) hi'
      show (if mark b (i + (round a).2 / Nat.gcd (round a).2 mr * (round b).2) = 46 then 46 else mark a (cnt (mark b) (i + (round a).2 / Nat.gcd (round a).2 mr * (round b).2))) = _
      rw [hb.mul _ _ hbi, hr _ _ hbi]
      have hge : (round a).1 ≤ cnt (mark b) i := by
        have h1 := cnt_mono (mark b) hi'
        rw [hr _ _ (Nat.le_refl _)] at h1
        have h2 := up_mul (a := (round a).1 - cnt (mark b) (round b).1) hm
        omega
      rw [ha.dvd (dvd_gcd_mul (Nat.dvd_refl _)) hge]
      rfl
  | .taking ps, h => by
    have hp := perT ps h.1
    refine ⟨Nat.mul_pos hp.1 h.2, fun i hi => ?_⟩
    have hi' : (roundT ps).1 * total ps ≤ i := hi
    show markT ps ((i + (roundT ps).2 * total ps) / total ps) ((i + (roundT ps).2 * total ps) % total ps) = markT ps (i / total ps) (i % total ps)
    rw [Nat.add_mul_div_right _ _ h.2, Nat.add_mul_mod_self_right]
    exact PerT.at ps hp.2 ((Nat.le_div_iff_mul_le h.2).mpr hi')
  | .thn a n b, h => by
    have hb := per b h.2
    refine ⟨hb.1, fun i hi => ?_⟩
    have hi' : n + (round b).1 ≤ i := hi
    show (if i + (round b).2 < n then _ else mark b (i + (round b).2 - n)) = (if i < n then _ else mark b (i - n))
    rw [if_neg (by omega), if_neg (by omega)]
    have e : i + (round b).2 - n = i - n + (round b).2 := by omega
    rw [e]
    exact hb.2 _ (by omega)
  | .dyed p ds, h => by
    have ih := per p h
    refine ⟨ih.1, fun i hi => ?_⟩
    show dye ds (mark p (i + (round p).2)) = dye ds (mark p i)
    rw [ih.2 i hi]
theorem perT : ∀ ps, OkT ps → 0 < (roundT ps).2 ∧ PerT ps (roundT ps).1 (roundT ps).2
  | .nil, _ => ⟨Nat.one_pos, trivial⟩
  | .cons p n r, h => by
    have hp := per p h.1
    have hr := perT r h.2.2
    have hg : 0 < Nat.gcd (round p).2 n := Nat.gcd_pos_of_pos_left _ hp.1
    have ht : 0 < (round p).2 / Nat.gcd (round p).2 n := Nat.div_pos (Nat.le_of_dvd hp.1 (Nat.gcd_dvd_left _ _)) hg
    refine ⟨Nat.lcm_pos ht hr.1, fun i hi => ?_, PerT.more r hr.2 (Nat.le_max_right _ _) (Nat.dvd_lcm_right _ _)⟩
    refine hp.dvd (dvd_gcd_mul (Nat.dvd_lcm_left _ _)) ?_
    have h1 := up_mul (a := (round p).1) h.2.1
    have h2 := Nat.mul_le_mul_right n (Nat.le_max_left (up (round p).1 n) (roundT r).1)
    have hi' : max (up (round p).1 n) (roundT r).1 * n ≤ i := hi
    omega
end
end RP

/-! Classes of the text, told by name; their fields. -/
namespace RQ
open PySem PySem.Spec PyProof.Rows L2 Evl TL RC
structure ClsT (K : PySem.W.Frag) (mg : Str → Option Value) (x : Str) (C : Addr) (fs : List Str) : Prop where
  cl : Cls K C
  at_ : mg x = some (.ref C)
  mks : PySem.W.makesIn K C = true
  kp : PySem.W.keepIn K (.ref C) = true
  na : ∀ f ∈ fs, NoAttr K C f
theorem naC {K : PySem.W.Frag} {C : Addr} {f : Str} {fs : List Str} (h : PySem.W.findIn K (.ref C) f = some none) (r : ∀ g ∈ fs, NoAttr K C g) : ∀ g ∈ f :: fs, NoAttr K C g := fun g hg => by
  rcases List.mem_cons.mp hg with e | e
  · rw [e]
    exact h
  · exact r g e
structure MetT (K : PySem.W.Frag) (C : Addr) (m qual : Str) (st : Stmt) (ps : List Str) : Prop where
  ex : ∃ f fd, Fun K m qual st f fd ∧ PySem.W.findIn K (.ref C) m = some (some (.ref f)) ∧ PySem.W.isFn K (.ref f) = true ∧ Binds K fd ps []
/-- at level k the class at C has a method m that keeps sp -/
def HasM (P : Program) (w : World) (K : PySem.W.Frag) (mg : Str → Option Value) (base : Heap) (CX : CXT) (k : Nat) (C : Addr) (m : Str) (ps : List Str) (sp : Sp) : Prop :=
  Cls K C ∧ ∃ f fd, FnOk P w K mg base CX k f fd ps sp ∧ Meth K C m f ∧ Binds K fd ps []
/-- at level k the name x holds the class at C, whose __init__ keeps sp -/
def HasI (P : Program) (w : World) (K : PySem.W.Frag) (mg : Str → Option Value) (base : Heap) (CX : CXT) (k : Nat) (x : Str) (C : Addr) (ps : List Str) (sp : Sp) : Prop :=
  mg x = some (.ref C) ∧ ∃ f fd, FnOk P w K mg base CX k f fd ps sp ∧ Mk K C f ∧ Binds K fd ps []
section
variable {P : Program} {w : World} {K : PySem.W.Frag} {mg : Str → Option Value} {base : Heap} {CX : CXT}
theorem HasM.mono {j k : Nat} {C : Addr} {m : Str} {ps : List Str} {sp : Sp} (h : HasM P w K mg base CX j C m ps sp) (l : j ≤ k) : HasM P w K mg base CX k C m ps sp := by
  obtain ⟨h0, f, fd, h1, h2, h3⟩ := h
  exact ⟨h0, f, fd, h1.mono l, h2, h3⟩
theorem HasI.mono {j k : Nat} {x : Str} {C : Addr} {ps : List Str} {sp : Sp} (h : HasI P w K mg base CX j x C ps sp) (l : j ≤ k) : HasI P w K mg base CX k x C ps sp := by
  obtain ⟨h0, f, fd, h1, h2, h3⟩ := h
  exact ⟨h0, f, fd, h1.mono l, h2, h3⟩
theorem MetT.ok {m qual : Str} {C : Addr} {st : Stmt} {N ps : List Str} {k : Nat} {sp : Sp} (F : MetT K C m qual st ps) (cl : Cls K C) (S : FnScope N ps (defScope st)) (len : ∀ vs H Q E, sp vs H Q E → vs.length = ps.length)
    (hbody : ∀ (f : Addr) (cdv : Value) (A : Around) (outer : List Env) (s : Shared) (H : Hp) (vs : List V) (Q : VK) (E : XK), Room k (A.deeper (envOfC qual (defScope st) s.heap.objs.size f cdv)) → sp vs H Q E →
      ∃ t, PSs (cxOf CX0 P w K mg base N qual (defScope st) f cdv A outer s H E).nox (defBody st) t ∧ t { nx := fun _ H' => Q .non H', rt := Q } (start N vs) H) : HasM P w K mg base CX0 (k + 1) C m ps sp := by
  obtain ⟨f, fd, h1, h2, h3, h4⟩ := F.ex
  exact ⟨cl, f, fd, h1.ok S len (hbody f), ⟨h2, h3, h1.kp⟩, h4⟩
theorem MetT.okI {x qual : Str} {C : Addr} {st : Stmt} {N ps fs : List Str} {k : Nat} {sp : Sp} (F : MetT K C "__init__" qual st ps) (c : ClsT K mg x C fs) (S : FnScope N ps (defScope st)) (len : ∀ vs H Q E, sp vs H Q E → vs.length = ps.length)
    (hbody : ∀ (f : Addr) (cdv : Value) (A : Around) (outer : List Env) (s : Shared) (H : Hp) (vs : List V) (Q : VK) (E : XK), Room k (A.deeper (envOfC qual (defScope st) s.heap.objs.size f cdv)) → sp vs H Q E →
      ∃ t, PSs (cxOf CX0 P w K mg base N qual (defScope st) f cdv A outer s H E).nox (defBody st) t ∧ t { nx := fun _ H' => Q .non H', rt := Q } (start N vs) H) : HasI P w K mg base CX0 (k + 1) x C ps sp := by
  obtain ⟨f, fd, h1, h2, h3, h4⟩ := F.ex
  exact ⟨c.at_, f, fd, h1.ok S len (hbody f), ⟨c.mks, h2, h3, c.kp⟩, h4⟩
end
section
variable {X : Cx} {CX : CXT} {E : XK} {k : Nat} {x m : Str} {C : Addr} {ps : List Str} {sp : Sp} {t : TA} {ta : TE} {e o : Expr} {es : List Expr} {p pos apos : Pos}
theorem pe_hasM {pl : Sem Bool} (h : HasM X.prog X.w X.K X.mg X.base CX k C m ps sp) (hr : Room k X.A) (hx : Passes CX X E) (he : PE X o ta) (ha : PA X (e :: es) t)
    (hst : starEach (e :: es) X.env = (false, eval e X.env) :: starEach es X.env := by rfl) (hpl : (backTo pos (starEach es X.env)).any (·.1) = false := by rfl)
    (ht : eval (.Call (.Attribute o m apos) (e :: es) [] pos) X.env = (do
      let ov ← eval o X.env
      standAt apos.atName
      let (f, first) ← holding [ov] (getMethod ov m pl)
      callWith pos f first (backTo pos (starEach (e :: es) X.env)) (backToKw pos (keywordEach [] X.env))) := by rfl) :
    PE X (.Call (.Attribute o m apos) (e :: es) [] pos) (tMeth C m sp [] E ta t) := by
  obtain ⟨h0, f, fd, h1, h2, h3⟩ := h
  exact pe_meth he h0 h2 h1 hr h3 .nil hx ha hst hpl ht
theorem pe_hasM0 {pl : Sem Bool} (h : HasM X.prog X.w X.K X.mg X.base CX k C m ps sp) (hr : Room k X.A) (hx : Passes CX X E) (he : PE X o ta)
    (ht : eval (.Call (.Attribute o m apos) [] [] pos) X.env = (do
      let ov ← eval o X.env
      standAt apos.atName
      let (f, first) ← holding [ov] (getMethod ov m pl)
      callWith pos f first (backTo pos (starEach [] X.env)) (backToKw pos (keywordEach [] X.env))) := by rfl) :
    PE X (.Call (.Attribute o m apos) [] [] pos) (tMeth C m sp [] E ta tNil) := by
  obtain ⟨h0, f, fd, h1, h2, h3⟩ := h
  exact pe_meth0 he h0 h2 h1 hr h3 .nil hx ht
theorem pe_hasI (h : HasI X.prog X.w X.K X.mg X.base CX k x C ps sp) (hr : Room (k + 1) X.A) (hx : Passes CX X E) (ha : PA X (e :: es) t) (hg : Gl X x := by rfl) (hd : (x == ("__debug__" : Str)) = false := by decide)
    (hs : starEach (e :: es) X.env = (false, eval e X.env) :: starEach es X.env := by rfl) (hpl : (backTo pos (starEach es X.env)).any (·.1) = false := by rfl) :
    PE X (.Call (.Name x p) (e :: es) [] pos) (tMake C sp [] E t) := by
  obtain ⟨h0, f, fd, h1, h2, h3⟩ := h
  exact pe_make h2 h1 hr hg h0 h3 .nil hx ha hd hs hpl
end
/-- o.f as a target -/
def gFld (K : PySem.W.Frag) (ta : TE) (f : Str) : TG := fun y σ H Q => ta σ H fun x H2 => ∃ a C dx fs, x = .ref a ∧ H2 a = some (.ins C dx fs) ∧ Cls K C ∧ NoAttr K C f ∧ fs.length < 1000 ∧ Q σ (upd H2 a (.ins C dx (putF f y fs)))
theorem pg_fld {X : Cx} {o : Expr} {f : Str} {ta : TE} {pos : Pos} (ho : PE X o ta) : PG X (.Attribute o f pos) (gFld X.K ta f) := by
  refine ⟨fun pins s σ H v u Q I r h => ?_⟩
  show wpAny _ _ (do
    let ov ← holding [u] (eval o X.env)
    standAt pos.atName
    holding [u, ov] (setAttr ov f u)
    release [u, ov] []) _ _ s
  refine wpAny_bind (wpAny_holding (thn (ho.run pins s σ H _ I h) fun ov s1 ⟨x, H1, I1, r1, a, C, dx, fs, ex, ea, c, n, l, q⟩ => ?_))
  subst ex
  obtain rfl : ov = Value.ref a := r1
  refine wpAny_bind (wpAny_standAt (wpAny_bind (wpAny_holding (setattr_ok I1 ea c n l r fun s3 I3 => ?_))))
  exact wpAny_release ⟨σ, _, I3, q⟩
/-! ### one of two -/
section
variable {X : Cx}
def or2 (r r' : R2) : R2 := fun x y H Q => r x y H Q ∨ r' x y H Q
theorem ix_or {r r' : R2} (h1 : IxR X r) (h2 : IxR X r') : IxR X (or2 r r') := by
  intro ve sl pins s σ H x y v u Q I rx ry h
  rcases h with h | h
  · exact h1 ve sl pins s σ H x y v u Q I rx ry h
  · exact h2 ve sl pins s σ H x y v u Q I rx ry h
theorem op_or {f : Value → Value → Sem Value} {r r' : R2} (h1 : OpR X f r) (h2 : OpR X f r') : OpR X f (or2 r r') := by
  intro pins s σ H x y v u Q I rx ry h
  rcases h with h | h
  · exact h1 pins s σ H x y v u Q I rx ry h
  · exact h2 pins s σ H x y v u Q I rx ry h
end
/-! ### great numbers -/
@[irreducible] def lim : Nat := 2 ^ 4000
theorem lim_eq : lim = 2 ^ 4000 := by unfold lim; rfl
theorem lim_pos : 0 < lim := by rw [lim_eq]; exact Nat.two_pow_pos _
theorem lim_small {n : Nat} (h : n < 2 ^ 64) : n < lim := by
  rw [lim_eq]
  exact Nat.lt_of_lt_of_le h (Nat.pow_le_pow_right (by decide) (by decide))
theorem lim_mul {i j : Nat} (hi : i < lim) (hj : j < lim) : CMulW (i : Int) (j : Int) := by
  rw [lim_eq] at hi hj
  exact wide_mul (a := 4000) (b := 4000) (by simpa using hi) (by simpa using hj) (by decide) (by decide) (by decide)
theorem lim_div {i : Int} {j : Nat} (h : 0 < j) (hj : j < lim) : CDivW i (j : Int) := by
  rw [lim_eq] at hj
  exact wide_div (b := 4000) (by omega) (by simpa using hj) (by decide) (by decide)
theorem lim_bits {n : Nat} (h : n < lim) : Builtin.Int.intBits (n : Int) ≤ 4000 := by
  unfold Builtin.Int.intBits
  rw [lim_eq] at h
  split
  · omega
  · have := Flt.log2_lt_of (k := 4000) (by decide) (by simpa using h : (n : Int).natAbs < 2 ^ 4000)
    omega
theorem lim_divp {i j : Nat} (h : 0 < j) (hi : i < lim) : CDivP (i : Int) (j : Int) := divp_ok (by omega) (by have := lim_bits hi; omega)
/-! ### fields -/
theorem lk {ks : List Str} {vs : List V} {f : Str} {i : Nat} {v : V} (hi : ks.idxOf f = i) (hl : i < ks.length) (hv : vs[i]? = some v) : (ks.zip vs).lookup f = some v := by
  subst hi
  induction ks generalizing vs with
  | nil => exact absurd hl (Nat.not_lt_zero _)
  | cons k r ih =>
    cases vs with
    | nil => simp at hv
    | cons x y =>
      by_cases e : f = k
      · subst e
        simp [List.idxOf_cons] at hv
        subst hv
        simp [List.lookup_cons]
      · have e2 : (k == f) = false := beq_eq_false_iff_ne.mpr fun q => e q.symm
        have e3 : (f == k) = false := beq_eq_false_iff_ne.mpr e
        rw [List.idxOf_cons, e2] at hv hl
        simp at hv hl
        rw [List.zip_cons_cons, List.lookup_cons, e3]
        exact ih hl hv
theorem lkNo {ks : List Str} {vs : List V} {f : Str} (h : f ∉ ks) : (ks.zip vs).lookup f = none := by
  induction ks generalizing vs with
  | nil => rfl
  | cons k r ih =>
    cases vs with
    | nil => rfl
    | cons x y =>
      have e3 : (f == k) = false := beq_eq_false_iff_ne.mpr fun q => h (q ▸ List.mem_cons_self)
      rw [List.zip_cons_cons, List.lookup_cons, e3]
      exact ih fun q => h (List.mem_cons_of_mem _ q)
theorem putF_new {ks : List Str} {vs : List V} {f : Str} {v : V} (h : f ∉ ks) (hl : ks.length = vs.length) : putF f v (ks.zip vs) = (ks ++ [f]).zip (vs ++ [v]) := by
  induction ks generalizing vs with
  | nil =>
    cases vs with
    | nil => rfl
    | cons x y => cases hl
  | cons k r ih =>
    cases vs with
    | nil => cases hl
    | cons x y =>
      have e3 : ¬ k = f := fun q => h (q ▸ List.mem_cons_self)
      show (if k = f then _ else (k, x) :: putF f v (r.zip y)) = (k, x) :: (r ++ [f]).zip (y ++ [v])
      rw [if_neg e3, ih (fun q => h (List.mem_cons_of_mem _ q)) (by simpa using hl)]
end RQ

/-! Rollers as they stand in the heap. -/
namespace RR
open PySem PySem.Spec PyProof.Rows L2 Evl TL RC RD RE RG RP RQ RS
/-- the roller's class, by number -/
def idx : Pr → Nat
  | .wheel _ => 0 | .turned _ _ => 1 | .over _ _ => 2 | .cut _ _ => 3 | .held _ _ => 4 | .taking _ => 5 | .thn _ _ _ => 6 | .dyed _ _ => 7
def keys : Nat → List Str
  | 0 => ["rim_kept"] | 1 => ["inner_kept", "ahead_kept"] | 2 => ["lower_kept", "upper_kept"] | 3 => ["inner_kept", "cam_kept"]
  | 4 => ["inner_kept", "cam_kept", "cam_begins", "cam_length", "sums_kept", "marks_early", "marks_round"]
  | 5 => ["inners_kept", "manies_kept", "lap_kept"] | 6 => ["inner_kept", "many_kept", "other_kept"] | _ => ["inner_kept", "dyes_kept"]
def Ins (H : Hp) (v : V) (C : Addr) (ks : List Str) (vs : List V) : Prop := ∃ a dx, v = .ref a ∧ H a = some (.ins C dx (ks.zip vs))
theorem Ins.ex {H H' : Hp} {v : V} {C : Addr} {ks : List Str} {vs : List V} (h : Ins H v C ks vs) (e : Ex H H') : Ins H' v C ks vs := by
  obtain ⟨a, dx, h1, h2⟩ := h
  exact ⟨a, dx, h1, e _ _ h2⟩
def manies : Ps → List V
  | .nil => []
  | .cons _ n r => .int (n : Int) :: manies r
/-- the sums of a cam -/
def sums (p : Pr) : List V := (List.range ((round p).1 + (round p).2 + 1)).map fun i => V.int (cnt (mark p) i : Int)
def dyesK (ds : List (Nat × Nat)) : List (Key × V) := ds.map fun d => (Sum.inr (S [d.1]), T [d.2])
mutual
def Roll (cs : Nat → Addr) (H : Hp) : Pr → V → Prop
  | .wheel rim, v => Ins H v (cs 0) (keys 0) [T rim]
  | .turned p n, v => ∃ x, Ins H v (cs 1) (keys 1) [x, .int (n : Int)] ∧ Roll cs H p x
  | .over a b, v => ∃ x y, Ins H v (cs 2) (keys 2) [x, y] ∧ Roll cs H a x ∧ Roll cs H b y
  | .cut a b, v => ∃ x y, Ins H v (cs 3) (keys 3) [x, y] ∧ Roll cs H a x ∧ Roll cs H b y
  | .held a b, v => ∃ x y l, Ins H v (cs 4) (keys 4) [x, y, .int ((round b).1 : Int), .int ((round b).2 : Int), .ref l, .int (cnt (mark b) (round b).1 : Int), .int (perR (mark b) (round b).1 (round b).2 : Int)] ∧
      H l = some (.lst (sums b)) ∧ Roll cs H a x ∧ Roll cs H b y
  | .taking ps, v => ∃ xs l m, Ins H v (cs 5) (keys 5) [.ref l, .ref m, .int (total ps : Int)] ∧ H l = some (.lst xs) ∧ H m = some (.lst (manies ps)) ∧ RollT cs H ps xs
  | .thn a n b, v => ∃ x y, Ins H v (cs 6) (keys 6) [x, .int (n : Int), y] ∧ Roll cs H a x ∧ Roll cs H b y
  | .dyed p ds, v => ∃ x d, Ins H v (cs 7) (keys 7) [x, .ref d] ∧ H d = some (.dK (dyesK ds)) ∧ Roll cs H p x
def RollT (cs : Nat → Addr) (H : Hp) : Ps → List V → Prop
  | .nil, xs => xs = []
  | .cons p _ r, xs => ∃ x ys, xs = x :: ys ∧ Roll cs H p x ∧ RollT cs H r ys
end
mutual
theorem Roll.ex {cs : Nat → Addr} {H H' : Hp} (e : Ex H H') : ∀ {p : Pr} {v : V}, Roll cs H p v → Roll cs H' p v
  | .wheel _, _, h => Ins.ex h e
  | .turned _ _, _, ⟨x, h1, h2⟩ => ⟨x, h1.ex e, Roll.ex e h2⟩
  | .over _ _, _, ⟨x, y, h1, h2, h3⟩ => ⟨x, y, h1.ex e, Roll.ex e h2, Roll.ex e h3⟩
  | .cut _ _, _, ⟨x, y, h1, h2, h3⟩ => ⟨x, y, h1.ex e, Roll.ex e h2, Roll.ex e h3⟩
  | .held _ _, _, ⟨x, y, l, h1, h4, h2, h3⟩ => ⟨x, y, l, h1.ex e, e _ _ h4, Roll.ex e h2, Roll.ex e h3⟩
  | .taking _, _, ⟨xs, l, m, h1, h2, h3, h4⟩ => ⟨xs, l, m, h1.ex e, e _ _ h2, e _ _ h3, RollT.ex e h4⟩
  | .thn _ _ _, _, ⟨x, y, h1, h2, h3⟩ => ⟨x, y, h1.ex e, Roll.ex e h2, Roll.ex e h3⟩
  | .dyed _ _, _, ⟨x, d, h1, h2, h3⟩ => ⟨x, d, h1.ex e, e _ _ h2, Roll.ex e h3⟩
theorem RollT.ex {cs : Nat → Addr} {H H' : Hp} (e : Ex H H') : ∀ {ps : Ps} {xs : List V}, RollT cs H ps xs → RollT cs H' ps xs
  | .nil, _, h => h
  | .cons _ _ _, _, ⟨x, ys, h1, h2, h3⟩ => ⟨x, ys, h1, Roll.ex e h2, RollT.ex e h3⟩
end
theorem Roll.ins {cs : Nat → Addr} {H : Hp} {p : Pr} {v : V} (h : Roll cs H p v) : ∃ a dx vs, v = .ref a ∧ H a = some (.ins (cs (idx p)) dx ((keys (idx p)).zip vs)) := by
  cases p with
  | wheel _ => obtain ⟨a, dx, h1, h2⟩ := h; exact ⟨a, dx, _, h1, h2⟩
  | turned _ _ => obtain ⟨_, ⟨a, dx, h1, h2⟩, _⟩ := h; exact ⟨a, dx, _, h1, h2⟩
  | over _ _ => obtain ⟨_, _, ⟨a, dx, h1, h2⟩, _⟩ := h; exact ⟨a, dx, _, h1, h2⟩
  | cut _ _ => obtain ⟨_, _, ⟨a, dx, h1, h2⟩, _⟩ := h; exact ⟨a, dx, _, h1, h2⟩
  | held _ _ => obtain ⟨_, _, _, ⟨a, dx, h1, h2⟩, _⟩ := h; exact ⟨a, dx, _, h1, h2⟩
  | taking _ => obtain ⟨_, _, _, ⟨a, dx, h1, h2⟩, _⟩ := h; exact ⟨a, dx, _, h1, h2⟩
  | thn _ _ _ => obtain ⟨_, _, ⟨a, dx, h1, h2⟩, _⟩ := h; exact ⟨a, dx, _, h1, h2⟩
  | dyed _ _ => obtain ⟨_, _, ⟨a, dx, h1, h2⟩, _⟩ := h; exact ⟨a, dx, _, h1, h2⟩
theorem idx_lt (p : Pr) : idx p < 8 := by cases p <;> simp [idx]
theorem is_0 {p : Pr} (h : idx p = 0) : ∃ rim', p = .wheel rim' := by
  cases p <;> first | exact ⟨_, rfl⟩ | (simp [idx] at h)
theorem is_1 {p : Pr} (h : idx p = 1) : ∃ p' n', p = .turned p' n' := by
  cases p <;> first | exact ⟨_, _, rfl⟩ | (simp [idx] at h)
theorem is_2 {p : Pr} (h : idx p = 2) : ∃ a' b', p = .over a' b' := by
  cases p <;> first | exact ⟨_, _, rfl⟩ | (simp [idx] at h)
theorem is_3 {p : Pr} (h : idx p = 3) : ∃ a' b', p = .cut a' b' := by
  cases p <;> first | exact ⟨_, _, rfl⟩ | (simp [idx] at h)
theorem is_4 {p : Pr} (h : idx p = 4) : ∃ a' b', p = .held a' b' := by
  cases p <;> first | exact ⟨_, _, rfl⟩ | (simp [idx] at h)
theorem is_5 {p : Pr} (h : idx p = 5) : ∃ ps', p = .taking ps' := by
  cases p <;> first | exact ⟨_, rfl⟩ | (simp [idx] at h)
theorem is_6 {p : Pr} (h : idx p = 6) : ∃ a' n' b', p = .thn a' n' b' := by
  cases p <;> first | exact ⟨_, _, _, rfl⟩ | (simp [idx] at h)
theorem is_7 {p : Pr} (h : idx p = 7) : ∃ p' ds', p = .dyed p' ds' := by
  cases p <;> first | exact ⟨_, _, rfl⟩ | (simp [idx] at h)
theorem no_mark : ∀ i : Fin 8, ("mark" : Str) ∉ keys i.val := by decide +kernel
theorem no_round : ∀ i : Fin 8, ("comes_round" : Str) ∉ keys i.val := by decide +kernel
/-! ### how deep; what must hold of numbers -/
mutual
def dep : Pr → Nat
  | .wheel _ => 1
  | .turned p _ => dep p + 1
  | .over a b => max (dep a) (dep b) + 1
  | .cut a b => max (dep a) (dep b) + 1
  | .held a b => max (dep a) (dep b) + 1
  | .taking ps => depT ps + 1
  | .thn a _ b => max (dep a) (dep b) + 1
  | .dyed p _ => dep p + 1
def depT : Ps → Nat
  | .nil => 0
  | .cons p _ r => max (dep p) (depT r)
end
mutual
/-- how far ahead of a place its parts may be asked -/
def ahd : Pr → Nat
  | .wheel _ => 0
  | .turned p n => ahd p + n
  | .over a b => max (ahd a) (ahd b)
  | .cut a b => max (ahd a) (ahd b)
  | .held a b => max (ahd a) (ahd b)
  | .taking ps => ahdT ps
  | .thn a _ b => max (ahd a) (ahd b)
  | .dyed p _ => ahd p
def ahdT : Ps → Nat
  | .nil => 0
  | .cons p _ r => max (ahd p) (ahdT r)
end
mutual
/-- rims that are no texts too long; cams that are short; numbers that are not too great; pairs -/
def Fit : Pr → Prop
  | .wheel rim => 0 < rim.length ∧ rim.length ≤ 100000
  | .turned p n => Fit p ∧ n < lim
  | .over a b => Fit a ∧ Fit b
  | .cut a b => Fit a ∧ Fit b ∧ (round b).1 + (round b).2 ≤ 100000
  | .held a b => Fit a ∧ Fit b ∧ (round b).1 + (round b).2 ≤ 100000
  | .taking ps => FitT ps ∧ 0 < total ps ∧ total ps < lim ∧ (manies ps).length ≤ 1000
  | .thn a n b => Fit a ∧ Fit b ∧ n < lim
  | .dyed p ds => Fit p ∧ ds.length ≤ 100
def FitT : Ps → Prop
  | .nil => True
  | .cons p n r => Fit p ∧ 0 < n ∧ n < lim ∧ FitT r
end
mutual
theorem Fit.ok : ∀ (p : Pr), Fit p → Ok p
  | .wheel _, h => h.1
  | .turned p _, h => Fit.ok p h.1
  | .over a b, h => ⟨Fit.ok a h.1, Fit.ok b h.2⟩
  | .cut a b, h => ⟨Fit.ok a h.1, Fit.ok b h.2.1⟩
  | .held a b, h => ⟨Fit.ok a h.1, Fit.ok b h.2.1⟩
  | .taking ps, h => ⟨FitT.ok ps h.1, h.2.1⟩
  | .thn a _ b, h => ⟨Fit.ok a h.1, Fit.ok b h.2.1⟩
  | .dyed p _, h => Fit.ok p h.1
theorem FitT.ok : ∀ (ps : Ps), FitT ps → OkT ps
  | .nil, _ => trivial
  | .cons p _ r, h => ⟨Fit.ok p h.1, h.2.1, FitT.ok r h.2.2.2⟩
end
/-- what mark promises: at most so deep -/
def sp_mark (K : PySem.W.Frag) (cs : Nat → Addr) (c : Fin 8) (d : Nat) : Sp := fun vs H Q _ => ∃ (p : Pr) (v : V) (i : Nat), vs = [v, .int (i : Int)] ∧
  (idx p = c.val ∧ Roll cs H p v ∧ dep p ≤ d ∧ Fit p ∧ i + ahd p < lim) ∧ RetV (T [mark p i]) H Q
section
variable {K : PySem.W.Frag} {cs : Nat → Addr} {σ : L2.St} {H H' : Hp} {ta te : TE} {v : V} {p : Pr} {d : Nat}
/-- o.mark(e), whatever o is -/
theorem ev_mark {i : Nat} (ho : Ev ta σ H v) (hr : Roll cs H p v) (hd : dep p ≤ d) (hf : Fit p) (hi : Ev te σ H (.int (i : Int))) (hl : i + ahd p < lim) :
    Ev (fun σ H Q => ∃ c : Fin 8, tMeth (cs c.val) "mark" (sp_mark K cs c d) [] E0 ta (tCons te tNil) σ H Q) σ H (T [mark p i]) := fun H1 e Q q => by
  refine ⟨⟨idx p, idx_lt p⟩, ho H1 e _ fun H2 e2 => ?_⟩
  obtain ⟨a, dx, vs, rfl, ha⟩ := (hr.ex (e.trans e2)).ins
  refine ⟨a, dx, _, rfl, ha, lkNo (no_mark ⟨idx p, idx_lt p⟩), hi H2 (e.trans e2) _ fun H3 e3 => ?_⟩
  exact ⟨p, .ref a, i, rfl, ⟨rfl, hr.ex ((e.trans e2).trans e3), hd, hf, hl⟩, fun H4 e4 => q H4 ((e2.trans e3).trans e4)⟩
/-- a, b = a pair -/
theorem q_asgT2 {D : Ends} {tz : TS} {x y : V} {i j : Nat} (h : EvU te σ H [x, y]) (k : ∀ H1, Ex H H1 → tz D ((σ.set i (some x)).set j (some y)) H1) : tSeq (tAsg te (gTup K 2 (gCons (gName i) (gCons (gName j) gNil)))) tz D σ H :=
  h H (Ex.refl H) _ fun q H1 _ e hq => ⟨q, _, rfl, SqT.of hq, rfl, _, _, rfl, _, _, rfl, rfl, k H1 e⟩
theorem eu_divmod {tb : TE} {i j : Nat} (ha : Ev ta σ H (.int (i : Int))) (hb : Ev tb σ H (.int (j : Int))) (h0 : 0 < j) (hi : i < lim) :
    EvU (tCB (fun xs H Q => ∃ i j, xs = [.int i, .int j] ∧ CDivP i j ∧ ∀ p, H p = none → Q (.ref p) (upd H p (.tup [.int (i / j), .int (i % j)]))) (tCons ta (tCons tb tNil))) σ H [.int ((i / j : Nat) : Int), .int ((i % j : Nat) : Int)] := fun H1 e Q q =>
  ha H1 e _ fun H2 e2 => hb H2 (e.trans e2) _ fun H3 e3 => ⟨(i : Int), (j : Int), rfl, lim_divp h0 hi, fun p hp => by
    have e1 : (i : Int) / (j : Int) = ((i / j : Nat) : Int) := (Int.natCast_ediv i j).symm
    have e4 : (i : Int) % (j : Int) = ((i % j : Nat) : Int) := (Int.natCast_emod i j).symm
    rw [e1, e4]
    exact q p _ (fresh_back (e2.trans e3) hp) ((e2.trans e3).trans (Ex.new hp)) upd_same⟩
theorem ev_mulW {tb : TE} {i j : Nat} (ha : Ev ta σ H (.int (i : Int))) (hb : Ev tb σ H (.int (j : Int))) (hi : i < lim) (hj : j < lim) : Ev (tOp (rI CMulW fun i j => .int (i * j)) ta tb) σ H (.int ((i * j : Nat) : Int)) := by
  rw [Int.natCast_mul]
  exact ev_op ha hb (rv_I (lim_mul hi hj))
theorem ev_divW {tb : TE} {i : Int} {j : Nat} (ha : Ev ta σ H (.int i)) (hb : Ev tb σ H (.int (j : Int))) (h0 : 0 < j) (hj : j < lim) : Ev (tOp (rI CDivW fun i j => .int (i / j)) ta tb) σ H (.int (i / (j : Int))) := ev_op ha hb (rv_I (lim_div h0 hj))
theorem ev_addN {tb : TE} {i j : Nat} (ha : Ev ta σ H (.int (i : Int))) (hb : Ev tb σ H (.int (j : Int))) : Ev (tOp (rI0 fun i j => .int (i + j)) ta tb) σ H (.int ((i + j : Nat) : Int)) := ev_is (ev_i0 ha hb) (by simp)
theorem ev_subN {tb : TE} {i j : Nat} (ha : Ev ta σ H (.int (i : Int))) (hb : Ev tb σ H (.int (j : Int))) (h : j ≤ i) : Ev (tOp (rI0 fun i j => .int (i - j)) ta tb) σ H (.int ((i - j : Nat) : Int)) := ev_is (ev_i0 ha hb) (by congr 1; omega)
/-- a number of a list -/
theorem ev_ixL {tb : TE} {l : Addr} {xs : List V} {i : Nat} {x : V} (ha : Ev ta σ H (.ref l)) (hl : H l = some (.lst xs)) (hb : Ev tb σ H (.int (i : Int))) (hx : xs[i]? = some x) : Ev (tOp (rIxL K) ta tb) σ H x := ev_op ha hb (rv_ixL (SqL.of hl) (atI_nat hx))
theorem sums_len (p : Pr) : (sums p).length = (round p).1 + (round p).2 + 1 := by simp [sums]
theorem sums_at {p : Pr} {i : Nat} (h : i < (round p).1 + (round p).2 + 1) : (sums p)[i]? = some (V.int (cnt (mark p) i : Int)) := by simp [sums, h]
/-- the marks of a cam ahead of a place -/
def sp_ahead (K : PySem.W.Frag) (cs : Nat → Addr) : Sp := fun vs H Q _ => ∃ (a b : Pr) (v : V) (i : Nat), vs = [v, .int (i : Int)] ∧ (Roll cs H (.held a b) v ∧ Fit (.held a b) ∧ i < lim) ∧ RetV (.int (cnt (mark b) i : Int)) H Q
theorem ev_ahead {a b : Pr} {i : Nat} (ho : Ev ta σ H v) (hr : Roll cs H (.held a b) v) (hf : Fit (.held a b)) (hi : Ev te σ H (.int (i : Int))) (hl : i < lim) :
    Ev (tMeth (cs 4) "marks_ahead" (sp_ahead K cs) [] E0 ta (tCons te tNil)) σ H (.int (cnt (mark b) i : Int)) := fun H1 e Q q => ho H1 e _ fun H2 e2 => by
  obtain ⟨p, dx, vs, rfl, ha⟩ := (hr.ex (e.trans e2)).ins
  exact ⟨p, dx, _, rfl, ha, lkNo (by show ("marks_ahead" : Str) ∉ keys 4; decide +kernel), hi H2 (e.trans e2) _ fun H3 e3 => ⟨a, b, .ref p, i, rfl, ⟨hr.ex ((e.trans e2).trans e3), hf, hl⟩, fun H4 e4 => q H4 ((e2.trans e3).trans e4)⟩⟩
theorem lim_100k {n : Nat} (h : n ≤ 100000) : n < lim := lim_small (Nat.lt_of_le_of_lt h (by decide))
theorem dye_val (ds : List (Nat × Nat)) (c : Nat) : (valV (dyesK ds) (Sum.inr (S [c]) : Key)).getD (T [c]) = T [dye ds c] := by
  unfold dye
  induction ds with
  | nil => rfl
  | cons q r ih =>
    obtain ⟨a, b⟩ := q
    by_cases e : a = c
    · subst e
      simp [dyesK, valV]
    · have e2 : (c == a) = false := beq_eq_false_iff_ne.mpr fun x => e x.symm
      rw [List.lookup_cons, e2, ← ih]
      have e3 : ¬ ((Sum.inr (S [a]) : Key) = Sum.inr (S [c])) := fun x => e (by
        have := S_inj.mp (Sum.inr.inj x)
        exact (List.cons.inj this).1)
      simp [dyesK, valV, e3]
theorem ev_dye {tk tx : TE} {dd : Addr} {ds : List (Nat × Nat)} {c : Nat} (hd : Ev ta σ H (.ref dd)) (hH : H dd = some (.dK (dyesK ds))) (hk : Ev tk σ H (T [c])) (hx : Ev tx σ H (T [c])) : Ev (tDGet2 ta tk tx) σ H (T [dye ds c]) := fun H1 e Q q =>
  hd H1 e _ fun H2 e2 => ⟨dd, rfl, .inl ⟨_, .inl ((e.trans e2) _ _ hH)⟩, hk H2 (e.trans e2) _ fun H3 e3 => hx H3 ((e.trans e2).trans e3) _ fun H4 e4 => ⟨_, DGet.k (k := Sum.inr (S [c])) ((((e.trans e2).trans e3).trans e4) _ _ hH), by
    rw [dye_val]
    exact q H4 ((e2.trans e3).trans e4)⟩⟩
/-! ### turns -/
theorem manies_len : ∀ (ps : Ps) {cs : Nat → Addr} {H : Hp} {xs : List V}, RollT cs H ps xs → (manies ps).length = xs.length
  | .nil, _, _, _, h => by
    have h' : _ = [] := h
    rw [h']
    rfl
  | .cons p n r, _, _, _, ⟨x, ys, h1, h2, h3⟩ => by
    rw [h1]
    show (manies r).length + 1 = ys.length + 1
    rw [manies_len r h3]
/-- a field -/
theorem ev_fld {C : Addr} {ks fs : List Str} {vs : List V} {f : Str} {i : Nat} {x : V} (cl : Cls K C) (hn : ∀ g ∈ fs, NoAttr K C g) (ho : Ev ta σ H v) (hv : Ins H v C ks vs) (hf : f ∈ fs) (hi : ks.idxOf f = i) (hl : i < ks.length) (hx : vs[i]? = some x) :
    Ev (tFld K ta f) σ H x := fun H1 e Q q => ho H1 e _ fun H2 e2 => by
  obtain ⟨a, dx, rfl, ha⟩ := hv.ex (e.trans e2)
  exact ⟨a, C, dx, _, x, rfl, ha, cl, hn f hf, lk hi hl hx, q H2 e2⟩
end
end RR

/-! How rollers come round: numbers, promises. -/
namespace RT
open PySem PySem.Spec PyProof.Rows L2 Evl TL RC RD RE RG RP RQ RS RR
def RetU (xs : List V) (H : Hp) (Q : VK) : Prop := ∀ p H2, H p = none → Ex H H2 → H2 p = some (.tup xs) → Q (.ref p) H2
theorem RetU.go {xs : List V} {H H' H2 : Hp} {Q : VK} (k : RetU xs H Q) (e : Ex H H') {p : Addr} (hp : H' p = none) (e2 : Ex H' H2) (h : H2 p = some (.tup xs)) : Q (.ref p) H2 := k p H2 (fresh_back e hp) (e.trans e2) h
def rd2 (p : Pr) : List V := [.int ((round p).1 : Int), .int ((round p).2 : Int)]
/-- all that is reckoned on the way is not too great -/
def Bnd (p : Pr) : Prop := (round p).1 < lim ∧ (round p).2 < lim
mutual
def FitR : Pr → Prop
  | .wheel _ => True
  | .turned p n => FitR p
  | .over a b => FitR a ∧ FitR b ∧ (round (.over a b)).2 < lim
  | .cut a b => FitR a ∧ FitR b ∧ (round (.cut a b)).2 < lim
  | .held a b => FitR a ∧ FitR b ∧ Bnd (.held a b) ∧ ahd b + 100000 < lim
  | .taking ps => FitRT ps ∧ Bnd (.taking ps)
  | .thn a n b => FitR a ∧ FitR b ∧ Bnd (.thn a n b)
  | .dyed p _ => FitR p
def FitRT : Ps → Prop
  | .nil => True
  | .cons p _ r => FitR p ∧ FitRT r
end
theorem lim_wheel {n : Nat} (h : n ≤ 100000) : n < lim := lim_100k h
theorem bnd : ∀ (p : Pr), Fit p → FitR p → Bnd p
  | .wheel rim, h, _ => ⟨lim_pos, lim_100k h.2⟩
  | .turned p n, h, r => by
    have := bnd p h.1 r
    exact ⟨Nat.lt_of_le_of_lt (Nat.sub_le _ _) this.1, this.2⟩
  | .over a b, h, r => ⟨by
      have h1 := bnd a h.1 r.1
      have h2 := bnd b h.2 r.2.1
      show max (round a).1 (round b).1 < lim
      have := h1.1
      have := h2.1
      omega, r.2.2⟩
  | .cut a b, h, r => ⟨by
      have h1 := bnd a h.1 r.1
      have h2 := bnd b h.2.1 r.2.1
      show max (round a).1 (round b).1 < lim
      have := h1.1
      have := h2.1
      omega, r.2.2⟩
  | .held a b, _, r => r.2.2.1
  | .taking ps, _, r => r.2
  | .thn a n b, _, r => r.2.2
  | .dyed p _, h, r => bnd p h.1 r
theorem up_le {a b : Nat} (h : 0 < b) : up a b ≤ a := by
  unfold up
  rcases Nat.eq_zero_or_pos a with e | e
  · subst e
    rw [Nat.zero_add, Nat.div_eq_of_lt (by omega)]
    exact Nat.le_refl _
  · refine (Nat.div_le_iff_le_mul h).mpr ?_
    have : a * 1 ≤ a * b := Nat.mul_le_mul_left _ h
    have h2 : (a - 1) * 1 ≤ (a - 1) * b := Nat.mul_le_mul_left _ h
    have h3 : a * b = (a - 1) * b + b := by
      obtain ⟨c, rfl⟩ := Nat.exists_eq_succ_of_ne_zero (Nat.pos_iff_ne_zero.mp e)
      rw [Nat.succ_mul]
      rfl
    omega
theorem up_int (a : Nat) {b : Nat} (h : 0 < b) : -(-(a : Int) / (b : Int)) = ((up a b : Nat) : Int) := by
  have hb : (0 : Int) < b := by omega
  have h2 := Nat.div_add_mod (a + b - 1) b
  have h3 := Nat.mod_lt (a + b - 1) h
  have h4 : a ≤ up a b * b := up_mul h
  have h5 : up a b * b ≤ a + b - 1 := by
    have : up a b * b = (a + b - 1) / b * b := rfl
    rw [Nat.mul_comm] at h2
    omega
  have hm : (b : Int) * ((up a b : Nat) : Int) = ((up a b * b : Nat) : Int) := by rw [Int.natCast_mul, Int.mul_comm]
  have h1 : -(a : Int) / (b : Int) = -((up a b : Nat) : Int) := by
    refine ((Int.ediv_emod_unique (a := -(a : Int)) (r := ((up a b * b - a : Nat) : Int)) (q := -((up a b : Nat) : Int)) hb).mpr ⟨?_, ?_, ?_⟩).1
    · rw [Int.mul_neg, hm]
      omega
    · omega
    · omega
  rw [h1, Int.neg_neg]
section
variable {K : PySem.W.Frag} {cs : Nat → Addr} {σ : L2.St} {H H' : Hp} {ta tb te : TE} {v : V} {p : Pr} {d : Nat} {D : Ends} {tz : TS}
theorem eu_call {sp : Sp} {dvs vs xs : List V} {E : XK} {ta : TA} (h : EvA ta σ H vs) (hs : ∀ H1, Ex H H1 → ∀ Q, RetU xs H1 Q → ∀ E : XK, sp (vs ++ dvs) H1 Q E) : EvU (tCall sp dvs E ta) σ H xs := fun H1 e Q q =>
  h H1 e _ fun H2 e2 => hs H2 (e.trans e2) _ (fun p H3 hp e3 h3 => q p H3 (fresh_back e2 hp) (e2.trans e3) h3) _
theorem ev_sum {l : Addr} {ns : List Int} (h : Ev te σ H (.ref l)) (hl : SqL K H l (ns.map V.int)) : Ev (tCB (rSum K) (tCons te tNil)) σ H (.int ns.sum) :=
  ev_cb (ea_cons h ea_nil) fun H1 e Q q => ⟨l, ns, rfl, ex_l e hl, q H1 (Ex.refl H1)⟩
/-- xs.append(e), of a long list -/
theorem s_appB {l : Addr} {xs : List V} (hl : H l = some (.lst xs)) (ha : Ev ta σ H (.ref l)) (h : Ev te σ H v) (hz : xs.length < 16777216) (k : ∀ H1, Ex H H1 → D.nx σ (upd H1 l (.lst (xs ++ [v])))) : tDrop (tBM K "list" rAppend ta (tCons te tNil)) D σ H := ha H (Ex.refl H) _ fun H1 e1 =>
  ⟨Or.inl ⟨rfl, xs, sq_of (e1 l _ hl)⟩, h H1 e1 _ fun H2 e2 => ⟨l, xs, v, rfl, rfl, e2 l _ (e1 l _ hl), by rw [big]; exact hz, k H2 (e1.trans e2)⟩⟩
theorem q_forZip {ta : TA} {tu : TS} {g : TG} {a b : Addr} {xs ys : List V} (h : EvA ta σ H [.ref a, .ref b]) (hx : H a = some (.lst xs)) (hy : H b = some (.lst ys)) (hl : xs.length = ys.length) (Pv : Nat → L2.St → Hp → Prop) (h0 : ∀ H1, Ex H H1 → Pv 0 σ H1)
    (hq : ∀ i σ' H', Pv i σ' H' → Ex H H')
    (hs : ∀ (i : Nat) (x y : V) (T : Addr) (σ' : L2.St) (H' : Hp), xs[i]? = some x → ys[i]? = some y → Pv i σ' H' → H' T = none → g (.ref T) σ' (upd H' T (.tup [x, y])) fun σ2 H2 => tu { D with nx := Pv (i + 1), ct := Pv (i + 1), bk := tz D } σ2 H2)
    (hd : ∀ σ' H', Pv xs.length σ' H' → tz D σ' H') : tSeq (tFor (iZip K ta) g tu) tz D σ H :=
  h H (Ex.refl H) _ fun H1 e => ⟨a, b, xs, ys, rfl, SqL.of (e _ _ hx), SqL.of (e _ _ hy), RZ.for_zipL (D := { D with nx := tz D }) hl Pv (h0 H1 e) (fun i σ' H' p => ⟨SqL.of (hq i σ' H' p _ _ hx), SqL.of (hq i σ' H' p _ _ hy)⟩) hs hd⟩
theorem ev_maxN {i j : Nat} (ha : Ev ta σ H (.int (i : Int))) (hb : Ev tb σ H (.int (j : Int))) : Ev (tCB (fun xs H Q => ∃ i j, xs = [.int i, .int j] ∧ Q (.int (if j > i then j else i)) H) (tCons ta (tCons tb tNil))) σ H (.int ((max i j : Nat) : Int)) := fun H1 e Q q =>
  ha H1 e _ fun H2 e2 => hb H2 (e.trans e2) _ fun H3 e3 => ⟨(i : Int), (j : Int), rfl, by
    have e4 : (if (j : Int) > (i : Int) then (j : Int) else (i : Int)) = ((max i j : Nat) : Int) := by split <;> omega
    rw [e4]
    exact q H3 (e2.trans e3)⟩
/-- max(0, a - b) -/
theorem ev_max0 {i j : Nat} {t0 : TE} (h0 : Ev t0 σ H (.int 0)) (ha : Ev ta σ H (.int (i : Int))) (hb : Ev tb σ H (.int (j : Int))) :
    Ev (tCB (fun xs H Q => ∃ i j, xs = [.int i, .int j] ∧ Q (.int (if j > i then j else i)) H) (tCons t0 (tCons (tOp (rI0 fun i j => .int (i - j)) ta tb) tNil))) σ H (.int ((i - j : Nat) : Int)) := fun H1 e Q q =>
  h0 H1 e _ fun H2 e2 => ha H2 (e.trans e2) _ fun H3 e3 => hb H3 ((e.trans e2).trans e3) _ fun H4 e4 => ⟨(i : Int), (j : Int), rfl, rfl, 0, (i : Int) - (j : Int), rfl, by
    have e5 : (if (i : Int) - (j : Int) > 0 then (i : Int) - (j : Int) else 0) = ((i - j : Nat) : Int) := by split <;> omega
    rw [e5]
    exact q H4 ((e2.trans e3).trans e4)⟩
/-- what comes_round promises -/
def sp_round (K : PySem.W.Frag) (cs : Nat → Addr) (c : Fin 8) (d : Nat) : Sp := fun vs H Q _ => ∃ (p : Pr) (v : V), vs = [v] ∧ (idx p = c.val ∧ Roll cs H p v ∧ dep p ≤ d ∧ Fit p ∧ FitR p) ∧ RetU (rd2 p) H Q
theorem eu_round (ho : Ev ta σ H v) (hr : Roll cs H p v) (hd : dep p ≤ d) (hf : Fit p) (hR : FitR p) :
    EvU (fun σ H Q => ∃ c : Fin 8, tMeth (cs c.val) "comes_round" (sp_round K cs c d) [] E0 ta tNil σ H Q) σ H (rd2 p) := fun H1 e Q q => by
  refine ⟨⟨idx p, idx_lt p⟩, ho H1 e _ fun H2 e2 => ?_⟩
  obtain ⟨a, dx, vs, rfl, ha⟩ := (hr.ex (e.trans e2)).ins
  exact ⟨a, dx, _, rfl, ha, lkNo (no_round ⟨idx p, idx_lt p⟩), p, .ref a, rfl, ⟨rfl, hr.ex (e.trans e2), hd, hf, hR⟩, fun q' H3 hp e3 h3 => q q' H3 (fresh_back e2 hp) (e2.trans e3) h3⟩
def sp_common_part (K : PySem.W.Frag) : Sp := fun vs H Q _ => ∃ (a b : Nat), vs = [.int (a : Int), .int (b : Int)] ∧ RetV (.int (Nat.gcd a b : Int)) H Q
def sp_common_multiple (K : PySem.W.Frag) : Sp := fun vs H Q _ => ∃ (a b : Nat), vs = [.int (a : Int), .int (b : Int)] ∧ (0 < a ∧ 0 < b ∧ a < lim ∧ b < lim) ∧ RetV (.int (Nat.lcm a b : Int)) H Q
def sp_rounded_up (K : PySem.W.Frag) : Sp := fun vs H Q _ => ∃ (a b : Nat), vs = [.int (a : Int), .int (b : Int)] ∧ (0 < b ∧ b < lim) ∧ RetV (.int (up a b : Int)) H Q
def both (a b : Pr) : List V := [.int ((max (round a).1 (round b).1 : Nat) : Int), .int (Nat.lcm (round a).2 (round b).2 : Int)]
def sp_both_round (K : PySem.W.Frag) (cs : Nat → Addr) (d : Nat) : Sp := fun vs H Q _ => ∃ (a b : Pr) (x y : V), vs = [x, y] ∧ (Roll cs H a x ∧ Roll cs H b y ∧ dep a ≤ d ∧ dep b ≤ d ∧ Fit a ∧ Fit b ∧ FitR a ∧ FitR b) ∧ RetU (both a b) H Q
def sp_need_short (K : PySem.W.Frag) (cs : Nat → Addr) (d : Nat) : Sp := fun vs H Q _ => ∃ (p : Pr) (v : V), vs = [v] ∧ (Roll cs H p v ∧ dep p ≤ d ∧ Fit p ∧ FitR p ∧ (round p).1 + (round p).2 ≤ 100000) ∧ RetV .non H Q
end
end RT

/-! A tuple without a dict of its own; dict() of one that holds pairs. -/
namespace RDI
open PySem PySem.Spec PyProof.Rows L2 Evl
def PlT (H : Hp) (a : Addr) (xs : List V) : Prop := ∃ o : Obj, o.dict = none ∧ H a = some (.frz o (.tup xs))
theorem PlT.ex {H H' : Hp} {a : Addr} {xs : List V} (e : Ex H H') (h : PlT H a xs) : PlT H' a xs := h.elim fun o g => ⟨o, g.1, e _ _ g.2⟩
theorem PlT.sq {K : PySem.W.Frag} {H : Hp} {a : Addr} {xs : List V} (h : PlT H a xs) : SqT K H a xs := h.elim fun o g => .inl (.inr ⟨o, g.2⟩)
theorem some_list {α : Type} [Inhabited α] {n : Nat} {P : Nat → α → Prop} (h : ∀ j, j < n → ∃ u, P j u) : ∃ us : List α, us.length = n ∧ ∀ (j : Nat) u, us[j]? = some u → P j u := by
  have h' : ∀ j, ∃ u, j < n → P j u := fun j => by
    by_cases c : j < n
    · obtain ⟨u, hu⟩ := h j c
      exact ⟨u, fun _ => hu⟩
    · exact ⟨default, fun z => absurd z c⟩
  obtain ⟨f, hf⟩ := Classical.axiomOfChoice h'
  refine ⟨(List.range n).map f, by simp, fun j u hu => ?_⟩
  rw [List.getElem?_map] at hu
  obtain ⟨i, hi, rfl⟩ := Option.map_eq_some_iff.mp hu
  rw [List.getElem?_range (by
    have := (List.getElem?_eq_some_iff.mp hi).1
    simpa using this)] at hi
  cases hi
  rename_i hj
  exact hf j (by
    have := hj
    by_cases c : j < n
    · exact c
    · simp [List.getElem?_map, c] at hu)
section
variable {X : Cx} {a : Expr} {ta : TE}
/-- tuple(x) of a list: a new plain tuple -/
def kTupF (K : PySem.W.Frag) (x : V) (H : Hp) (Q : VK) : Prop := ∃ p xs, x = .ref p ∧ SqL K H p xs ∧ ∀ (q : Addr) (o : Obj), H q = none → o.dict = none → Q (.ref q) (upd H q (.frz o (.tup xs)))
theorem rl_tupF (pins : List (Addr × Obj)) (s : Shared) (σ : L2.St) (H : Hp) (x : V) (v : Value) (Q : VK) (I : Inv X pins σ H s) (r : RelV x v) (h : kTupF X.K x H Q) : wpAny (model X.prog X.w) X.A (call (.type "tuple") [v]) (EP X pins σ Q) X.xe s := by
  obtain ⟨p, xs, rfl, hs, q⟩ := h
  obtain rfl : v = .ref p := r
  obtain ⟨its, rv, pl, hz⟩ := I.list hs
  refine call_tuple_list pl.isList (fun h' hk => ?_) (by rw [List.size_toArray, ← rv.length]; exact hz)
  have I1 : Inv X pins σ H { s with heap := h' } := I.kept (t' := s.toks) hk
  have I2 := I1.laid (a := h'.objs.size) (o := .frz { cls := .type "tuple", data := .seq its.toArray } (.tup xs)) (h' := h'.push { cls := .type "tuple", data := .seq its.toArray }) (t' := s.toks) (fun b o e => Heap.get?_push_of_some _ e) (Nat.le_refl _)
    (show ObjOk X.prog X.w _ _ _ (.frz _ (.tup xs)) from ⟨Heap.get?_push_size _ rfl, hz, its, rv, IsTup.new _ _⟩)
  exact ⟨.ref h'.objs.size, _, I2, rfl, q _ _ (I1.hok.fresh (Nat.le_refl _)) rfl⟩
theorem pe_tupF {p pos : Pos} (hg : Gl X "tuple") (hm : X.mg "tuple" = none) (ha : PE X a ta) (na : starEach [a] X.env = (false, eval a X.env) :: starEach [] X.env := by rfl) : PE X (.Call (.Name "tuple" p) [a] [] pos) (tThen ta (kTupF X.K)) :=
  ⟨fun pins s σ H Q I h => Call_ (ld_blt I hg hm boot_tuple (PyProof.Rows.callWith_type1 (one_arg ha I h (fun v s2 x H2 I2 r q => rl_tupF pins s2 σ H2 x v Q I2 r q) na) na))⟩
def rDictT (K : PySem.W.Frag) : List V → Hp → VK → Prop := fun xs H Q => ∃ (a : Addr) (ps : List Addr) (kvs : List (Key × V)), xs = [.ref a] ∧ PlT H a (ps.map V.ref) ∧ Paired (fun p kv => SqT K H p [kV kv.1, kv.2]) ps kvs ∧
    ∀ p, H p = none → Q (.ref p) (upd H p (.dK (mergeK [] kvs)))
theorem call_dictT (hcalm : X.calm = true) : CallR X (.type "dict") (rDictT X.K) := by
  intro pins s σ H xs us Q I r q
  obtain ⟨a, ps, kvs, ex, ⟨o, od, hq⟩, hp, q⟩ := q
  subst ex
  obtain ⟨u, eu, rx⟩ := vals1 r
  subst eu
  cases rx
  obtain ⟨hget, hz, its, rv, o', hget', hc, n, hdat⟩ := I.hok a _ hq
  obtain rfl : o' = o := by
    rw [hget] at hget'
    exact (Option.some.inj hget').symm
  have ei := refs_at rv
  subst ei
  rw [List.length_map] at hz
  obtain ⟨prs, rel, hl, hpr⟩ := pairs_of I hp
  obtain ⟨ks, hks, hk⟩ : ∃ ks : List Value, ks.length = prs.length ∧ ∀ (j : Nat) u, ks[j]? = some u → ∃ b q, ps[j]? = some b ∧ prs[j]? = some q ∧ IsTup s.heap b #[u, q.2] ∧ keyIs q.1 u = true :=
    @some_list Value ⟨.none⟩ _ _ fun j hj => by
      obtain ⟨b, u, e1, e2, e3⟩ := hpr j _ (List.getElem?_eq_getElem hj)
      exact ⟨u, b, _, e1, List.getElem?_eq_getElem hj, e2, e3⟩
  have hzip : ∀ (j : Nat) k v, (ks.zip (prs.map Prod.snd))[j]? = some (k, v) → ∃ b q, ps[j]? = some b ∧ prs[j]? = some q ∧ q.2 = v ∧ IsTup s.heap b #[k, v] ∧ keyIs q.1 k = true := fun j k v e => by
    rw [List.getElem?_zip_eq_some] at e
    obtain ⟨e1, e2⟩ := e
    obtain ⟨b, q, g1, g2, g3, g4⟩ := hk j k e1
    rw [List.getElem?_map, g2] at e2
    have e3 : q.2 = v := Option.some.inj e2
    exact ⟨b, q, g1, g2, e3, by rw [← e3]; exact g3, g4⟩
  have hzl : (ks.zip (prs.map Prod.snd)).length = prs.length := by
    rw [List.length_zip, List.length_map, hks, Nat.min_self]
  refine PySem.call_dict_pairs (knd := mixKind X.prog X.w) (kvs := prs) (PairArg.tuple a (ps.map Value.ref).toArray (fun j => ps.getD j 0) (ks.zip (prs.map Prod.snd))) (I.ok.hd hcalm) ⟨⟨o', n, hget, hc, od, hdat⟩, ?_, fun j k v e => ?_⟩ ⟨hzl.symm, fun i key v e => ?_⟩ ?_ fun h' tk hd' k => ?_
  · rw [List.size_toArray, List.length_map, hzl, hl]
  · obtain ⟨b, q, g1, g2, g3, g4, g5⟩ := hzip j k v e
    refine ⟨by simp [g1, List.getD], .inl ?_⟩
    have : ps.getD j 0 = b := by simp [List.getD, g1]
    show s.heap.IsTuple (ps.getD j 0) #[k, v]
    rw [this]
    exact g4
  · obtain ⟨b, q, g1, g2, g3, g4, g5⟩ := hzip i key v e
    exact ⟨q.1, by rw [g2, ← g3], g5⟩
  · rw [hzl, hl]
    exact hz
  · have hm : (s.heap.objs.size == sysModules) = false := beq_eq_false_iff_ne.mpr (Nat.ne_of_gt I.big)
    have hlen : (mergeK [] kvs).length ≤ sizeLine := by
      refine Nat.le_trans (length_mergeK kvs []) ?_
      rw [List.length_nil, Nat.zero_add, rel.length, hl]
      exact hz
    exact ⟨.ref s.heap.objs.size, upd H s.heap.objs.size (.dK (mergeK [] kvs)), I.laid (t' := tk) (fun b o e => k b o (by simp) e) (Nat.le_refl _) (show ObjOk X.prog X.w _ _ _ (.dK (mergeK [] kvs)) from ⟨hlen, hm, merged [] prs, KV.merge rel .nil, hd'⟩), rfl, q _ (I.hok.fresh (Nat.le_refl _))⟩
end
end RDI

/-! Rollers made. -/
namespace RU
open PySem PySem.Spec PyProof.Rows L2 Evl RDI TL RC RD RE RG RP RQ RS RR RT
/-- all that is not a bare new instance is as it was -/
def Kp (H H' : Hp) : Prop := ∀ a o, H a = some o → (∀ C dx, o ≠ .ins C dx []) → H' a = some o
theorem Kp.of {H H' : Hp} {x : Addr} {C dx : Addr} (hx : H x = some (.ins C dx [])) (b : But x H H') : Kp H H' := fun a o h n => b a o (fun e => by
  subst e
  rw [hx] at h
  exact n C dx (Option.some.inj h).symm) h
theorem Kp.ex {H H' : Hp} (e : Ex H H') : Kp H H' := fun a o h _ => e a o h
theorem Ins.kp {H H' : Hp} {v : V} {C : Addr} {ks : List Str} {vs : List V} (h : Ins H v C ks vs) (k : Kp H H') (hn : ks.zip vs ≠ []) : Ins H' v C ks vs := by
  obtain ⟨a, dx, h1, h2⟩ := h
  exact ⟨a, dx, h1, k _ _ h2 fun C dx e => by injection e with _ _ e; exact hn e⟩
mutual
theorem Roll.kp {cs : Nat → Addr} {H H' : Hp} (e : Kp H H') : ∀ {p : Pr} {v : V}, Roll cs H p v → Roll cs H' p v
  | .wheel _, _, h => Ins.kp h e (fun z => nomatch z)
  | .turned _ _, _, ⟨x, h1, h2⟩ => ⟨x, Ins.kp h1 e (fun z => nomatch z), Roll.kp e h2⟩
  | .over _ _, _, ⟨x, y, h1, h2, h3⟩ => ⟨x, y, Ins.kp h1 e (fun z => nomatch z), Roll.kp e h2, Roll.kp e h3⟩
  | .cut _ _, _, ⟨x, y, h1, h2, h3⟩ => ⟨x, y, Ins.kp h1 e (fun z => nomatch z), Roll.kp e h2, Roll.kp e h3⟩
  | .held _ _, _, ⟨x, y, l, h1, h4, h2, h3⟩ => ⟨x, y, l, Ins.kp h1 e (fun z => nomatch z), e _ _ h4 (fun _ _ z => nomatch z), Roll.kp e h2, Roll.kp e h3⟩
  | .taking _, _, ⟨xs, l, m, h1, h2, h3, h4⟩ => ⟨xs, l, m, Ins.kp h1 e (fun z => nomatch z), e _ _ h2 (fun _ _ z => nomatch z), e _ _ h3 (fun _ _ z => nomatch z), RollT.kp e h4⟩
  | .thn _ _ _, _, ⟨x, y, h1, h2, h3⟩ => ⟨x, y, Ins.kp h1 e (fun z => nomatch z), Roll.kp e h2, Roll.kp e h3⟩
  | .dyed _ _, _, ⟨x, d, h1, h2, h3⟩ => ⟨x, d, Ins.kp h1 e (fun z => nomatch z), e _ _ h2 (fun _ _ z => nomatch z), Roll.kp e h3⟩
theorem RollT.kp {cs : Nat → Addr} {H H' : Hp} (e : Kp H H') : ∀ {ps : Ps} {xs : List V}, RollT cs H ps xs → RollT cs H' ps xs
  | .nil, _, h => h
  | .cons _ _ _, _, ⟨x, ys, h1, h2, h3⟩ => ⟨x, ys, h1, Roll.kp e h2, RollT.kp e h3⟩
end
/-- what e evaluates to, told by a property of the heap -/
def EvP (te : TE) (σ : L2.St) (H : Hp) (P : V → Hp → Prop) : Prop := ∀ H1, Ex H H1 → ∀ Q : VK, (∀ v H2, Ex H1 H2 → P v H2 → Q v H2) → te σ H1 Q
/-- the arguments of a class, for a press: what stands in the heap -/
def Args (cs : Nat → Addr) (H : Hp) : Pr → List V → Prop
  | .wheel rim, ws => ws = [T rim]
  | .turned p n, ws => ∃ x, ws = [x, .int (n : Int)] ∧ Roll cs H p x
  | .over a b, ws => ∃ x y, ws = [x, y] ∧ Roll cs H a x ∧ Roll cs H b y
  | .cut a b, ws => ∃ x y, ws = [x, y] ∧ Roll cs H a x ∧ Roll cs H b y
  | .held a b, ws => ∃ x y, ws = [x, y] ∧ Roll cs H a x ∧ Roll cs H b y
  | .taking ps, ws => ∃ xs l m, ws = [.ref l, .ref m] ∧ H l = some (.lst xs) ∧ H m = some (.lst (manies ps)) ∧ RollT cs H ps xs
  | .thn a n b, ws => ∃ x y, ws = [x, .int (n : Int), y] ∧ Roll cs H a x ∧ Roll cs H b y
  | .dyed p _, ws => ∃ (x : V) (d : Addr), ws = [x, .ref d] ∧ Roll cs H p x
theorem Args.len {cs : Nat → Addr} {H : Hp} {p : Pr} {ws : List V} (h : Args cs H p ws) : ws.length = match idx p with | 0 => 1 | 6 => 3 | _ => 2 := by
  cases p <;> first | (obtain ⟨_, _, _, rfl, _⟩ := h; rfl) | (obtain ⟨_, _, rfl, _⟩ := h; rfl) | (obtain ⟨_, rfl, _⟩ := h; rfl) | (subst h; rfl)
/-- pairs of a dye, in the heap -/
def DyP (K : PySem.W.Frag) (H : Hp) (qs : List Addr) (ds : List (Nat × Nat)) : Prop := qs.length = ds.length ∧ ∀ (i : Nat) (q : Addr), qs[i]? = some q → ∃ (c e : Nat), ds[i]? = some (c, e) ∧ SqT K H q [T [c], T [e]]
theorem DyP.ex {K : PySem.W.Frag} {H H' : Hp} {qs : List Addr} {ds : List (Nat × Nat)} (e : Ex H H') (h : DyP K H qs ds) : DyP K H' qs ds := ⟨h.1, fun i q hq => by obtain ⟨c, d, g1, g2⟩ := h.2 i q hq; exact ⟨c, d, g1, ex_t e g2⟩⟩
/-- what __init__ of the dyed promises -/
def sp_init7 (K : PySem.W.Frag) (cs : Nat → Addr) : Sp := fun vs H Q _ => ∃ (p : Pr) (ds : List (Nat × Nat)) (x dx t : Addr) (y : V) (qs : List Addr), vs = [.ref x, y, .ref t] ∧
  (H x = some (.ins (cs 7) dx []) ∧ PlT H t (qs.map V.ref) ∧ DyP K H qs ds ∧ (ds.map Prod.fst).Nodup) ∧
  ∀ H', But x H H' → (∀ G, Roll cs G p y → (∀ a o, (a = x ∨ H a = none) → H' a = some o → G a = some o) → Roll cs G (.dyed p ds) (.ref x)) → Q .non H'
/-- what __init__ promises -/
def sp_init (K : PySem.W.Frag) (cs : Nat → Addr) (c : Nat) (d : Nat) : Sp := fun vs H Q _ => ∃ (p : Pr) (x dx : Addr) (ws : List V), vs = .ref x :: ws ∧
  (idx p = c ∧ H x = some (.ins (cs c) dx []) ∧ Args cs H p ws ∧ dep p ≤ d + 1 ∧ Fit p ∧ FitR p) ∧
  ∀ H', But x H H' → (∀ G, Args cs G p ws → (∀ a o, (a = x ∨ H a = none) → H' a = some o → G a = some o) → Roll cs G p (.ref x)) → Q .non H'
section
variable {K : PySem.W.Frag} {cs : Nat → Addr} {σ : L2.St} {H H' : Hp} {ta tv te : TE} {y : V} {D : Ends} {tz : TS} {x dx C : Addr} {ks : List Str} {vs : List V} {f : Str}
theorem s_fld (cl : Cls K C) (na : NoAttr K C f) (hx : H x = some (.ins C dx (ks.zip vs))) (hl : ks.length = vs.length) (hn : f ∉ ks) (hz : ks.length < 100) (hv : Ev tv σ H y) (ho : ∀ H1, Ev ta σ H1 (.ref x))
    (k : ∀ H1, Ex H H1 → D.nx σ (upd H1 x (.ins C dx ((ks ++ [f]).zip (vs ++ [y]))))) : sFld K ta tv f D σ H :=
  hv H (Ex.refl H) _ fun H1 e => ho H1 H1 (Ex.refl H1) _ fun H2 e2 => ⟨x, C, dx, _, rfl, (e.trans e2) _ _ hx, cl, na, by rw [List.length_zip]; omega, by
    rw [putF_new hn hl]
    exact k H2 (e.trans e2)⟩
theorem q_fld (cl : Cls K C) (na : NoAttr K C f) (hx : H x = some (.ins C dx (ks.zip vs))) (hl : ks.length = vs.length) (hn : f ∉ ks) (hz : ks.length < 100) (hv : Ev tv σ H y) (ho : ∀ H1, Ev ta σ H1 (.ref x))
    (k : ∀ H1, Ex H H1 → tz D σ (upd H1 x (.ins C dx ((ks ++ [f]).zip (vs ++ [y]))))) : tSeq (sFld K ta tv f) tz D σ H := s_fld (D := { D with nx := tz D }) cl na hx hl hn hz hv ho k
/-- a new list stored -/
theorem q_fldL {xs : List V} (cl : Cls K C) (na : NoAttr K C f) (hx : H x = some (.ins C dx (ks.zip vs))) (hl : ks.length = vs.length) (hn : f ∉ ks) (hz : ks.length < 100) (hv : EvL tv σ H xs) (ho : ∀ H1, Ev ta σ H1 (.ref x))
    (k : ∀ p H1, H p = none → Ex H H1 → H1 p = some (.lst xs) → tz D σ (upd H1 x (.ins C dx ((ks ++ [f]).zip (vs ++ [.ref p]))))) : tSeq (sFld K ta tv f) tz D σ H :=
  hv H (Ex.refl H) _ fun p H1 hp e h1 => ho H1 H1 (Ex.refl H1) _ fun H2 e2 => ⟨x, C, dx, _, rfl, (e.trans e2) _ _ hx, cl, na, by rw [List.length_zip]; omega, by
    rw [putF_new hn hl]
    exact k p H2 hp (e.trans e2) (e2 _ _ h1)⟩
/-- two fields at once -/
theorem q_asgT2F {f1 f2 : Str} {y1 y2 : V} (cl : Cls K C) (na1 : NoAttr K C f1) (na2 : NoAttr K C f2) (hx : H x = some (.ins C dx (ks.zip vs))) (hl : ks.length = vs.length) (hn1 : f1 ∉ ks) (hn2 : f2 ∉ ks ++ [f1]) (hz : ks.length < 100)
    (hv : EvU te σ H [y1, y2]) (ho : ∀ H1, Ev ta σ H1 (.ref x)) (k : ∀ H1, But x H H1 → H1 x = some (.ins C dx ((ks ++ [f1] ++ [f2]).zip (vs ++ [y1] ++ [y2]))) → tz D σ H1) :
    tSeq (tAsg te (gTup K 2 (gCons (gFld K ta f1) (gCons (gFld K ta f2) gNil)))) tz D σ H :=
  hv H (Ex.refl H) _ fun p H1 hp e h1 => ⟨p, _, rfl, SqT.of h1, rfl, _, _, rfl, ho H1 H1 (Ex.refl H1) _ fun H2 e2 => ⟨x, C, dx, _, rfl, (e.trans e2) _ _ hx, cl, na1, by rw [List.length_zip]; omega, by
    rw [putF_new hn1 hl]
    refine ⟨_, _, rfl, ho _ _ (Ex.refl _) _ fun H3 e3 => ⟨x, C, dx, _, rfl, e3 _ _ upd_same, cl, na2, by rw [List.length_zip, List.length_append]; show min (ks.length + 1) _ < 1000; omega, rfl, ?_⟩⟩
    rw [putF_new hn2 (by rw [List.length_append, List.length_append, hl]; rfl)]
    exact k _ ((((But.ex (e.trans e2)).put).trans (But.ex e3)).put) upd_same⟩⟩
theorem atI_last {xs : List V} {y : V} (h : xs.getLast? = some y) : atI xs (-1) = some y := by
  have hn : xs ≠ [] := fun e => by rw [e] at h; cases h
  have hp : 0 < xs.length := List.length_pos_iff.mpr hn
  have hi : ixN xs.length (-1) = some (xs.length - 1) := by
    unfold ixN
    simp
    omega
  unfold atI
  rw [hi]
  show xs[xs.length - 1]? = some y
  rw [← h, List.getLast?_eq_getElem?]
theorem ev_ixLast {tb : TE} {l : Addr} {xs : List V} {y : V} (ha : Ev ta σ H (.ref l)) (hl : H l = some (.lst xs)) (hb : Ev tb σ H (.int (-1))) (h : xs.getLast? = some y) : Ev (tOp (rIxL K) ta tb) σ H y := ev_op ha hb (rv_ixL (SqL.of hl) (atI_last h))
theorem ev_intB {b : Bool} (h : Ev te σ H (.bl b)) : Ev (tCB (fun xs H Q => (∃ i, xs = [.int i] ∧ Q (.int i) H) ∨ ∃ k, xs = [.bl k] ∧ Q (.int (if k then 1 else 0)) H) (tCons te tNil)) σ H (.int (if b then 1 else 0)) :=
  ev_cb (ea_cons h ea_nil) fun H1 _ Q q => .inr ⟨b, rfl, q H1 (Ex.refl H1)⟩
def sumsTo (p : Pr) (n : Nat) : List V := (List.range (n + 1)).map fun i => V.int (cnt (mark p) i : Int)
theorem sumsTo_last (p : Pr) (n : Nat) : (sumsTo p n).getLast? = some (V.int (cnt (mark p) n : Int)) := by
  unfold sumsTo
  rw [List.range_succ, List.map_append]
  simp
theorem sumsTo_succ (p : Pr) (n : Nat) : sumsTo p (n + 1) = sumsTo p n ++ [V.int (cnt (mark p) (n + 1) : Int)] := by
  unfold sumsTo
  rw [List.range_succ, List.map_append]
  rfl
theorem sumsTo_len (p : Pr) (n : Nat) : (sumsTo p n).length = n + 1 := by simp [sumsTo]
/-- what is in H' and was not in H0 -/
def new (H0 H' : Hp) : Hp := fun a => match H0 a with | none => H' a | some _ => none
theorem new_some {H0 H' : Hp} {a : Addr} {o : HO} : new H0 H' a = some o ↔ H0 a = none ∧ H' a = some o := by
  unfold new
  cases h : H0 a with
  | none => simp
  | some _ => simp
theorem new_ex {H0 H H' : Hp} (e : Ex H H') : Ex (new H0 H) (new H0 H') := fun a o h => new_some.mpr ⟨(new_some.mp h).1, e _ _ (new_some.mp h).2⟩
theorem new_sub {H0 H' : Hp} : Ex (new H0 H') H' := fun a o h => (new_some.mp h).2
/-- newer is new -/
theorem new_new {H0 H1 H2 : Hp} (e : Ex H0 H1) : Ex (new H1 H2) (new H0 H2) := fun a o h => new_some.mpr ⟨fresh_back e (new_some.mp h).1, (new_some.mp h).2⟩
theorem Args.ex {cs : Nat → Addr} {H H' : Hp} {p : Pr} {ws : List V} (ha : Args cs H p ws) (e1 : Ex H H') : Args cs H' p ws := by
  cases p with
  | wheel _ => exact ha
  | turned _ _ => obtain ⟨y, h1, h2⟩ := ha; exact ⟨y, h1, h2.ex e1⟩
  | over _ _ => obtain ⟨y, z, h1, h2, h3⟩ := ha; exact ⟨y, z, h1, h2.ex e1, h3.ex e1⟩
  | cut _ _ => obtain ⟨y, z, h1, h2, h3⟩ := ha; exact ⟨y, z, h1, h2.ex e1, h3.ex e1⟩
  | held _ _ => obtain ⟨y, z, h1, h2, h3⟩ := ha; exact ⟨y, z, h1, h2.ex e1, h3.ex e1⟩
  | taking _ => obtain ⟨y, l, m, h1, h2, h3, h4⟩ := ha; exact ⟨y, l, m, h1, e1 _ _ h2, e1 _ _ h3, h4.ex e1⟩
  | thn _ _ _ => obtain ⟨y, z, h1, h2, h3⟩ := ha; exact ⟨y, z, h1, h2.ex e1, h3.ex e1⟩
  | dyed _ _ => obtain ⟨y, z, h1, h2⟩ := ha; exact ⟨y, z, h1, h2.ex e1⟩
/-- an instance made: all of it is new since H0 -/
theorem make_roll {H0 : Hp} {c d : Nat} {p : Pr} {ws : List V} {E : XK} {Q : VK} (e0 : Ex H0 H) (hp : idx p = c) (ha : Args cs (new H0 H) p ws) (hd : dep p ≤ d + 1) (hf : Fit p) (hr : FitR p) (k : ∀ v H2, Ex H H2 → Roll cs (new H0 H2) p v → Q v H2) :
    ∀ x dx, H x = none → H dx = none → dx ≠ x → sp_init K cs c d (.ref x :: (ws ++ [])) (upd (upd H dx (.own x)) x (.ins (cs c) dx [])) (fun v H2 => v = .non ∧ Q (.ref x) H2) E := fun x dx hx hdx hne => by
  have e1 : Ex H (upd (upd H dx (.own x)) x (.ins (cs c) dx [])) := (Ex.new hdx).trans (Ex.new (by rw [upd_ne hne.symm]; exact hx))
  rw [List.append_nil]
  refine ⟨p, x, dx, ws, rfl, ⟨hp, upd_same, (ha.ex new_sub).ex e1, hd, hf, hr⟩, fun H' b hR => ?_⟩
  have e2 : Ex H H' := fun a o h => b a o (ne_of_none h hx) (e1 _ _ h)
  refine ⟨rfl, k _ _ e2 (hR _ (ha.ex (new_ex e2)) fun a o hz ho => new_some.mpr ⟨fresh_back e0 ?_, ho⟩)⟩
  rcases hz with z | z
  · rw [z]
    exact hx
  · exact fresh_back e1 z
theorem evp_if {b : Bool} {t : TT} {tb : TE} {P : V → Hp → Prop} (h : EvT t σ H b) (h1 : b = true → EvP ta σ H P) (h2 : b = false → EvP tb σ H P) : EvP (tIf t ta tb) σ H P := fun H1 e Q q => h H1 e _ fun H2 e2 => by
  cases b with
  | true => exact h1 rfl H2 (e.trans e2) _ fun v H3 e3 p => q v H3 (e2.trans e3) p
  | false => exact h2 rfl H2 (e.trans e2) _ fun v H3 e3 p => q v H3 (e2.trans e3) p
/-- arguments, told by a property of the heap -/
def EvAP (ta : TA) (σ : L2.St) (H : Hp) (P : List V → Hp → Prop) : Prop := ∀ H1, Ex H H1 → ∀ Q : List V → Hp → Prop, (∀ vs H2, Ex H1 H2 → P vs H2 → Q vs H2) → ta σ H1 Q
theorem eap_nil : EvAP tNil σ H (fun vs _ => vs = []) := fun H1 _ _ q => q [] H1 (Ex.refl H1) rfl
theorem eap_of {ta : TA} {vs : List V} {P : List V → Hp → Prop} (h : EvA ta σ H vs) (hp : ∀ H1, Ex H H1 → P vs H1) : EvAP ta σ H P := fun H1 e Q q => h H1 e _ fun H2 e2 => q vs H2 e2 (hp H2 (e.trans e2))
theorem eap_cons {tr : TA} {P : List V → Hp → Prop} (h : Ev ta σ H y) (hr : EvAP tr σ H P) : EvAP (tCons ta tr) σ H (fun vs H' => ∃ r, vs = y :: r ∧ P r H') := fun H1 e Q q =>
  h H1 e _ fun H2 e2 => hr H2 (e.trans e2) _ fun vs H3 e3 p => q _ H3 (e2.trans e3) ⟨vs, rfl, p⟩
theorem eap_consP {tr : TA} {P1 : V → Hp → Prop} {P : List V → Hp → Prop} (hm : ∀ v H1 H2, Ex H1 H2 → P1 v H1 → P1 v H2) (h : EvP ta σ H P1) (hr : EvAP tr σ H P) : EvAP (tCons ta tr) σ H (fun vs H' => ∃ v r, vs = v :: r ∧ P1 v H' ∧ P r H') := fun H1 e Q q =>
  h H1 e _ fun v H2 e2 p1 => hr H2 (e.trans e2) _ fun vs H3 e3 p => q _ H3 (e2.trans e3) ⟨v, vs, rfl, hm v H2 H3 e3 p1, p⟩
theorem evp_make {H0 : Hp} {c d : Nat} {p : Pr} {ta : TA} (e0 : Ex H0 H) (h : EvAP ta σ H fun ws H' => Args cs (new H0 H') p ws) (hp : idx p = c) (hd : dep p ≤ d + 1) (hf : Fit p) (hr : FitR p) :
    EvP (tMake (cs c) (sp_init K cs c d) [] E0 ta) σ H (fun v H' => Roll cs (new H0 H') p v) := fun H1 e Q q =>
  h H1 e _ fun ws H2 e2 ha => make_roll ((e0.trans e).trans e2) hp ha hd hf hr fun v H3 e3 hR => q v H3 (e2.trans e3) hR
theorem make_roll7 {H0 : Hp} {p : Pr} {ds : List (Nat × Nat)} {y : V} {t : Addr} {qs : List Addr} {E : XK} {Q : VK} (e0 : Ex H0 H) (hy : Roll cs (new H0 H) p y) (ht : PlT H t (qs.map V.ref)) (hq : DyP K H qs ds) (hn : (ds.map Prod.fst).Nodup) (k : ∀ v H2, Ex H H2 → Roll cs (new H0 H2) (.dyed p ds) v → Q v H2) :
    ∀ x dx, H x = none → H dx = none → dx ≠ x → sp_init7 K cs (.ref x :: ([y, .ref t] ++ [])) (upd (upd H dx (.own x)) x (.ins (cs 7) dx [])) (fun v H2 => v = .non ∧ Q (.ref x) H2) E := fun x dx hx hdx hne => by
  have e1 : Ex H (upd (upd H dx (.own x)) x (.ins (cs 7) dx [])) := (Ex.new hdx).trans (Ex.new (by rw [upd_ne hne.symm]; exact hx))
  refine ⟨p, ds, x, dx, t, y, qs, rfl, ⟨upd_same, ht.ex e1, hq.ex e1, hn⟩, fun H' b hR => ?_⟩
  have e2 : Ex H H' := fun a o h => b a o (ne_of_none h hx) (e1 _ _ h)
  refine ⟨rfl, k _ _ e2 (hR _ (hy.ex (new_ex e2)) fun a o hz ho => new_some.mpr ⟨fresh_back e0 ?_, ho⟩)⟩
  rcases hz with z | z
  · rw [z]
    exact hx
  · exact fresh_back e1 z
theorem evp_make7 {H0 : Hp} {p : Pr} {ds : List (Nat × Nat)} {y : V} {t : Addr} {qs : List Addr} {ta : TA} (e0 : Ex H0 H) (h : EvA ta σ H [y, .ref t]) (hy : Roll cs (new H0 H) p y) (ht : PlT H t (qs.map V.ref)) (hq : DyP K H qs ds) (hn : (ds.map Prod.fst).Nodup) :
    EvP (tMake (cs 7) (sp_init7 K cs) [] E0 ta) σ H (fun v H' => Roll cs (new H0 H') (.dyed p ds) v) := fun H1 e Q q =>
  h H1 e _ fun H2 e2 => make_roll7 ((e0.trans e).trans e2) (hy.ex (new_ex (e.trans e2))) (ht.ex (e.trans e2)) (hq.ex (e.trans e2)) hn fun v H3 e3 hR => q v H3 (e2.trans e3) hR
theorem s_retP {P : V → Hp → Prop} (h : EvP te σ H P) (k : ∀ v H1, Ex H H1 → P v H1 → D.rt v H1) : tRet te D σ H := h H (Ex.refl H) _ k
theorem q_asgP {P : V → Hp → Prop} {i : Nat} (h : EvP te σ H P) (k : ∀ v H1, Ex H H1 → P v H1 → tz D (σ.set i (some v)) H1) : tSeq (tAsg te (gName i)) tz D σ H := h H (Ex.refl H) _ k
def RetP (P : V → Hp → Prop) (H : Hp) (Q : VK) : Prop := ∀ v H', Ex H H' → P v H' → Q v H'
theorem evp_call {sp : Sp} {dvs vs : List V} {E : XK} {ta : TA} {P : V → Hp → Prop} (h : EvA ta σ H vs) (hs : ∀ H1, Ex H H1 → ∀ Q : VK, RetP P H1 Q → ∀ E : XK, sp (vs ++ dvs) H1 Q E) : EvP (tCall sp dvs E ta) σ H P := fun H1 e Q q =>
  h H1 e _ fun H2 e2 => hs H2 (e.trans e2) _ (fun v H3 e3 p => q v H3 (e2.trans e3) p) _
end
end RU

/-! Presses as they are kept: tuples. -/
namespace RV
open PySem PySem.Spec PyProof.Rows L2 Evl RDI TL RC RD RE RG RI RP RQ RS RR RT RU
/-- the words, by the classes' numbers -/
def wd : Nat → List Nat
  | 0 => [119, 104, 101, 101, 108] | 1 => [116, 117, 114, 110, 101, 100] | 2 => [111, 118, 101, 114] | 3 => [99, 117, 116] | 4 => [104, 101, 108, 100]
  | 5 => [116, 97, 107, 105, 110, 103] | 6 => [116, 104, 101, 110] | _ => [100, 121, 101, 100]
mutual
def Kept (K : PySem.W.Frag) (H : Hp) : Pr → V → Prop
  | .wheel rim, v => ∃ a, v = .ref a ∧ SqT K H a [T (wd 0), T rim]
  | .turned p n, v => ∃ a x, v = .ref a ∧ SqT K H a [T (wd 1), x, .int (n : Int)] ∧ Kept K H p x
  | .over a b, v => ∃ c x y, v = .ref c ∧ SqT K H c [T (wd 2), x, y] ∧ Kept K H a x ∧ Kept K H b y
  | .cut a b, v => ∃ c x y, v = .ref c ∧ SqT K H c [T (wd 3), x, y] ∧ Kept K H a x ∧ Kept K H b y
  | .held a b, v => ∃ c x y, v = .ref c ∧ SqT K H c [T (wd 4), x, y] ∧ Kept K H a x ∧ Kept K H b y
  | .taking ps, v => ∃ a t xs, v = .ref a ∧ SqT K H a [T (wd 5), .ref t] ∧ SqT K H t xs ∧ KeptT K H ps xs
  | .thn a n b, v => ∃ c x y, v = .ref c ∧ SqT K H c [T (wd 6), x, .int (n : Int), y] ∧ Kept K H a x ∧ Kept K H b y
  | .dyed p ds, v => ∃ (a : Addr) (x : V) (t : Addr) (qs : List Addr), v = .ref a ∧ SqT K H a [T (wd 7), x, .ref t] ∧ PlT H t (qs.map V.ref) ∧ DyP K H qs ds ∧ Kept K H p x
def KeptT (K : PySem.W.Frag) (H : Hp) : Ps → List V → Prop
  | .nil, xs => xs = []
  | .cons p n r, xs => ∃ (q : Addr) (x : V) (ys : List V), xs = .ref q :: ys ∧ SqT K H q [x, .int (n : Int)] ∧ Kept K H p x ∧ KeptT K H r ys
end
mutual
theorem Kept.ex {K : PySem.W.Frag} {H H' : Hp} (e : Ex H H') : ∀ {p : Pr} {v : V}, Kept K H p v → Kept K H' p v
  | .wheel _, _, ⟨a, h1, h2⟩ => ⟨a, h1, ex_t e h2⟩
  | .turned _ _, _, ⟨a, x, h1, h2, h3⟩ => ⟨a, x, h1, ex_t e h2, Kept.ex e h3⟩
  | .over _ _, _, ⟨c, x, y, h1, h2, h3, h4⟩ => ⟨c, x, y, h1, ex_t e h2, Kept.ex e h3, Kept.ex e h4⟩
  | .cut _ _, _, ⟨c, x, y, h1, h2, h3, h4⟩ => ⟨c, x, y, h1, ex_t e h2, Kept.ex e h3, Kept.ex e h4⟩
  | .held _ _, _, ⟨c, x, y, h1, h2, h3, h4⟩ => ⟨c, x, y, h1, ex_t e h2, Kept.ex e h3, Kept.ex e h4⟩
  | .taking _, _, ⟨a, t, xs, h1, h2, h3, h4⟩ => ⟨a, t, xs, h1, ex_t e h2, ex_t e h3, KeptT.ex e h4⟩
  | .thn _ _ _, _, ⟨c, x, y, h1, h2, h3, h4⟩ => ⟨c, x, y, h1, ex_t e h2, Kept.ex e h3, Kept.ex e h4⟩
  | .dyed _ _, _, ⟨a, x, t, qs, h1, h2, h3, h4, h5⟩ => ⟨a, x, t, qs, h1, ex_t e h2, h3.ex e, h4.ex e, Kept.ex e h5⟩
theorem KeptT.ex {K : PySem.W.Frag} {H H' : Hp} (e : Ex H H') : ∀ {ps : Ps} {xs : List V}, KeptT K H ps xs → KeptT K H' ps xs
  | .nil, _, h => h
  | .cons _ _ _, _, ⟨q, x, ys, h1, h2, h3, h4⟩ => ⟨q, x, ys, h1, ex_t e h2, Kept.ex e h3, KeptT.ex e h4⟩
end
/-- dyes: of letters, each once, to signs -/
def DyeOk (ds : List (Nat × Nat)) : Prop := ds.length ≤ 26 ∧ (ds.map Prod.fst).Nodup ∧ ∀ q ∈ ds, (q.1 ∈ MARKS ∧ q.1 ≠ 46) ∧ q.2 ∈ MARKS
mutual
/-- its dyes are good -/
def NoDye : Pr → Prop
  | .wheel _ => True
  | .turned p _ => NoDye p
  | .over a b => NoDye a ∧ NoDye b
  | .cut a b => NoDye a ∧ NoDye b
  | .held a b => NoDye a ∧ NoDye b
  | .taking ps => NoDyeT ps
  | .thn a _ b => NoDye a ∧ NoDye b
  | .dyed p ds => NoDye p ∧ DyeOk ds
def NoDyeT : Ps → Prop
  | .nil => True
  | .cons p _ r => NoDye p ∧ NoDyeT r
end
def app : Ps → Ps → Ps
  | .nil, b => b
  | .cons p n r, b => .cons p n (app r b)
theorem app_assoc : ∀ a b c : Ps, app (app a b) c = app a (app b c)
  | .nil, _, _ => rfl
  | .cons p n r, b, c => by
    show Ps.cons p n _ = Ps.cons p n _
    rw [app_assoc r b c]
theorem app_nil : ∀ a : Ps, app a .nil = a
  | .nil => rfl
  | .cons p n r => by
    show Ps.cons p n _ = Ps.cons p n _
    rw [app_nil r]
theorem rollT_app {cs : Nat → Addr} {H : Hp} : ∀ {a b : Ps} {xs ys : List V}, RollT cs H a xs → RollT cs H b ys → RollT cs H (app a b) (xs ++ ys)
  | .nil, _, xs, ys, h1, h2 => by
    have e : xs = [] := h1
    subst e
    exact h2
  | .cons p n r, b, xs, ys, ⟨x, zs, e, h3, h4⟩, h2 => by
    subst e
    exact ⟨x, zs ++ ys, rfl, h3, rollT_app h4 h2⟩
/-- hidden: one address -/
def hide (l : Addr) (H : Hp) : Hp := fun a => if a = l then none else H a
theorem hide_some {l a : Addr} {H : Hp} {o : HO} : hide l H a = some o ↔ a ≠ l ∧ H a = some o := by
  unfold hide
  by_cases e : a = l
  · simp [e]
  · simp [e]
theorem hide_sub {l : Addr} {H : Hp} : Ex (hide l H) H := fun a o h => (hide_some.mp h).2
theorem ind_w {i j : Nat} : wd i = wd j ↔ wd i = wd j := Iff.rfl
def sp_roller_of (K : PySem.W.Frag) (cs : Nat → Addr) (d : Nat) : Sp := fun vs H Q _ => ∃ (p : Pr) (v : V), vs = [v] ∧ (Kept K H p v ∧ dep p ≤ d ∧ Fit p ∧ FitR p ∧ NoDye p) ∧ RetP (fun v' H' => Roll cs (new H H') p v') H Q
section
variable {K : PySem.W.Frag} {cs : Nat → Addr} {σ : L2.St} {H : Hp} {ta te : TE} {D : Ends} {tz : TS} {v : V}
/-- a, *b = a tuple -/
theorem q_star {a : Addr} {x : V} {xs : List V} {i j : Nat} (h : Ev te σ H (.ref a)) (hs : SqT K H a (x :: xs)) (k : ∀ l H1, H l = none → Ex H H1 → H1 l = some (.lst xs) → tz D ((σ.set i (some x)).set j (some (.ref l))) H1) :
    tSeq (tAsg te (gStar K (gCons (gName i) (gCons (gName j) gNil)))) tz D σ H :=
  h H (Ex.refl H) _ fun H1 e => ⟨a, x, xs, rfl, ex_t e hs, fun l hl => ⟨_, _, rfl, _, _, rfl, rfl, k l _ (fresh_back e hl) (e.trans (Ex.new hl)) upd_same⟩⟩
theorem ev_wd {z : Str} {i : Nat} (h : z = S (wd i)) : Ev (tC (.str z)) σ H (T (wd i)) := ev_s _ h
theorem ev_eqW {tb : TE} {i j : Nat} (ha : Ev ta σ H (T (wd i))) (hb : Ev tb σ H (T (wd j))) (h : decide (wd i = wd j) = decide (i = j)) : Ev (tOp rEq ta tb) σ H (.bl (decide (i = j))) := by
  rw [← h]
  exact ev_eqT ha hb
theorem eap_imp {ta : TA} {P P' : List V → Hp → Prop} (h : EvAP ta σ H P) (i : ∀ vs H1, Ex H H1 → P vs H1 → P' vs H1) : EvAP ta σ H P' := fun H1 e Q q => h H1 e _ fun vs H2 e2 p => q vs H2 e2 (i vs H2 (e.trans e2) p)
theorem keptT_nil {ps : Ps} (h : KeptT K H ps []) : ps = .nil := by
  cases ps with
  | nil => rfl
  | cons p n r =>
    obtain ⟨q, x, ys, e, _⟩ := h
    cases e
theorem keptT_len : ∀ {ps : Ps} {xs : List V}, KeptT K H ps xs → (manies ps).length = xs.length
  | .nil, xs, h => by
    have e : xs = [] := h
    rw [e]
    rfl
  | .cons p n r, xs, ⟨q, x, ys, e, h2, h3, h4⟩ => by
    rw [e]
    show (manies r).length + 1 = ys.length + 1
    rw [keptT_len h4]
/-- [roller_of(one) for one, many in pairs] -/
theorem evp_lcRoll {H0 : Hp} {t : Addr} {xs : List V} {ps : Ps} {j k d : Nat} {vs : List Nat} (e0 : Ex H0 H) (h : Ev te σ H (.ref t)) (ht : SqT K H t xs) (hk : KeptT K H ps xs) (hz : xs.length ≤ 1000) (hd : depT ps ≤ d) (hf : FitT ps) (hr : FitRT ps) (hn : NoDyeT ps)
    (hw : ∀ x y, wipe (((wipe σ vs).set j (some x)).set k (some y)) vs = wipe σ vs) (hj : ∀ x y, (((wipe σ vs).set j (some x)).set k (some y))[j]? = some (some x)) :
    EvP (tLc (iTup K te) (gTup K 2 (gCons (gName j) (gCons (gName k) gNil))) tYes (tCall (sp_roller_of K cs d) [] E0 (tCons (tVar j) tNil)) vs) σ H (fun v H' => ∃ l rs, v = .ref l ∧ new H0 H' l = some (.lst rs) ∧ RollT cs (new H0 H') ps rs) := fun H1 e Q q =>
  h H1 e _ fun H2 e2 => ⟨t, rfl, ⟨xs, ex_t (e.trans e2) ht⟩, fun Dl hD => by
    have e02 := (e0.trans e).trans e2
    refine lc_it (walk_tup (a := t) (xs := xs)) (fun i H' => ∃ pre r acc, app pre r = ps ∧ KeptT K H2 r (xs.drop i) ∧ depT r ≤ d ∧ FitT r ∧ FitRT r ∧ NoDyeT r ∧ Ex H2 H' ∧ H' Dl = some (.lst acc) ∧ RollT cs (hide Dl (new H0 H')) pre acc ∧ acc.length = i)
      ⟨.nil, ps, [], rfl, hk.ex (e.trans e2), hd, hf, hr, hn, Ex.new hD, upd_same, rfl, rfl⟩ (fun i H' _ hp => ?_) (fun i x H' H'' hi hp y => ?_) (fun H' hp => ?_)
    · obtain ⟨_, _, _, _, _, _, _, _, _, e3, _⟩ := hp
      exact ex_t ((e.trans e2).trans e3) ht
    · obtain ⟨pre, r, acc, hap, hkr, hdr, hfr, hrr, hnr, e3, hDl, hR, hlen⟩ := hp
      obtain ⟨rfl, hx⟩ := y
      cases r with
      | nil =>
        have e4 : xs.drop i = [] := hkr
        rw [List.drop_eq_nil_iff] at e4
        omega
      | cons p n r =>
        obtain ⟨q0, y, ys, hxs, hq0, hky, hkr'⟩ := hkr
        have hx0 : xs[i]? = some (.ref q0) := by
          have := congrArg List.head? hxs
          rw [List.head?_drop] at this
          exact this
        obtain rfl : V.ref q0 = x := Option.some.inj (hx0.symm.trans hx)
        have hdr' : max (dep p) (depT r) ≤ d := hdr
        refine ⟨q0, _, rfl, ex_t e3 hq0, rfl, _, _, rfl, _, _, rfl, rfl, hw _ _, ?_⟩
        simp only [tYes, ↓reduceIte]
        refine ⟨y, hj _ _, p, y, rfl, ⟨hky.ex e3, by omega, hfr.1, hrr.1, hnr.1⟩, fun v' H3 e4 hR' => ?_⟩
        have hD3 := e4 _ _ hDl
        have m1 : ∀ o, Ex (hide Dl (new H0 H'')) (hide Dl (new H0 (upd H3 Dl o))) := fun o a o' ha => by
          obtain ⟨n1, n2⟩ := hide_some.mp ha
          obtain ⟨n3, n4⟩ := new_some.mp n2
          exact hide_some.mpr ⟨n1, new_some.mpr ⟨n3, by rw [upd_ne n1]; exact e4 _ _ n4⟩⟩
        have m2 : ∀ o, Ex (new H'' H3) (hide Dl (new H0 (upd H3 Dl o))) := fun o a o' ha => by
          obtain ⟨n1, n2⟩ := new_some.mp ha
          have n3 : a ≠ Dl := fun z => by
            rw [z, hDl] at n1
            cases n1
          exact hide_some.mpr ⟨n3, new_some.mpr ⟨fresh_back (e02.trans e3) n1, by rw [upd_ne n3]; exact n2⟩⟩
        refine ⟨acc, hD3, by rw [hlen, big]; omega, app pre (.cons p n .nil), r, acc ++ [v'], ?_, ?_, by omega, hfr.2.2.2, hrr.2, hnr.2, ?_, upd_same, ?_, by rw [List.length_append, hlen]; rfl⟩
        · rw [app_assoc]
          exact hap
        · rw [← List.tail_drop, hxs]
          exact hkr'
        · exact (e3.trans e4).mut hD
        · exact rollT_app (hR.ex (m1 _)) ⟨v', [], rfl, hR'.ex (m2 _), rfl⟩
    · obtain ⟨pre, r, acc, hap, hkr, hdr, hfr, hrr, hnr, e3, hDl, hR, hlen⟩ := hp
      rw [List.drop_of_length_le (Nat.le_refl _)] at hkr
      obtain rfl := keptT_nil hkr
      rw [app_nil] at hap
      subst hap
      exact q _ _ (e2.trans e3) ⟨Dl, acc, rfl, new_some.mpr ⟨fresh_back e02 hD, hDl⟩, hR.ex hide_sub⟩⟩
/-- [many for one, many in pairs] -/
theorem el_lcMany {t : Addr} {xs : List V} {ps : Ps} {j k : Nat} {vs : List Nat} (h : Ev te σ H (.ref t)) (ht : SqT K H t xs) (hk : KeptT K H ps xs) (hz : xs.length ≤ 1000)
    (hw : ∀ x y, wipe (((wipe σ vs).set j (some x)).set k (some y)) vs = wipe σ vs) (hj : ∀ x y, (((wipe σ vs).set j (some x)).set k (some y))[k]? = some (some y)) :
    EvL (tLc (iTup K te) (gTup K 2 (gCons (gName j) (gCons (gName k) gNil))) tYes (tVar k) vs) σ H (manies ps) := fun H1 e Q q =>
  h H1 e _ fun H2 e2 => ⟨t, rfl, ⟨xs, ex_t (e.trans e2) ht⟩, fun Dl hD => by
    refine lc_it (walk_tup (a := t) (xs := xs)) (fun i H' => ∃ r acc, KeptT K H2 r (xs.drop i) ∧ acc ++ manies r = manies ps ∧ Ex H2 H' ∧ H' Dl = some (.lst acc) ∧ acc.length = i)
      ⟨ps, [], hk.ex (e.trans e2), rfl, Ex.new hD, upd_same, rfl⟩ (fun i H' _ hp => ?_) (fun i x H' H'' hi hp y => ?_) (fun H' hp => ?_)
    · obtain ⟨_, _, _, _, e3, _⟩ := hp
      exact ex_t ((e.trans e2).trans e3) ht
    · obtain ⟨r, acc, hkr, hap, e3, hDl, hlen⟩ := hp
      obtain ⟨rfl, hx⟩ := y
      cases r with
      | nil =>
        have e4 : xs.drop i = [] := hkr
        rw [List.drop_eq_nil_iff] at e4
        omega
      | cons p n r =>
        obtain ⟨q0, y, ys, hxs, hq0, hky, hkr'⟩ := hkr
        have hx0 : xs[i]? = some (.ref q0) := by
          have := congrArg List.head? hxs
          rw [List.head?_drop] at this
          exact this
        obtain rfl : V.ref q0 = x := Option.some.inj (hx0.symm.trans hx)
        refine ⟨q0, _, rfl, ex_t e3 hq0, rfl, _, _, rfl, _, _, rfl, rfl, hw _ _, ?_⟩
        simp only [tYes, ↓reduceIte]
        refine ⟨_, hj _ _, acc, hDl, by rw [hlen, big]; omega, r, acc ++ [.int (n : Int)], ?_, ?_, e3.mut hD, upd_same, by rw [List.length_append, hlen]; rfl⟩
        · rw [← List.tail_drop, hxs]
          exact hkr'
        · rw [List.append_assoc]
          exact hap
    · obtain ⟨r, acc, hkr, hap, e3, hDl, hlen⟩ := hp
      rw [List.drop_of_length_le (Nat.le_refl _)] at hkr
      obtain rfl := keptT_nil hkr
      have hap' : acc ++ [] = manies ps := hap
      rw [List.append_nil] at hap'
      subst hap'
      exact q Dl H' (fresh_back e2 hD) (e2.trans e3) hDl⟩
/-- a made list as a value of which only the list is told -/
theorem evp_L {xs : List V} (h : EvL te σ H xs) {H0 : Hp} (e0 : Ex H0 H) : EvP te σ H (fun v H' => ∃ m, v = .ref m ∧ new H0 H' m = some (.lst xs)) := fun H1 e Q q =>
  h H1 e _ fun p H2 hp e2 h2 => q _ H2 e2 ⟨p, rfl, new_some.mpr ⟨fresh_back (e0.trans e) hp, h2⟩⟩
end
end RV

/-! Presses as they are handed in: lists and tuples, mixed. -/
namespace RX
open PySem PySem.Spec PyProof.Rows L2 Evl RDI TL RC RD RE RG RI RL RP RQ RS RR RT RU RV
/-- a list or a tuple -/
def Sq (H : Hp) (v : V) (xs : List V) : Prop := ∃ a, v = .ref a ∧ (H a = some (.lst xs) ∨ Rd H a (.tup xs))
theorem Sq.ex {H H' : Hp} {v : V} {xs : List V} (e : Ex H H') (h : Sq H v xs) : Sq H' v xs := by
  obtain ⟨a, h1, h2⟩ := h
  exact ⟨a, h1, h2.imp (e _ _) (ex_rd e)⟩
mutual
/-- the things behind the word -/
def HandR (H : Hp) : Pr → List V → Prop
  | .wheel rim, xs => xs = [T rim]
  | .turned p n, xs => ∃ x ws, xs = [x, .int (n : Int)] ∧ Sq H x (T (wd (idx p)) :: ws) ∧ HandR H p ws
  | .over a b, xs => ∃ x y ws zs, xs = [x, y] ∧ Sq H x (T (wd (idx a)) :: ws) ∧ Sq H y (T (wd (idx b)) :: zs) ∧ HandR H a ws ∧ HandR H b zs
  | .cut a b, xs => ∃ x y ws zs, xs = [x, y] ∧ Sq H x (T (wd (idx a)) :: ws) ∧ Sq H y (T (wd (idx b)) :: zs) ∧ HandR H a ws ∧ HandR H b zs
  | .held a b, xs => ∃ x y ws zs, xs = [x, y] ∧ Sq H x (T (wd (idx a)) :: ws) ∧ Sq H y (T (wd (idx b)) :: zs) ∧ HandR H a ws ∧ HandR H b zs
  | .taking ps, xs => ∃ x ws, xs = [x] ∧ Sq H x ws ∧ HandT H ps ws
  | .thn a n b, xs => ∃ x y ws zs, xs = [x, .int (n : Int), y] ∧ Sq H x (T (wd (idx a)) :: ws) ∧ Sq H y (T (wd (idx b)) :: zs) ∧ HandR H a ws ∧ HandR H b zs
  | .dyed p ds, xs => ∃ (x y : V) (ws qs : List V), xs = [x, y] ∧ Sq H x (T (wd (idx p)) :: ws) ∧ Sq H y qs ∧ qs.length = ds.length ∧
      (∀ (i : Nat) (q : V), qs[i]? = some q → ∃ (c e : Nat), ds[i]? = some (c, e) ∧ Sq H q [T [c], T [e]]) ∧ HandR H p ws
def HandT (H : Hp) : Ps → List V → Prop
  | .nil, xs => xs = []
  | .cons p n r, xs => ∃ q x ws ys, xs = q :: ys ∧ Sq H q [x, .int (n : Int)] ∧ Sq H x (T (wd (idx p)) :: ws) ∧ HandR H p ws ∧ HandT H r ys
end
mutual
theorem HandR.ex {H H' : Hp} (e : Ex H H') : ∀ {p : Pr} {xs : List V}, HandR H p xs → HandR H' p xs
  | .wheel _, _, h => h
  | .turned _ _, _, ⟨x, ws, h1, h2, h3⟩ => ⟨x, ws, h1, h2.ex e, HandR.ex e h3⟩
  | .over _ _, _, ⟨x, y, ws, zs, h1, h2, h3, h4, h5⟩ => ⟨x, y, ws, zs, h1, h2.ex e, h3.ex e, HandR.ex e h4, HandR.ex e h5⟩
  | .cut _ _, _, ⟨x, y, ws, zs, h1, h2, h3, h4, h5⟩ => ⟨x, y, ws, zs, h1, h2.ex e, h3.ex e, HandR.ex e h4, HandR.ex e h5⟩
  | .held _ _, _, ⟨x, y, ws, zs, h1, h2, h3, h4, h5⟩ => ⟨x, y, ws, zs, h1, h2.ex e, h3.ex e, HandR.ex e h4, HandR.ex e h5⟩
  | .taking _, _, ⟨x, ws, h1, h2, h3⟩ => ⟨x, ws, h1, h2.ex e, HandT.ex e h3⟩
  | .thn _ _ _, _, ⟨x, y, ws, zs, h1, h2, h3, h4, h5⟩ => ⟨x, y, ws, zs, h1, h2.ex e, h3.ex e, HandR.ex e h4, HandR.ex e h5⟩
  | .dyed _ _, _, ⟨x, y, ws, qs, h1, h2, h3, h4, h5, h6⟩ => ⟨x, y, ws, qs, h1, h2.ex e, h3.ex e, h4, fun i q hq => by obtain ⟨c, d, g1, g2⟩ := h5 i q hq; exact ⟨c, d, g1, g2.ex e⟩, HandR.ex e h6⟩
theorem HandT.ex {H H' : Hp} (e : Ex H H') : ∀ {ps : Ps} {xs : List V}, HandT H ps xs → HandT H' ps xs
  | .nil, _, h => h
  | .cons _ _ _, _, ⟨q, x, ws, ys, h1, h2, h3, h4, h5⟩ => ⟨q, x, ws, ys, h1, h2.ex e, h3.ex e, HandR.ex e h4, HandT.ex e h5⟩
end
def Hand (H : Hp) (p : Pr) (v : V) : Prop := ∃ ws, Sq H v (T (wd (idx p)) :: ws) ∧ HandR H p ws
theorem Hand.ex {H H' : Hp} {p : Pr} {v : V} (e : Ex H H') (h : Hand H p v) : Hand H' p v := by
  obtain ⟨ws, h1, h2⟩ := h
  exact ⟨ws, h1.ex e, h2.ex e⟩
/-- what a keeper tells -/
def KeptR (K : PySem.W.Frag) (H : Hp) : Pr → List V → Prop
  | .wheel rim, ys => ys = [T rim]
  | .turned p n, ys => ∃ x, ys = [x, .int (n : Int)] ∧ Kept K H p x
  | .over a b, ys => ∃ x y, ys = [x, y] ∧ Kept K H a x ∧ Kept K H b y
  | .cut a b, ys => ∃ x y, ys = [x, y] ∧ Kept K H a x ∧ Kept K H b y
  | .held a b, ys => ∃ x y, ys = [x, y] ∧ Kept K H a x ∧ Kept K H b y
  | .taking ps, ys => ∃ t xs, ys = [.ref t] ∧ SqT K H t xs ∧ KeptT K H ps xs
  | .thn a n b, ys => ∃ x y, ys = [x, .int (n : Int), y] ∧ Kept K H a x ∧ Kept K H b y
  | .dyed p ds, ys => ∃ (x : V) (t : Addr) (qs : List Addr), ys = [x, .ref t] ∧ PlT H t (qs.map V.ref) ∧ DyP K H qs ds ∧ Kept K H p x
theorem KeptR.kept {K : PySem.W.Frag} {H H' : Hp} {p : Pr} {ys : List V} {a : Addr} (h : KeptR K H p ys) (e : Ex H H') (ha : SqT K H' a (T (wd (idx p)) :: ys)) : Kept K H' p (.ref a) := by
  cases p with
  | wheel _ => obtain rfl : ys = _ := h; exact ⟨a, rfl, ha⟩
  | turned _ _ => obtain ⟨x, rfl, h1⟩ := h; exact ⟨a, x, rfl, ha, h1.ex e⟩
  | over _ _ => obtain ⟨x, y, rfl, h1, h2⟩ := h; exact ⟨a, x, y, rfl, ha, h1.ex e, h2.ex e⟩
  | cut _ _ => obtain ⟨x, y, rfl, h1, h2⟩ := h; exact ⟨a, x, y, rfl, ha, h1.ex e, h2.ex e⟩
  | held _ _ => obtain ⟨x, y, rfl, h1, h2⟩ := h; exact ⟨a, x, y, rfl, ha, h1.ex e, h2.ex e⟩
  | taking _ => obtain ⟨t, xs, rfl, h1, h2⟩ := h; exact ⟨a, t, xs, rfl, ha, ex_t e h1, KeptT.ex e h2⟩
  | thn _ _ _ => obtain ⟨x, y, rfl, h1, h2⟩ := h; exact ⟨a, x, y, rfl, ha, h1.ex e, h2.ex e⟩
  | dyed _ _ => obtain ⟨x, t, qs, rfl, h1, h2, h3⟩ := h; exact ⟨a, x, t, qs, rfl, ha, h1.ex e, h2.ex e, h3.ex e⟩
theorem ne_len {xs ys : List V} (e : ys = xs) (h : xs ≠ [] ∧ xs.length ≤ 3) : ys ≠ [] ∧ ys.length ≤ 3 := e ▸ h
theorem KeptR.ne {K : PySem.W.Frag} {H : Hp} {p : Pr} {ys : List V} (h : KeptR K H p ys) : ys ≠ [] ∧ ys.length ≤ 3 := by
  cases p with
  | wheel _ => exact ne_len h ⟨List.cons_ne_nil _ _, Nat.le_of_ble_eq_true rfl⟩
  | turned _ _ => obtain ⟨x, e, h1⟩ := h; exact ne_len e ⟨List.cons_ne_nil _ _, Nat.le_of_ble_eq_true rfl⟩
  | over _ _ => obtain ⟨x, y, e, h1, h2⟩ := h; exact ne_len e ⟨List.cons_ne_nil _ _, Nat.le_of_ble_eq_true rfl⟩
  | cut _ _ => obtain ⟨x, y, e, h1, h2⟩ := h; exact ne_len e ⟨List.cons_ne_nil _ _, Nat.le_of_ble_eq_true rfl⟩
  | held _ _ => obtain ⟨x, y, e, h1, h2⟩ := h; exact ne_len e ⟨List.cons_ne_nil _ _, Nat.le_of_ble_eq_true rfl⟩
  | taking _ => obtain ⟨t, xs, e, h1, h2⟩ := h; exact ne_len e ⟨List.cons_ne_nil _ _, Nat.le_of_ble_eq_true rfl⟩
  | thn _ _ _ => obtain ⟨x, y, e, h1, h2⟩ := h; exact ne_len e ⟨List.cons_ne_nil _ _, Nat.le_of_ble_eq_true rfl⟩
  | dyed _ _ => obtain ⟨x, t, qs, e, _⟩ := h; exact ne_len e ⟨List.cons_ne_nil _ _, Nat.le_of_ble_eq_true rfl⟩
mutual
/-- a press by its form: rims of marks, two to six by turns, of some places -/
def Form : Pr → Prop
  | .wheel rim => rim ≠ [] ∧ rim.length ≤ 100000 ∧ ∀ c ∈ rim, c ∈ MARKS
  | .turned p _ => Form p
  | .over a b => Form a ∧ Form b
  | .cut a b => Form a ∧ Form b
  | .held a b => Form a ∧ Form b
  | .taking ps => FormT ps ∧ 2 ≤ (manies ps).length ∧ (manies ps).length ≤ 6
  | .thn a _ b => Form a ∧ Form b
  | .dyed p _ => Form p
def FormT : Ps → Prop
  | .nil => True
  | .cons p n r => Form p ∧ 0 < n ∧ FormT r
end
section
variable {K : PySem.W.Frag} {σ : L2.St} {H : Hp} {ta tb te : TE} {v : V} {xs : List V}
theorem Sq.lt {a : Addr} (h : H a = some (.lst xs) ∨ Rd H a (.tup xs)) : SqL K H a xs ∨ SqT K H a xs := h.imp SqL.of .inl
theorem ev_lenQ (h : Ev te σ H v) (hs : Sq H v xs) : Ev (tCB (rLenL K) (tCons te tNil)) σ H (.int (xs.length : Int)) := fun H1 e Q q => h H1 e _ fun H2 e2 => by
  obtain ⟨a, rfl, ha⟩ := hs.ex (e.trans e2)
  exact ⟨a, xs, rfl, Sq.lt ha, q H2 e2⟩
theorem ev_ixQ {i : Nat} {x : V} (h : Ev ta σ H v) (hs : Sq H v xs) (hb : Ev tb σ H (.int (i : Int))) (hx : xs[i]? = some x) : Ev (tOp (or2 (rIxL K) (rIxT K)) ta tb) σ H x := fun H1 e Q q => h H1 e _ fun H2 e2 => hb H2 (e.trans e2) _ fun H3 e3 => by
  obtain ⟨a, rfl, ha⟩ := hs.ex ((e.trans e2).trans e3)
  rcases ha with ha | ha
  · exact .inl ⟨a, xs, _, x, rfl, rfl, SqL.of ha, atI_nat hx, q H3 (e2.trans e3)⟩
  · exact .inr ⟨a, xs, _, x, rfl, rfl, .inl ha, atI_nat hx, q H3 (e2.trans e3)⟩
def rSlQ (K : PySem.W.Frag) : V → Option Int → Option Int → Hp → VK → Prop := fun x lo hi H Q => rSlL K x lo hi H Q ∨ rSlT K x lo hi H Q
theorem sl_seq {X : Cx} : SlR X (rSlQ X.K) := SlR.or sl_list sl_tup
/-- v[1:] -/
theorem evp_tail {x : V} {tl : TO} (h : Ev te σ H v) (hs : Sq H v (x :: xs)) (hl : EvO tl σ H (some 1)) : EvP (tSl (rSlQ K) te tl tNoPart) σ H (fun v' H' => Sq H' v' xs) := fun H1 e Q q => h H1 e _ fun H2 e2 => hl H2 (e.trans e2) _ fun H3 e3 => by
  obtain ⟨a, rfl, ha⟩ := hs.ex ((e.trans e2).trans e3)
  have hc : cutV (x :: xs) (some 1) none = xs := by
    unfold cutV
    have h1 : HT.sIx (x :: xs).length 0 (some 1) = 1 := by
      have := HT.sIx_nat (x :: xs).length 0 1
      rw [show ((1 : Nat) : Int) = 1 from rfl] at this
      rw [this, List.length_cons]
      omega
    rw [h1, HT.sIx_none]
    simp
  rcases ha with ha | ha
  · refine .inl ⟨a, _, rfl, SqL.of ha, fun p hp => ?_⟩
    rw [hc]
    exact q _ _ ((e2.trans e3).trans (Ex.new hp)) ⟨p, rfl, .inl upd_same⟩
  · refine .inr ⟨a, _, rfl, .inl ha, fun z => ?_, fun p hp => ?_⟩
    · have h1 : HT.sIx (x :: xs).length 0 (some 1) = 1 := by
        have := HT.sIx_nat (x :: xs).length 0 1
        rw [show ((1 : Nat) : Int) = 1 from rfl] at this
        rw [this, List.length_cons]
        omega
      rw [h1] at z
      omega
    · rw [hc]
      exact q _ _ ((e2.trans e3).trans (Ex.new hp)) ⟨p, rfl, .inr (.inl upd_same)⟩
theorem kit_list : PySem.W.kitAny K (.type "list") [.type "list", .type "tuple"] = some true := kitAny_cons (b := true) (kit_ty (by decide +kernel)) (fun z => nomatch z) fun _ => rfl
theorem kit_tuple : PySem.W.kitAny K (.type "tuple") [.type "list", .type "tuple"] = some true := kitAny_cons (b := false) (kit_ty (by decide +kernel)) (fun _ => kitAny_cons (b := true) (kit_ty (by decide +kernel)) (fun z => nomatch z) fun _ => rfl) fun z => nomatch z
/-- isinstance(v, (list, tuple)) of a number, a text -/
theorem ev_isiA {t : Value} {b : Bool} (h : Ev te σ H v) (ht : ∀ {H1 : Hp}, TyX K H1 v t) (hk : PySem.W.kitAny K t [.type "list", .type "tuple"] = some b) : Ev (tCB (rIsiT K) (tCons te (tCons (tTup (tCons (tC (.ty "list")) (tCons (tC (.ty "tuple")) tNil))) tNil))) σ H (.bl b) := fun H1 e Q q => h H1 e _ fun H2 e2 => by
  refine ⟨by show 2 ≤ sizeLine; decide, fun p hp => ?_⟩
  have e3 := Ex.new (o := .tup [V.ty "list", V.ty "tuple"]) hp
  exact ⟨_, p, _, t, _, b, rfl, upd_same, .cons (.ty _) (.cons (.ty _) .nil), ht, hk, q _ (e2.trans e3)⟩
/-- isinstance(v, (list, tuple)) -/
theorem ev_isiQ (h : Ev te σ H v) (hs : Sq H v xs) : Ev (tCB (rIsiT K) (tCons te (tCons (tTup (tCons (tC (.ty "list")) (tCons (tC (.ty "tuple")) tNil))) tNil))) σ H (.bl true) := fun H1 e Q q => h H1 e _ fun H2 e2 => by
  refine ⟨by show 2 ≤ sizeLine; decide, fun p hp => ?_⟩
  have e3 := Ex.new (o := .tup [V.ty "list", V.ty "tuple"]) hp
  obtain ⟨a, rfl, ha⟩ := hs.ex ((e.trans e2).trans e3)
  have hcl : Paired ClsV [V.ty "list", V.ty "tuple"] [.type "list", .type "tuple"] := .cons (.ty _) (.cons (.ty _) .nil)
  rcases ha with ha | ha
  · exact ⟨_, p, _, .type "list", _, true, rfl, upd_same, hcl, .base (.lst ha), kit_list, q _ (e2.trans e3)⟩
  · rcases ha with ha | ⟨o, ha⟩
    · exact ⟨_, p, _, .type "tuple", _, true, rfl, upd_same, hcl, .base (.tup ha), kit_tuple, q _ (e2.trans e3)⟩
    · exact ⟨_, p, _, .type "tuple", _, true, rfl, upd_same, hcl, .fTuple ha, kit_tuple, q _ (e2.trans e3)⟩
mutual
theorem Kept.map {H H' : Hp} (e : (∀ a xs, SqT K H a xs → SqT K H' a xs) ∧ ∀ a xs, PlT H a xs → PlT H' a xs) : ∀ {p : Pr} {v : V}, Kept K H p v → Kept K H' p v
  | .wheel _, _, ⟨a, h1, h2⟩ => ⟨a, h1, e.1 _ _ h2⟩
  | .turned _ _, _, ⟨a, x, h1, h2, h3⟩ => ⟨a, x, h1, e.1 _ _ h2, Kept.map e h3⟩
  | .over _ _, _, ⟨c, x, y, h1, h2, h3, h4⟩ => ⟨c, x, y, h1, e.1 _ _ h2, Kept.map e h3, Kept.map e h4⟩
  | .cut _ _, _, ⟨c, x, y, h1, h2, h3, h4⟩ => ⟨c, x, y, h1, e.1 _ _ h2, Kept.map e h3, Kept.map e h4⟩
  | .held _ _, _, ⟨c, x, y, h1, h2, h3, h4⟩ => ⟨c, x, y, h1, e.1 _ _ h2, Kept.map e h3, Kept.map e h4⟩
  | .taking _, _, ⟨a, t, xs, h1, h2, h3, h4⟩ => ⟨a, t, xs, h1, e.1 _ _ h2, e.1 _ _ h3, KeptT.map e h4⟩
  | .thn _ _ _, _, ⟨c, x, y, h1, h2, h3, h4⟩ => ⟨c, x, y, h1, e.1 _ _ h2, Kept.map e h3, Kept.map e h4⟩
  | .dyed _ _, _, ⟨a, x, t, qs, h1, h2, h3, h4, h5⟩ => ⟨a, x, t, qs, h1, e.1 _ _ h2, e.2 _ _ h3, ⟨h4.1, fun i q hq => by obtain ⟨c, d, g1, g2⟩ := h4.2 i q hq; exact ⟨c, d, g1, e.1 _ _ g2⟩⟩, Kept.map e h5⟩
theorem KeptT.map {H H' : Hp} (e : (∀ a xs, SqT K H a xs → SqT K H' a xs) ∧ ∀ a xs, PlT H a xs → PlT H' a xs) : ∀ {ps : Ps} {xs : List V}, KeptT K H ps xs → KeptT K H' ps xs
  | .nil, _, h => h
  | .cons _ _ _, _, ⟨q, x, ys, h1, h2, h3, h4⟩ => ⟨q, x, ys, h1, e.1 _ _ h2, Kept.map e h3, KeptT.map e h4⟩
end
/-- [one for one, other in pairs], pairs in a list -/
theorem el_lcFstL {t : Addr} {xs zs : List V} {j k : Nat} {vs : List Nat} (h : Ev te σ H (.ref t)) (ht : H t = some (.lst xs)) (hl : xs.length = zs.length) (hz : xs.length ≤ 1000) (hp : ∀ (i : Nat) x z, xs[i]? = some x → zs[i]? = some z → ∃ q n, x = .ref q ∧ SqT K H q [z, n])
    (hw : ∀ x y, wipe (((wipe σ vs).set j (some x)).set k (some y)) vs = wipe σ vs) (hj : ∀ x y, (((wipe σ vs).set j (some x)).set k (some y))[j]? = some (some x)) :
    EvL (tLc (iList K te) (gTup K 2 (gCons (gName j) (gCons (gName k) gNil))) tYes (tVar j) vs) σ H zs := fun H1 e Q q =>
  h H1 e _ fun H2 e2 => ⟨t, rfl, ⟨xs, SqL.of ((e.trans e2) _ _ ht)⟩, fun Dl hD => by
    refine lc_list (xs := xs) (fun i H' => Ex H2 H' ∧ H' Dl = some (.lst (zs.take i))) ⟨Ex.new hD, upd_same⟩ (fun i H' _ hp => SqL.of (hp.1 _ _ ((e.trans e2) _ _ ht))) (fun i x H' hx hpv => ?_) (fun H' hp => ?_)
    · obtain ⟨e3, hDl⟩ := hpv
      have hiz : i < zs.length := by
        have := (List.getElem?_eq_some_iff.mp hx).1
        omega
      obtain ⟨q0, n, rfl, hq0⟩ := hp i x zs[i] hx (List.getElem?_eq_getElem hiz)
      refine ⟨q0, _, rfl, ex_t ((e.trans e2).trans e3) hq0, rfl, _, _, rfl, _, _, rfl, rfl, hw _ _, ?_⟩
      simp only [tYes, ↓reduceIte]
      refine ⟨_, hj _ _, zs.take i, hDl, by rw [List.length_take, big]; omega, e3.mut hD, ?_⟩
      rw [List.take_succ_eq_append_getElem hiz]
      exact upd_same
    · obtain ⟨e3, hDl⟩ := hp
      rw [hl, List.take_length] at hDl
      exact q Dl H' (fresh_back e2 hD) (e2.trans e3) hDl⟩
/-- tuple(x) of a list: a plain one -/
theorem evp_tupF {l : Addr} (h : Ev te σ H (.ref l)) (hs : H l = some (.lst xs)) : EvP (tThen te (kTupF K)) σ H (fun v' H' => ∃ q, v' = .ref q ∧ PlT H' q xs) := fun H1 e Q q => h H1 e _ fun H2 e2 =>
  ⟨l, xs, rfl, SqL.of ((e.trans e2) _ _ hs), fun p o hp ho => q _ _ (e2.trans (Ex.new hp)) ⟨p, rfl, o, ho, upd_same⟩⟩
/-- a list changed: tuples stay -/
theorem sqT_upd {l : Addr} {zs : List V} {o : HO} (hl : H l = some (.lst zs)) : ∀ a xs, SqT K H a xs → SqT K (upd H l o) a xs := fun a xs h => by
  rcases h with (h | ⟨o', h⟩) | h
  · have n : a ≠ l := fun e => by
      rw [e, hl] at h
      cases h
    exact .inl (.inl (by rw [upd_ne n]; exact h))
  · have n : a ≠ l := fun e => by
      rw [e, hl] at h
      cases h
    exact .inl (.inr ⟨o', by rw [upd_ne n]; exact h⟩)
  · exact .inr h
theorem plT_upd {l : Addr} {zs : List V} {o : HO} (hl : H l = some (.lst zs)) : ∀ a xs, PlT H a xs → PlT (upd H l o) a xs := fun a xs ⟨u, h1, h2⟩ => by
  have n : a ≠ l := fun e => by
    rw [e, hl] at h2
    cases h2
  exact ⟨u, h1, by rw [upd_ne n]; exact h2⟩
theorem keep_upd {l : Addr} {zs : List V} {o : HO} (hl : H l = some (.lst zs)) : (∀ a xs, SqT K H a xs → SqT K (upd H l o) a xs) ∧ ∀ a xs, PlT H a xs → PlT (upd H l o) a xs := ⟨sqT_upd hl, plT_upd hl⟩
theorem keptT_app {H : Hp} : ∀ {a b : Ps} {xs ys : List V}, KeptT K H a xs → KeptT K H b ys → KeptT K H (app a b) (xs ++ ys)
  | .nil, _, xs, ys, h1, h2 => by
    have e : xs = [] := h1
    subst e
    exact h2
  | .cons p n r, b, xs, ys, ⟨q, x, zs, e, h3, h4, h5⟩, h2 => by
    subst e
    exact ⟨q, x, zs ++ ys, rfl, h3, h4, keptT_app h5 h2⟩
theorem handT_nil {ps : Ps} (h : HandT H ps []) : ps = .nil := by
  cases ps with
  | nil => rfl
  | cons p n r =>
    obtain ⟨q, x, ws, ys, e, _⟩ := h
    cases e
theorem handT_len : ∀ {ps : Ps} {xs : List V}, HandT H ps xs → (manies ps).length = xs.length
  | .nil, xs, h => by
    have e : xs = [] := h
    rw [e]
    rfl
  | .cons p n r, xs, ⟨q, x, ws, ys, e, h2, h3, h4, h5⟩ => by
    rw [e]
    show (manies r).length + 1 = ys.length + 1
    rw [handT_len h5]
/-- a tuple of told things -/
theorem evp_tup {tr : TA} {P : List V → Hp → Prop} (hm : ∀ vs H1 H2, Ex H1 H2 → P vs H1 → P vs H2) (hl : ∀ vs H1, P vs H1 → vs.length ≤ 100) (h : EvAP tr σ H P) : EvP (tTup tr) σ H (fun v H' => ∃ q ws, v = .ref q ∧ H' q = some (.tup ws) ∧ P ws H') := fun H1 e Q q =>
  h H1 e _ fun ws H2 e2 p => ⟨by have := hl _ _ p; rw [big]; omega, fun a ha => q _ _ (e2.trans (Ex.new ha)) ⟨a, ws, rfl, upd_same, hm _ _ _ (Ex.new ha) p⟩⟩
theorem evp_imp {P P' : V → Hp → Prop} (h : EvP te σ H P) (i : ∀ v H1, Ex H H1 → P v H1 → P' v H1) : EvP te σ H P' := fun H1 e Q q => h H1 e _ fun v H2 e2 p => q v H2 e2 (i v H2 (e.trans e2) p)
/-- tuple(xs) -/
theorem evp_tupleQ (h : Ev te σ H v) (hs : Sq H v xs) : EvP (tThen te (kTup K)) σ H (fun v' H' => ∃ q, v' = .ref q ∧ SqT K H' q xs) := fun H1 e Q q => h H1 e _ fun H2 e2 => by
  obtain ⟨a, rfl, ha⟩ := hs.ex (e.trans e2)
  rcases ha with ha | ha
  · exact .inl ⟨a, xs, rfl, SqL.of ha, fun p hp => q _ _ (e2.trans (Ex.new hp)) ⟨p, rfl, SqT.of upd_same⟩⟩
  · exact .inr ⟨a, xs, rfl, .inl ha, q _ _ e2 ⟨a, rfl, .inl ha⟩⟩
/-- for over a list or a tuple -/
theorem q_forQ {H0 : Hp} {D : Ends} {tz tu : TS} {g : TG} (h : Ev te σ H v) (e0 : Ex H0 H) (hs : Sq H0 v xs) (Pv : Nat → L2.St → Hp → Prop) (h0 : ∀ H1, Ex H H1 → Pv 0 σ H1) (hx : ∀ i σ' H', Pv i σ' H' → Ex H0 H')
    (hst : ∀ i x σ' H', xs[i]? = some x → Pv i σ' H' → g x σ' H' fun σ2 H2 => tu { D with nx := Pv (i + 1), ct := Pv (i + 1), bk := tz D } σ2 H2) (hd : ∀ σ' H', Pv xs.length σ' H' → tz D σ' H') :
    tSeq (tFor (fun σ H R => iList K te σ H R ∨ iTup K te σ H R) g tu) tz D σ H := by
  obtain ⟨a, rfl, ha⟩ := hs
  rcases ha with ha | ha
  · exact .inl (s_forL (D := { D with nx := tz D }) h (SqL.of (e0 _ _ ha)) Pv h0 (fun i σ' H' _ p => SqL.of (hx i σ' H' p _ _ ha)) hst hd)
  · exact .inr (s_forT (D := { D with nx := tz D }) h (.inl (ex_rd e0 ha)) Pv h0 (fun i σ' H' _ p => .inl (ex_rd (hx i σ' H' p) ha)) hst hd)
/-- xs.append(e), e told by a property -/
theorem s_appP {D : Ends} {P : V → Hp → Prop} {l : Addr} {xs : List V} (hl : H l = some (.lst xs)) (ha : Ev ta σ H (.ref l)) (h : EvP te σ H P) (hz : xs.length < 100000) (k : ∀ v H1, Ex H H1 → P v H1 → D.nx σ (upd H1 l (.lst (xs ++ [v])))) : tDrop (tBM K "list" rAppend ta (tCons te tNil)) D σ H :=
  ha H (Ex.refl H) _ fun H1 e1 => ⟨Or.inl ⟨rfl, xs, sq_of (e1 l _ hl)⟩, h H1 e1 _ fun v H2 e2 p => ⟨l, xs, v, rfl, rfl, e2 l _ (e1 l _ hl), sz_lt hz, k v H2 (e1.trans e2) p⟩⟩
end
theorem putK_new {kvs : List (Key × V)} {k : Key} {v : V} (h : k ∉ kvs.map (·.1)) : putK kvs k v = kvs ++ [(k, v)] := by
  unfold putK
  rw [if_neg]
  intro z
  obtain ⟨kv, h1, h2⟩ := List.any_eq_true.mp z
  exact h (List.mem_map.mpr ⟨kv, h1, of_decide_eq_true h2⟩)
theorem paired_dy {K : PySem.W.Frag} {H : Hp} : ∀ {qs : List Addr} {ds : List (Nat × Nat)}, DyP K H qs ds → Paired (fun p (kv : Key × V) => SqT K H p [kV kv.1, kv.2]) qs (dyesK ds)
  | [], [], _ => .nil
  | [], d :: ds, h => by cases h.1
  | q :: qs, [], h => by cases h.1
  | q :: qs, d :: ds, h => by
    obtain ⟨c, e, g1, g2⟩ := h.2 0 q rfl
    cases g1
    exact .cons g2 (paired_dy ⟨Nat.succ.inj h.1, fun i q' hq => by
      obtain ⟨c', e', g3, g4⟩ := h.2 (i + 1) q' hq
      exact ⟨c', e', g3, g4⟩⟩)
theorem dyesK_nd {ds : List (Nat × Nat)} (h : (ds.map Prod.fst).Nodup) : ((dyesK ds).map Prod.fst).Nodup := by
  have e : (dyesK ds).map Prod.fst = (ds.map Prod.fst).map fun c => (Sum.inr (S [c]) : Key) := by
    unfold dyesK
    rw [List.map_map, List.map_map]
    rfl
  rw [e]
  refine List.Pairwise.map _ (fun a b hab z => hab ?_) h
  have z2 : S [a] = S [b] := Sum.inr.inj z
  have := S_inj.mp z2
  simpa using this
theorem sqT_kp {K : PySem.W.Frag} {H H' : Hp} {a : Addr} {zs : List V} (k : Kp H H') (h : SqT K H a zs) : SqT K H' a zs := by
  rcases h with (h | ⟨o, h⟩) | h
  · exact .inl (.inl (k _ _ h fun _ _ z => nomatch z))
  · exact .inl (.inr ⟨o, k _ _ h fun _ _ z => nomatch z⟩)
  · exact .inr h
theorem plT_kp {H H' : Hp} {a : Addr} {zs : List V} (k : Kp H H') (h : PlT H a zs) : PlT H' a zs := h.elim fun o g => ⟨o, g.1, k _ _ g.2 fun _ _ z => nomatch z⟩
theorem dyP_kp {K : PySem.W.Frag} {H H' : Hp} {qs : List Addr} {ds : List (Nat × Nat)} (k : Kp H H') (h : DyP K H qs ds) : DyP K H' qs ds := ⟨h.1, fun i q hq => by obtain ⟨c, d, g1, g2⟩ := h.2 i q hq; exact ⟨c, d, g1, sqT_kp k g2⟩⟩
theorem valV_at : ∀ {kvs : List (Key × V)} {k : Key} {v : V} {i : Nat}, (kvs.map (·.1)).Nodup → kvs[i]? = some (k, v) → valV kvs k = some v
  | [], _, _, _, _, h => by simp at h
  | (a, b) :: r, k, v, i, nd, h => by
    rw [List.map_cons, List.nodup_cons] at nd
    cases i with
    | zero =>
      simp at h
      obtain ⟨rfl, rfl⟩ := h
      simp [valV]
    | succ i =>
      have h' : r[i]? = some (k, v) := by simpa using h
      have hm : k ∈ r.map (·.1) := List.mem_map.mpr ⟨(k, v), List.mem_of_getElem? h', rfl⟩
      have hne : ¬ a = k := fun e => nd.1 (e ▸ hm)
      have ih := valV_at nd.2 h'
      unfold valV at ih ⊢
      rw [List.find?_cons_of_neg (by simpa using hne)]
      exact ih
theorem merge_new : ∀ (more kvs : List (Key × V)), ((kvs ++ more).map (·.1)).Nodup → mergeK kvs more = kvs ++ more
  | [], kvs, _ => by rw [List.append_nil]; rfl
  | (k, v) :: r, kvs, nd => by
    have e : kvs ++ (k, v) :: r = (kvs ++ [(k, v)]) ++ r := by rw [List.append_assoc]; rfl
    have hk : k ∉ kvs.map (·.1) := fun hm => by
      rw [List.map_append, List.nodup_append] at nd
      exact nd.2.2 k hm k (List.mem_map.mpr ⟨(k, v), List.mem_cons_self, rfl⟩) rfl
    show mergeK (putK kvs k v) r = _
    rw [putK_new hk, merge_new r (kvs ++ [(k, v)]) (by rw [← e]; exact nd), ← e]
/-- x.f = dict(pairs), at the end -/
theorem s_fldDict {K : PySem.W.Frag} {σ : L2.St} {H : Hp} {ta te : TE} {D : Ends} {x dx C t : Addr} {ks : List Str} {vs : List V} {f : Str} {qs : List Addr} {ds : List (Nat × Nat)} (cl : Cls K C) (na : NoAttr K C f) (hx : H x = some (.ins C dx (ks.zip vs))) (hl : ks.length = vs.length) (hn : f ∉ ks) (hz : ks.length < 100)
    (hv : Ev te σ H (.ref t)) (ht : PlT H t (qs.map V.ref)) (hq : DyP K H qs ds) (hnd : (ds.map Prod.fst).Nodup) (ho : ∀ H1, Ev ta σ H1 (.ref x)) (k : ∀ p H1, H p = none → Ex H H1 → H1 p = some (.dK (dyesK ds)) → D.nx σ (upd H1 x (.ins C dx ((ks ++ [f]).zip (vs ++ [.ref p]))))) : sFld K ta (tCB (rDictT K) (tCons te tNil)) f D σ H :=
  hv H (Ex.refl H) _ fun H1 e => ⟨t, qs, dyesK ds, rfl, ht.ex e, paired_dy (hq.ex e), fun p hp => ho _ _ (Ex.refl _) _ fun H2 e2 => by
    rw [merge_new (dyesK ds) [] (dyesK_nd hnd), List.nil_append] at e2
    have e3 : Ex H H2 := (e.trans (Ex.new hp)).trans e2
    exact ⟨x, C, dx, _, rfl, e3 _ _ hx, cl, na, by rw [List.length_zip]; omega, by
      rw [putF_new hn hl]
      exact k p H2 (fresh_back e hp) e3 (e2 _ _ upd_same)⟩⟩
/-- a def's name, as a value -/
theorem pe_gfn {X : Cx} {x : Str} {f : Addr} {pos : Pos} (hm : X.mg x = some (.ref f)) (hg : Gl X x := by rfl) (hd : (x == ("__debug__" : Str)) = false := by decide) : PE X (.Name x pos) (tC (.ref f)) :=
  pe_glob (v := V.ref f) hg hm rfl hd
/-- what a keeper of the things of a press promises -/
def sp_keep (K : PySem.W.Frag) (d : Nat) (c : Nat) : Sp := fun vs H Q _ => ∃ (p : Pr) (v : V) (ws : List V), vs = [v] ∧ (idx p = c ∧ Sq H v ws ∧ HandR H p ws ∧ dep p ≤ d + 1 ∧ Form p ∧ NoDye p) ∧
  RetP (fun v' H' => ∃ q ys, v' = .ref q ∧ SqT K H' q ys ∧ KeptR K H' p ys) H Q
def sp_kept_press (K : PySem.W.Frag) (d : Nat) : Sp := fun vs H Q _ => ∃ (p : Pr) (v : V), vs = [v] ∧ (Hand H p v ∧ dep p ≤ d ∧ Form p ∧ NoDye p) ∧ RetP (fun v' H' => Kept K H' p v') H Q
theorem kept_mono {K : PySem.W.Frag} {p : Pr} : ∀ v' H1 H2, Ex H1 H2 → Kept K H1 p v' → Kept K H2 p v' := fun _ _ _ e h => Kept.ex e h
def sp_need (K : PySem.W.Frag) : Sp := fun vs H Q _ => vs = [.bl true] ∧ RetV .non H Q
end RX

/-! Whether a handed press is small; its parts. -/
namespace RY
open PySem PySem.Spec PyProof.Rows L2 Evl TL RC RD RE RG RI RP RQ RS RR RT RU RV RX
mutual
def parts : Pr → Nat
  | .wheel _ => 1
  | .turned p _ => parts p + 1
  | .over a b => parts a + parts b + 1
  | .cut a b => parts a + parts b + 1
  | .held a b => parts a + parts b + 1
  | .taking ps => partsT ps + 1
  | .thn a _ b => parts a + parts b + 1
  | .dyed p _ => parts p + 1
def partsT : Ps → Nat
  | .nil => 0
  | .cons p _ r => parts p + partsT r
end
mutual
theorem dep_parts : ∀ p : Pr, dep p ≤ parts p
  | .wheel _ => Nat.le_refl _
  | .turned p _ => by have := dep_parts p; show dep p + 1 ≤ parts p + 1; omega
  | .over a b => by have := dep_parts a; have := dep_parts b; show max (dep a) (dep b) + 1 ≤ parts a + parts b + 1; omega
  | .cut a b => by have := dep_parts a; have := dep_parts b; show max (dep a) (dep b) + 1 ≤ parts a + parts b + 1; omega
  | .held a b => by have := dep_parts a; have := dep_parts b; show max (dep a) (dep b) + 1 ≤ parts a + parts b + 1; omega
  | .taking ps => by have := dep_partsT ps; show depT ps + 1 ≤ partsT ps + 1; omega
  | .thn a _ b => by have := dep_parts a; have := dep_parts b; show max (dep a) (dep b) + 1 ≤ parts a + parts b + 1; omega
  | .dyed p _ => by have := dep_parts p; show dep p + 1 ≤ parts p + 1; omega
theorem dep_partsT : ∀ ps : Ps, depT ps ≤ partsT ps
  | .nil => Nat.le_refl _
  | .cons p _ r => by have := dep_parts p; have := dep_partsT r; show max (dep p) (depT r) ≤ parts p + partsT r; omega
end
/-- xs != [] -/
def rNeNil : R2 := fun x y H Q => ∃ a b xs, x = .ref a ∧ y = .ref b ∧ H a = some (.lst xs) ∧ H b = some (.lst []) ∧ Q (.bl (!decide (xs = []))) H
theorem op_neNil {X : Cx} (hu : X.A.units < cLine) : OpR X (compareOp .NotEq) rNeNil := by
  intro pins s σ H x y v u Q I rx ry h
  obtain ⟨a, b, xs, rfl, rfl, ha, hb, q⟩ := h
  cases rx
  cases ry
  obtain ⟨_, its, n, r, hl, e⟩ := I.lstM ha
  obtain ⟨_, its2, n2, r2, hl2, e2⟩ := I.lstM hb
  have hz2 : its2 = [] := List.eq_nil_of_length_eq_zero (by rw [← hl2]; rfl)
  subst hz2
  have L1 : s.heap.IsList a its.toArray := ⟨_, e, rfl, n, rfl⟩
  have L2' : s.heap.IsList b ([] : List Value).toArray := ⟨_, e2, rfl, n2, rfl⟩
  by_cases hx : xs = []
  · subst hx
    have hz : its = [] := List.eq_nil_of_length_eq_zero (by rw [← hl]; rfl)
    subst hz
    exact SeqAt.RcNeAt.lists (e := fun _ => true) L1 L2' rfl hu (fun j h1 _ => absurd h1 (Nat.not_lt_zero _)) X.prog X.w X.xe _ ⟨.bl false, H, I, rfl, q⟩
  · have hne : (its.toArray.size != ([] : List Value).toArray.size) = true := by
      have : its.length ≠ 0 := fun z => hx (List.eq_nil_of_length_eq_zero (by rw [hl]; exact z))
      simpa using this
    rw [decide_eq_false hx] at q
    exact SeqAt.RcNeAt.lists_lengths L1 L2' hne hu X.prog X.w X.xe _ ⟨.bl true, H, I, rfl, q⟩
/-! ### what is looked at -/
def ItV (H : Hp) (v : V) (k : Nat) : Prop := ((∃ n : Int, v = .int n) ∨ ∃ l, v = T l) ∧ k = 0 ∨ (∃ p, Hand H p v ∧ NoDye p ∧ Form p ∧ k = parts p) ∨ (∃ xs, Sq H v xs ∧ ∀ x ∈ xs, ∃ ys, Sq H x ys) ∧ k = 0
def Its (H : Hp) : List V → Nat → Prop
  | [], k => k = 0
  | v :: r, k => ∃ a b, k = a + b ∧ ItV H v a ∧ Its H r b
theorem ItV.ex {H H' : Hp} {v : V} {k : Nat} (e : Ex H H') (h : ItV H v k) : ItV H' v k := by
  rcases h with h | ⟨p, h1, h2⟩ | ⟨⟨xs, h1, h2⟩, h3⟩
  · exact .inl h
  · exact .inr (.inl ⟨p, h1.ex e, h2⟩)
  · exact .inr (.inr ⟨⟨xs, h1.ex e, fun x hx => (h2 x hx).elim fun ys g => ⟨ys, g.ex e⟩⟩, h3⟩)
theorem Its.ex {H H' : Hp} (e : Ex H H') : ∀ {xs : List V} {k : Nat}, Its H xs k → Its H' xs k
  | [], _, h => h
  | _ :: _, _, ⟨a, b, h1, h2, h3⟩ => ⟨a, b, h1, h2.ex e, Its.ex e h3⟩
theorem Its.app {H : Hp} : ∀ {xs ys : List V} {j k : Nat}, Its H xs j → Its H ys k → Its H (xs ++ ys) (j + k)
  | [], ys, j, k, h1, h2 => by
    have e : j = 0 := h1
    subst e
    rw [Nat.zero_add]
    exact h2
  | x :: r, ys, j, k, ⟨a, b, e, h3, h4⟩, h2 => ⟨a, b + k, by omega, h3, Its.app h4 h2⟩
theorem Its.last {H : Hp} : ∀ {xs : List V} {y : V} {k : Nat}, Its H (xs ++ [y]) k → ∃ a b, k = a + b ∧ Its H xs a ∧ ItV H y b
  | [], y, k, ⟨a, b, e, h1, h2⟩ => ⟨0, a, by have : b = 0 := h2; omega, rfl, h1⟩
  | x :: r, y, k, ⟨a, b, e, h1, h2⟩ => by
    obtain ⟨c, d, g1, g2, g3⟩ := Its.last h2
    exact ⟨a + c, d, by omega, ⟨a, c, rfl, h1, g2⟩, g3⟩
theorem its_hand {H : Hp} {p : Pr} {v : V} {ws : List V} (hs : Sq H v (T (wd (idx p)) :: ws)) (hh : HandR H p ws) (hn : NoDye p) (hf : Form p) : ItV H v (parts p) := .inr (.inl ⟨p, ⟨ws, hs, hh⟩, hn, hf, rfl⟩)
section
variable {K : PySem.W.Frag} {σ : L2.St} {H : Hp} {ta tb te tx : TE} {tt : TT} {v : V} {xs ws : List V} {vs : List Nat}
/-- v[1:4] of at most four -/
theorem evp_sl14 {x : V} {tl th : TO} (h : Ev te σ H v) (hs : Sq H v (x :: xs)) (hl : EvO tl σ H (some 1)) (hh : EvO th σ H (some 4)) (h3 : xs.length ≤ 3) : EvP (tSl (rSlQ K) te tl th) σ H (fun v' H' => Sq H' v' xs) := fun H1 e Q q => h H1 e _ fun H2 e2 => hl H2 (e.trans e2) _ fun H3 e3 => hh H3 ((e.trans e2).trans e3) _ fun H4 e4 => by
  obtain ⟨a, rfl, ha⟩ := hs.ex (((e.trans e2).trans e3).trans e4)
  have h1 : HT.sIx (x :: xs).length 0 (some 1) = 1 := by
    have := HT.sIx_nat (x :: xs).length 0 1
    rw [show ((1 : Nat) : Int) = 1 from rfl] at this
    rw [this, List.length_cons]
    omega
  have h4 : HT.sIx (x :: xs).length (x :: xs).length (some 4) = xs.length + 1 := by
    have := HT.sIx_nat (x :: xs).length (x :: xs).length 4
    rw [show ((4 : Nat) : Int) = 4 from rfl] at this
    rw [this, List.length_cons]
    omega
  have hc : cutV (x :: xs) (some 1) (some 4) = xs := by
    unfold cutV
    rw [h1, h4]
    simp
  rcases ha with ha | ha
  · refine .inl ⟨a, _, rfl, SqL.of ha, fun p hp => ?_⟩
    rw [hc]
    exact q _ _ (((e2.trans e3).trans e4).trans (Ex.new hp)) ⟨p, rfl, .inl upd_same⟩
  · refine .inr ⟨a, _, rfl, .inl ha, fun z => ?_, fun p hp => ?_⟩
    · rw [h1] at z
      omega
    · rw [hc]
      exact q _ _ (((e2.trans e3).trans e4).trans (Ex.new hp)) ⟨p, rfl, .inr (.inl upd_same)⟩
/-- a comprehension over a list or a tuple, by places -/
theorem el_lcQ {j : Nat} (ys : List V) (h : Ev te σ H v) (hs : Sq H v xs) (hy : ys.length = xs.length) (hz : xs.length ≤ 40000) (hw : ∀ x, wipe ((wipe σ vs).set j (some x)) vs = wipe σ vs)
    (ht : ∀ (i : Nat) x H1, Ex H H1 → xs[i]? = some x → EvT tt ((wipe σ vs).set j (some x)) H1 true) (he : ∀ (i : Nat) x y H1, Ex H H1 → xs[i]? = some x → ys[i]? = some y → Ev tx ((wipe σ vs).set j (some x)) H1 y) :
    EvL (tLc (fun σ H R => iList K te σ H R ∨ iTup K te σ H R) (gName j) tt tx vs) σ H ys := by
  have hg : given xs.length (fun _ => true) (fun i => ys.getD i .non) = ys := by
    unfold given
    rw [List.filter_eq_self.mpr (fun _ _ => rfl)]
    apply List.ext_getElem
    · simp [hy]
    · intro i h1 h2
      simp [List.getD, h2]
  obtain ⟨a, rfl, ha⟩ := hs
  rw [← hg]
  have he' : ∀ (i : Nat) x H1, Ex H H1 → xs[i]? = some x → Ev tx ((wipe σ vs).set j (some x)) H1 (ys.getD i .non) := fun i x H1 e hx => by
    have hi := (List.getElem?_eq_some_iff.mp hx).1
    have hyi : ys[i]? = some (ys.getD i .non) := by simp [List.getD, hy ▸ hi]
    exact he i x _ H1 e hx hyi
  intro H0 e Q q
  rcases ha with ha | ha
  · exact .inl (el_lcL (fun _ => true) (fun i => ys.getD i .non) h (SqL.of ha) hz hw (fun i x H1 e hx => ht i x H1 e hx) (fun i x H1 e hx _ => he' i x H1 e hx) H0 e Q q)
  · refine .inr (h H0 e _ fun H1 ee => ⟨a, rfl, ⟨xs, .inl (ex_rd (e.trans ee) ha)⟩, fun Dl hD => lc_it (walk_tup (a := a) (xs := xs)) (Cw H1 (fun _ => true) (fun i => ys.getD i .non) Dl) ⟨hD, Ex.new hD, upd_same⟩ (fun i H' _ pv => .inl (ex_rd ((e.trans ee).trans pv.2.1) ha)) (fun i x H2 H3 hi pv y => ?_) (fun H2 pv => q Dl H2 (fresh_back ee pv.1) (ee.trans pv.2.1) pv.2.2)⟩)
    obtain ⟨rfl, hx⟩ := y
    exact ⟨hw x, cw_turn pv (by omega) (ht i x H1 (e.trans ee) hx) (fun _ => he' i x H1 (e.trans ee) hx)⟩
theorem q_parP {D : Ends} {tz : TS} {i j : Nat} {ta : TA} {P : List V → Hp → Prop} (h : EvAP ta σ H P) (hp : ∀ vs H1, P vs H1 → ∃ v w, vs = [v, w]) (k : ∀ v w H1, Ex H H1 → P [v, w] H1 → tz D ((σ.set i (some v)).set j (some w)) H1) : tSeq (tPar i j ta) tz D σ H :=
  h H (Ex.refl H) _ fun vs H1 e p => by
    obtain ⟨v, w, rfl⟩ := hp vs H1 p
    exact ⟨v, w, rfl, k v w H1 e p⟩
theorem evp_lst {zs : List V} (h : EvL te σ H zs) : EvP te σ H (fun v' H' => ∃ l, v' = .ref l ∧ H l = none ∧ H' l = some (.lst zs)) := fun H1 e Q q => h H1 e _ fun p H2 hp e2 h2 => q _ H2 e2 ⟨p, rfl, fresh_back e hp, h2⟩
theorem q_pop {D : Ends} {tz : TS} {i : Nat} {l : Addr} {y : V} (hl : H l = some (.lst (xs ++ [y]))) (ha : Ev ta σ H (.ref l)) (k : ∀ H1, Ex H H1 → tz D (σ.set i (some y)) (upd H1 l (.lst xs))) : tSeq (tAsg (tBM0 K "list" rPop ta) (gName i)) tz D σ H :=
  ha H (Ex.refl H) _ fun H1 e1 => ⟨Or.inl ⟨rfl, _, sq_of (e1 l _ hl)⟩, l, xs ++ [y], y, rfl, rfl, e1 l _ hl, by simp, by
    rw [List.dropLast_concat]
    exact k H1 e1⟩
theorem s_extP {D : Ends} {P : V → Hp → Prop} {l : Addr} (hl : H l = some (.lst xs)) (ha : Ev ta σ H (.ref l)) (h : EvP te σ H P) (hp : ∀ v H1, Ex H H1 → P v H1 → ∃ b zs, v = .ref b ∧ H1 b = some (.lst zs) ∧ xs.length + zs.length ≤ 100000 ∧ D.nx σ (upd H1 l (.lst (xs ++ zs)))) : tDrop (tBM K "list" rExtend ta (tCons te tNil)) D σ H :=
  ha H (Ex.refl H) _ fun H1 e1 => ⟨Or.inl ⟨rfl, xs, sq_of (e1 l _ hl)⟩, h H1 e1 _ fun v H2 e2 p => by
    obtain ⟨b, zs, rfl, g1, g2, g3⟩ := hp v H2 (e1.trans e2) p
    exact ⟨l, b, xs, zs, rfl, rfl, e2 l _ (e1 l _ hl), g1, by rw [big]; omega, g3⟩⟩
theorem handR_its : ∀ {p : Pr} {ws : List V}, HandR H p ws → NoDye p → Form p → idx p ≠ 5 → ∃ k, Its H ws k ∧ k + 1 = parts p ∧ ws.length ≤ 3
  | .wheel rim, _, h, _, _, _ => by
    have e : _ = [T rim] := h
    subst e
    exact ⟨0, ⟨0, 0, rfl, .inl ⟨.inr ⟨rim, rfl⟩, rfl⟩, rfl⟩, rfl, by show 1 ≤ 3; decide⟩
  | .turned p n, _, ⟨x, ws, e, h1, h2⟩, hn, hf, _ => by
    subst e
    exact ⟨parts p, ⟨parts p, 0, rfl, its_hand h1 h2 hn hf, 0, 0, rfl, .inl ⟨.inl ⟨_, rfl⟩, rfl⟩, rfl⟩, rfl, by show 2 ≤ 3; decide⟩
  | .over a b, _, ⟨x, y, ws, zs, e, h1, h2, h3, h4⟩, hn, hf, _ => by
    subst e
    exact ⟨parts a + parts b, ⟨parts a, parts b, rfl, its_hand h1 h3 hn.1 hf.1, parts b, 0, rfl, its_hand h2 h4 hn.2 hf.2, rfl⟩, rfl, by show 2 ≤ 3; decide⟩
  | .cut a b, _, ⟨x, y, ws, zs, e, h1, h2, h3, h4⟩, hn, hf, _ => by
    subst e
    exact ⟨parts a + parts b, ⟨parts a, parts b, rfl, its_hand h1 h3 hn.1 hf.1, parts b, 0, rfl, its_hand h2 h4 hn.2 hf.2, rfl⟩, rfl, by show 2 ≤ 3; decide⟩
  | .held a b, _, ⟨x, y, ws, zs, e, h1, h2, h3, h4⟩, hn, hf, _ => by
    subst e
    exact ⟨parts a + parts b, ⟨parts a, parts b, rfl, its_hand h1 h3 hn.1 hf.1, parts b, 0, rfl, its_hand h2 h4 hn.2 hf.2, rfl⟩, rfl, by show 2 ≤ 3; decide⟩
  | .taking ps, _, _, _, _, h5 => absurd rfl h5
  | .thn a n b, _, ⟨x, y, ws, zs, e, h1, h2, h3, h4⟩, hn, hf, _ => by
    subst e
    exact ⟨parts a + parts b, ⟨parts a, parts b, rfl, its_hand h1 h3 hn.1 hf.1, 0, parts b, by omega, .inl ⟨.inl ⟨_, rfl⟩, rfl⟩, parts b, 0, rfl, its_hand h2 h4 hn.2 hf.2, rfl⟩, rfl, by show 3 ≤ 3; decide⟩
  | .dyed p ds, _, ⟨x, y, ws, qs, e, h1, h2, h3, h4, h5⟩, hn, hf, _ => by
    subst e
    refine ⟨parts p, ⟨parts p, 0, rfl, its_hand h1 h5 hn.1 hf, 0, 0, rfl, .inr (.inr ⟨⟨qs, h2, fun q hq => ?_⟩, rfl⟩), rfl⟩, rfl, by show 2 ≤ 3; decide⟩
    obtain ⟨i, hi⟩ := List.getElem?_of_mem hq
    obtain ⟨c, d, _, g⟩ := h4 i q hi
    exact ⟨_, g⟩
/-- the presses of pairs -/
theorem handT_its : ∀ {ps : Ps} {xs : List V}, HandT H ps xs → NoDyeT ps → FormT ps → ∃ ys, ys.length = xs.length ∧ Its H ys (partsT ps) ∧ ∀ (i : Nat) x y, xs[i]? = some x → ys[i]? = some y → ∃ n, Sq H x [y, n]
  | .nil, xs, h, _, _ => by
    have e : xs = [] := h
    subst e
    exact ⟨[], rfl, rfl, fun i x y hx => by simp at hx⟩
  | .cons p n r, _, ⟨q, x, ws, ys, e, h1, h2, h3, h4⟩, hn, hf => by
    subst e
    obtain ⟨zs, g1, g2, g3⟩ := handT_its h4 hn.2 hf.2.2
    refine ⟨x :: zs, by rw [List.length_cons, List.length_cons, g1], ⟨parts p, partsT r, rfl, its_hand h2 h3 hn.1 hf.1, g2⟩, fun i a b ha hb => ?_⟩
    cases i with
    | zero =>
      simp at ha hb
      subst ha
      subst hb
      exact ⟨_, h1⟩
    | succ i => exact g3 i a b (by simpa using ha) (by simpa using hb)
end
def sp_things_within (K : PySem.W.Frag) : Sp := fun vs H Q _ => ∃ (p : Pr) (v : V) (G : Hp), vs = [v] ∧ (Ex G H ∧ Hand G p v ∧ NoDye p ∧ Form p) ∧
  RetP (fun v' H' => ∃ l zs k, v' = .ref l ∧ new H H' l = some (.lst zs) ∧ Its G zs k ∧ k + 1 = parts p ∧ zs.length ≤ 6) H Q
def sp_is_small (K : PySem.W.Frag) : Sp := fun vs H Q _ => ∃ (p : Pr) (v : V), vs = [v] ∧ (Hand H p v ∧ NoDye p ∧ Form p ∧ parts p ≤ 60) ∧ RetV (.bl true) H Q
def sp_count_parts (K : PySem.W.Frag) (d : Nat) : Sp := fun vs H Q _ => ∃ (p : Pr) (v : V), vs = [v] ∧ (Kept K H p v ∧ dep p ≤ d ∧ NoDye p ∧ Form p) ∧ RetV (.int (parts p : Int)) H Q
end RY

/-! Parts counted; a press rolled. -/
namespace RZ1
open PySem PySem.Spec PyProof.Rows L2 Evl TL RC RD RE RG RI RP RQ RS RR RT RU RV RX RY
def psL : Ps → List Pr
  | .nil => []
  | .cons p _ r => p :: psL r
def kids : Pr → List Pr
  | .wheel _ => []
  | .turned p _ => [p]
  | .over a b => [a, b]
  | .cut a b => [a, b]
  | .held a b => [a, b]
  | .taking ps => psL ps
  | .thn a _ b => [a, b]
  | .dyed p _ => [p]
def sumP : List Pr → Nat
  | [] => 0
  | p :: r => parts p + sumP r
theorem sumP_psL : ∀ ps : Ps, sumP (psL ps) = partsT ps
  | .nil => rfl
  | .cons p _ r => by
    show parts p + sumP (psL r) = parts p + partsT r
    rw [sumP_psL r]
theorem sum_kids (p : Pr) : 1 + sumP (kids p) = parts p := by
  cases p with
  | taking ps =>
    show 1 + sumP (psL ps) = partsT ps + 1
    rw [sumP_psL]
    omega
  | wheel _ => rfl
  | turned p _ => show 1 + (parts p + 0) = parts p + 1; omega
  | dyed p _ => show 1 + (parts p + 0) = parts p + 1; omega
  | over a b => show 1 + (parts a + (parts b + 0)) = parts a + parts b + 1; omega
  | cut a b => show 1 + (parts a + (parts b + 0)) = parts a + parts b + 1; omega
  | held a b => show 1 + (parts a + (parts b + 0)) = parts a + parts b + 1; omega
  | thn a _ b => show 1 + (parts a + (parts b + 0)) = parts a + parts b + 1; omega
theorem depT_mem : ∀ {ps : Ps} {q : Pr}, q ∈ psL ps → dep q ≤ depT ps
  | .nil, _, h => by cases h
  | .cons p _ r, q, h => by
    show dep q ≤ max (dep p) (depT r)
    rcases List.mem_cons.mp h with e | e
    · rw [e]
      omega
    · have := depT_mem e
      omega
theorem dep_kids {p q : Pr} (h : q ∈ kids p) : dep q < dep p := by
  cases p with
  | wheel _ => cases h
  | turned p n => obtain rfl := List.mem_singleton.mp h; exact Nat.lt_succ_self _
  | dyed p n => obtain rfl := List.mem_singleton.mp h; exact Nat.lt_succ_self _
  | taking ps => exact Nat.lt_succ_of_le (depT_mem h)
  | over a b => show dep q < max (dep a) (dep b) + 1; rcases List.mem_cons.mp h with rfl | e; omega; obtain rfl := List.mem_singleton.mp e; omega
  | cut a b => show dep q < max (dep a) (dep b) + 1; rcases List.mem_cons.mp h with rfl | e; omega; obtain rfl := List.mem_singleton.mp e; omega
  | held a b => show dep q < max (dep a) (dep b) + 1; rcases List.mem_cons.mp h with rfl | e; omega; obtain rfl := List.mem_singleton.mp e; omega
  | thn a n b => show dep q < max (dep a) (dep b) + 1; rcases List.mem_cons.mp h with rfl | e; omega; obtain rfl := List.mem_singleton.mp e; omega
theorem noDyeT_mem : ∀ {ps : Ps} {q : Pr}, q ∈ psL ps → NoDyeT ps → NoDye q
  | .cons p _ r, q, h, hn => by
    rcases List.mem_cons.mp h with e | e
    · rw [e]
      exact hn.1
    · exact noDyeT_mem e hn.2
theorem noDye_kids {p q : Pr} (h : q ∈ kids p) (hn : NoDye p) : NoDye q := by
  cases p with
  | wheel _ => cases h
  | turned p n => obtain rfl := List.mem_singleton.mp h; exact hn
  | dyed p n => obtain rfl := List.mem_singleton.mp h; exact hn.1
  | taking ps => exact noDyeT_mem h hn
  | over a b => rcases List.mem_cons.mp h with rfl | e; exact hn.1; obtain rfl := List.mem_singleton.mp e; exact hn.2
  | cut a b => rcases List.mem_cons.mp h with rfl | e; exact hn.1; obtain rfl := List.mem_singleton.mp e; exact hn.2
  | held a b => rcases List.mem_cons.mp h with rfl | e; exact hn.1; obtain rfl := List.mem_singleton.mp e; exact hn.2
  | thn a n b => rcases List.mem_cons.mp h with rfl | e; exact hn.1; obtain rfl := List.mem_singleton.mp e; exact hn.2
/-- presses kept, one by one -/
def KL (K : PySem.W.Frag) (H : Hp) : List Pr → List V → Prop
  | [], zs => zs = []
  | p :: r, zs => ∃ x ys, zs = x :: ys ∧ Kept K H p x ∧ KL K H r ys
theorem KL.len {K : PySem.W.Frag} {H : Hp} : ∀ {ps : List Pr} {zs : List V}, KL K H ps zs → ps.length = zs.length
  | [], zs, h => by
    have e : zs = [] := h
    rw [e]
    rfl
  | p :: r, zs, ⟨x, ys, e, _, h⟩ => by rw [e, List.length_cons, List.length_cons, h.len]
theorem KL.at {K : PySem.W.Frag} {H : Hp} : ∀ {ps : List Pr} {zs : List V} {i : Nat} {x : V}, KL K H ps zs → zs[i]? = some x → ∃ p, ps[i]? = some p ∧ Kept K H p x
  | [], zs, i, x, h, hx => by
    have e : zs = [] := h
    subst e
    simp at hx
  | p :: r, zs, i, x, ⟨y, ys, e, h1, h2⟩, hx => by
    subst e
    cases i with
    | zero => exact ⟨p, rfl, by simp at hx; rw [← hx]; exact h1⟩
    | succ i => exact h2.at (by simpa using hx)
def KidsV (K : PySem.W.Frag) (H : Hp) : Pr → V → List V → Prop
  | .wheel rim, v, zs => (∃ a, v = .ref a ∧ SqT K H a [T (wd 0), T rim]) ∧ zs = []
  | .turned p n, v, zs => ∃ a x, v = .ref a ∧ SqT K H a [T (wd 1), x, .int (n : Int)] ∧ zs = [x]
  | .over _ _, v, zs => ∃ c x y, v = .ref c ∧ SqT K H c [T (wd 2), x, y] ∧ zs = [x, y]
  | .cut _ _, v, zs => ∃ c x y, v = .ref c ∧ SqT K H c [T (wd 3), x, y] ∧ zs = [x, y]
  | .held _ _, v, zs => ∃ c x y, v = .ref c ∧ SqT K H c [T (wd 4), x, y] ∧ zs = [x, y]
  | .taking ps, v, zs => ∃ a t xs, v = .ref a ∧ SqT K H a [T (wd 5), .ref t] ∧ SqT K H t xs ∧ xs.length = zs.length ∧ xs.length ≤ 1000 ∧ ∀ (i : Nat) x z, xs[i]? = some x → zs[i]? = some z → ∃ q n, x = .ref q ∧ SqT K H q [z, n]
  | .thn _ n _, v, zs => ∃ c x y, v = .ref c ∧ SqT K H c [T (wd 6), x, .int (n : Int), y] ∧ zs = [x, y]
  | .dyed _ _, v, zs => ∃ a x t, v = .ref a ∧ SqT K H a [T (wd 7), x, t] ∧ zs = [x]
theorem keptT_kids {K : PySem.W.Frag} {H : Hp} : ∀ {ps : Ps} {xs : List V}, KeptT K H ps xs → ∃ zs, xs.length = zs.length ∧ KL K H (psL ps) zs ∧ ∀ (i : Nat) x z, xs[i]? = some x → zs[i]? = some z → ∃ q n, x = .ref q ∧ SqT K H q [z, n]
  | .nil, xs, h => by
    have e : xs = [] := h
    subst e
    exact ⟨[], rfl, rfl, fun i x z hx => by simp at hx⟩
  | .cons p n r, xs, ⟨q, x, ys, e, h1, h2, h3⟩ => by
    subst e
    obtain ⟨zs, g1, g2, g3⟩ := keptT_kids h3
    refine ⟨x :: zs, by rw [List.length_cons, List.length_cons, g1], ⟨x, zs, rfl, h2, g2⟩, fun i a b ha hb => ?_⟩
    cases i with
    | zero =>
      simp at ha hb
      subst ha
      subst hb
      exact ⟨q, _, rfl, h1⟩
    | succ i => exact g3 i a b (by simpa using ha) (by simpa using hb)
theorem kept_kids {K : PySem.W.Frag} {H : Hp} {p : Pr} {v : V} (h : Kept K H p v) (hn : NoDye p) (hf : Form p) : ∃ zs, KidsV K H p v zs ∧ KL K H (kids p) zs := by
  cases p with
  | wheel _ => obtain ⟨a, h1, h2⟩ := h; exact ⟨[], ⟨⟨a, h1, h2⟩, rfl⟩, rfl⟩
  | turned _ _ => obtain ⟨a, x, h1, h2, h3⟩ := h; exact ⟨[x], ⟨a, x, h1, h2, rfl⟩, ⟨x, [], rfl, h3, rfl⟩⟩
  | over _ _ => obtain ⟨c, x, y, h1, h2, h3, h4⟩ := h; exact ⟨[x, y], ⟨c, x, y, h1, h2, rfl⟩, ⟨x, [y], rfl, h3, y, [], rfl, h4, rfl⟩⟩
  | cut _ _ => obtain ⟨c, x, y, h1, h2, h3, h4⟩ := h; exact ⟨[x, y], ⟨c, x, y, h1, h2, rfl⟩, ⟨x, [y], rfl, h3, y, [], rfl, h4, rfl⟩⟩
  | held _ _ => obtain ⟨c, x, y, h1, h2, h3, h4⟩ := h; exact ⟨[x, y], ⟨c, x, y, h1, h2, rfl⟩, ⟨x, [y], rfl, h3, y, [], rfl, h4, rfl⟩⟩
  | taking ps =>
    obtain ⟨a, t, xs, h1, h2, h3, h4⟩ := h
    obtain ⟨zs, g1, g2, g3⟩ := keptT_kids h4
    have hl := keptT_len h4
    have h6 := hf.2.2
    exact ⟨zs, ⟨a, t, xs, h1, h2, h3, g1, by omega, g3⟩, g2⟩
  | thn _ _ _ => obtain ⟨c, x, y, h1, h2, h3, h4⟩ := h; exact ⟨[x, y], ⟨c, x, y, h1, h2, rfl⟩, ⟨x, [y], rfl, h3, y, [], rfl, h4, rfl⟩⟩
  | dyed _ _ => obtain ⟨a, x, t, qs, h1, h2, h3, h4, h5⟩ := h; exact ⟨[x], ⟨a, x, _, h1, h2, rfl⟩, ⟨x, [], rfl, h5, rfl⟩⟩
theorem formT_mem : ∀ {ps : Ps} {q : Pr}, q ∈ psL ps → FormT ps → Form q
  | .cons p _ r, q, h, hn => by
    rcases List.mem_cons.mp h with e | e
    · rw [e]
      exact hn.1
    · exact formT_mem e hn.2.2
theorem form_kids {p q : Pr} (h : q ∈ kids p) (hn : Form p) : Form q := by
  cases p with
  | wheel _ => cases h
  | turned p n => obtain rfl := List.mem_singleton.mp h; exact hn
  | dyed p n => obtain rfl := List.mem_singleton.mp h; exact hn
  | taking ps => exact formT_mem h hn.1
  | over a b => rcases List.mem_cons.mp h with rfl | e; exact hn.1; obtain rfl := List.mem_singleton.mp e; exact hn.2
  | cut a b => rcases List.mem_cons.mp h with rfl | e; exact hn.1; obtain rfl := List.mem_singleton.mp e; exact hn.2
  | held a b => rcases List.mem_cons.mp h with rfl | e; exact hn.1; obtain rfl := List.mem_singleton.mp e; exact hn.2
  | thn a n b => rcases List.mem_cons.mp h with rfl | e; exact hn.1; obtain rfl := List.mem_singleton.mp e; exact hn.2
def sp_within (K : PySem.W.Frag) : Sp := fun vs H Q _ => ∃ (p : Pr) (v : V) (zs : List V), vs = [v] ∧ KidsV K H p v zs ∧ RetL zs H Q
def sp_rolled (K : PySem.W.Frag) (cs : Nat → Addr) : Sp := fun vs H Q _ => ∃ (p : Pr) (v : V), vs = [v] ∧ (Hand H p v ∧ NoDye p ∧ Form p ∧ parts p ≤ 12 ∧ Fit p ∧ FitR p) ∧
  RetP (fun v' H' => ∃ q k r, v' = .ref q ∧ H' q = some (.tup [k, r]) ∧ Kept K H' p k ∧ Roll cs H' p r) H Q
def sp_need_place (K : PySem.W.Frag) : Sp := fun vs H Q _ => ∃ (n : Nat), vs = [.int (n : Int)] ∧ RetV .non H Q
def sp_mark_at (K : PySem.W.Frag) : Sp := fun vs H Q _ => ∃ (p : Pr) (v : V) (n : Nat), vs = [v, .int (n : Int)] ∧ (Hand H p v ∧ NoDye p ∧ Form p ∧ parts p ≤ 12 ∧ Fit p ∧ FitR p ∧ n + ahd p < lim) ∧ RetV (T [mark p n]) H Q
section
variable {K : PySem.W.Frag} {σ : L2.St} {H : Hp} {te : TE}
theorem ev_ixU {ta tb : TE} {a : Addr} {xs : List V} {i : Nat} {x : V} (ha : Ev ta σ H (.ref a)) (hs : SqT K H a xs) (hb : Ev tb σ H (.int (i : Int))) (hx : xs[i]? = some x) : Ev (tOp (rIxT K) ta tb) σ H x := ev_op ha hb (rv_ixT hs (atI_nat hx))
theorem ev_sumL {ns : List Int} (h : EvL te σ H (ns.map V.int)) : Ev (tCB (rSum K) (tCons te tNil)) σ H (.int ns.sum) := fun H1 e Q q => h H1 e _ fun p H2 _ e2 h2 => ⟨p, ns, rfl, SqL.of h2, q H2 e2⟩
theorem el_if {b : Bool} {t : TT} {ta tb : TE} {xs : List V} (h : EvT t σ H b) (h1 : b = true → EvL ta σ H xs) (h2 : b = false → EvL tb σ H xs) : EvL (tIf t ta tb) σ H xs := fun H1 e Q q => h H1 e _ fun H2 e2 => by
  cases b with
  | true => exact h1 rfl H2 (e.trans e2) _ fun p H3 hp e3 h3 => q p H3 (fresh_back e2 hp) (e2.trans e3) h3
  | false => exact h2 rfl H2 (e.trans e2) _ fun p H3 hp e3 h3 => q p H3 (fresh_back e2 hp) (e2.trans e3) h3
theorem sumP_ints : ∀ ps : List Pr, (ps.map fun q => (parts q : Int)).sum = (sumP ps : Int)
  | [] => rfl
  | p :: r => by
    rw [List.map_cons, List.sum_cons, sumP_ints r]
    show _ = ((parts p + sumP r : Nat) : Int)
    omega
/-- a, b = a told pair -/
theorem q_asgT2P {D : Ends} {tz : TS} {P : V → Hp → Prop} {i j : Nat} (h : EvP te σ H P) (hp : ∀ v H1, P v H1 → ∃ q x y, v = .ref q ∧ H1 q = some (.tup [x, y])) (k : ∀ q x y H1, Ex H H1 → H1 q = some (.tup [x, y]) → P (.ref q) H1 → tz D ((σ.set i (some x)).set j (some y)) H1) :
    tSeq (tAsg te (gTup K 2 (gCons (gName i) (gCons (gName j) gNil)))) tz D σ H := h H (Ex.refl H) _ fun v H1 e p => by
  obtain ⟨q, x, y, rfl, g⟩ := hp v H1 p
  exact ⟨q, _, rfl, SqT.of g, rfl, _, _, rfl, _, _, rfl, rfl, k q x y H1 e g p⟩
/-- [one for one, many in pairs] -/
theorem el_lcFst {t : Addr} {xs zs : List V} {j k : Nat} {vs : List Nat} (h : Ev te σ H (.ref t)) (ht : SqT K H t xs) (hl : xs.length = zs.length) (hz : xs.length ≤ 1000) (hp : ∀ (i : Nat) x z, xs[i]? = some x → zs[i]? = some z → ∃ q n, x = .ref q ∧ SqT K H q [z, n])
    (hw : ∀ x y, wipe (((wipe σ vs).set j (some x)).set k (some y)) vs = wipe σ vs) (hj : ∀ x y, (((wipe σ vs).set j (some x)).set k (some y))[j]? = some (some x)) :
    EvL (tLc (iTup K te) (gTup K 2 (gCons (gName j) (gCons (gName k) gNil))) tYes (tVar j) vs) σ H zs := fun H1 e Q q =>
  h H1 e _ fun H2 e2 => ⟨t, rfl, ⟨xs, ex_t (e.trans e2) ht⟩, fun Dl hD => by
    refine lc_it (walk_tup (a := t) (xs := xs)) (fun i H' => Ex H2 H' ∧ H' Dl = some (.lst (zs.take i))) ⟨Ex.new hD, upd_same⟩ (fun i H' _ hp => ex_t ((e.trans e2).trans hp.1) ht) (fun i x H' H'' hi hpv y => ?_) (fun H' hp => ?_)
    · obtain ⟨e3, hDl⟩ := hpv
      obtain ⟨rfl, hx⟩ := y
      have hiz : i < zs.length := by omega
      obtain ⟨q0, n, rfl, hq0⟩ := hp i x zs[i] hx (List.getElem?_eq_getElem hiz)
      refine ⟨q0, _, rfl, ex_t ((e.trans e2).trans e3) hq0, rfl, _, _, rfl, _, _, rfl, rfl, hw _ _, ?_⟩
      simp only [tYes, ↓reduceIte]
      refine ⟨_, hj _ _, zs.take i, hDl, by rw [List.length_take, big]; omega, e3.mut hD, ?_⟩
      rw [List.take_succ_eq_append_getElem hiz]
      exact upd_same
    · obtain ⟨e3, hDl⟩ := hp
      rw [hl, List.take_length] at hDl
      exact q Dl H' (fresh_back e2 hD) (e2.trans e3) hDl⟩
end
end RZ1

/-! Walks with draws inside: all but what the drawer owns only grows; G: what is known of the heap. -/
namespace RM
open PySem PySem.Spec PyProof.Rows L2 Evl TL RC RD RE RG RU
/-- what the drawer at b owns -/
def owns (b : Addr) (H : Hp) (p : Addr) : Prop := p = b ∨ ∃ xs, H b = some (.lst xs) ∧ V.ref p ∈ xs
open Classical in
/-- all but what the drawer owns -/
noncomputable def Hd (b : Addr) (H : Hp) : Hp := fun a => if owns b H a then none else H a
theorem Hd_own {b : Addr} {H : Hp} {a : Addr} (h : owns b H a) : Hd b H a = none := if_pos h
theorem Hd_no {b : Addr} {H : Hp} {a : Addr} (h : ¬ owns b H a) : Hd b H a = H a := if_neg h
theorem Hd_sub (b : Addr) (H : Hp) : Ex (Hd b H) H := fun a o h => by
  by_cases c : owns b H a
  · rw [Hd_own c] at h
    cases h
  · rwa [Hd_no c] at h
theorem Hd_some {b : Addr} {H : Hp} {a : Addr} {o : HO} (h : Hd b H a = some o) : ¬ owns b H a := fun c => by
  rw [Hd_own c] at h
  cases h
structure Drw (R : Hp → Prop) (b : Addr) : Prop where
  lst : ∀ {H}, R H → ∃ xs, H b = some (.lst xs) ∧ ∀ p, V.ref p ∈ xs → ∃ o, H p = some o
  same : ∀ {H H1}, R H → (∀ a o, owns b H a → H a = some o → H1 a = some o) → R H1
section
variable {R : Hp → Prop} {b : Addr} {H H1 : Hp}
theorem Drw.own (Dw : Drw R b) (hR : R H) {a : Addr} (h : owns b H a) : ∃ o, H a = some o := by
  obtain ⟨xs, h1, h2⟩ := Dw.lst hR
  rcases h with rfl | ⟨ys, g1, g2⟩
  · exact ⟨_, h1⟩
  · rw [h1] at g1
    cases g1
    exact h2 a g2
theorem owns_of (h : H1 b = H b) {a : Addr} : owns b H1 a ↔ owns b H a := by
  unfold owns
  rw [h]
theorem Drw.ex (Dw : Drw R b) (hR : R H) (e : Ex H H1) : R H1 ∧ Ex (Hd b H) (Hd b H1) := by
  obtain ⟨xs, h1, h2⟩ := Dw.lst hR
  have eb : H1 b = H b := by rw [h1, e _ _ h1]
  refine ⟨Dw.same hR fun a o _ h => e a o h, fun a o h => ?_⟩
  have hn := Hd_some h
  rw [Hd_no hn] at h
  rw [Hd_no fun c => hn ((owns_of eb).mp c)]
  exact e a o h
theorem Drw.fresh (Dw : Drw R b) (hR : R H) {p : Addr} (hp : H p = none) : ¬ owns b H p := fun c => by
  obtain ⟨o, h⟩ := Dw.own hR c
  rw [hp] at h
  cases h
theorem Drw.put (Dw : Drw R b) (hR : R H) {p : Addr} {o : HO} (hn : ¬ owns b H p) : R (upd H p o) ∧ Hd b (upd H p o) = upd (Hd b H) p o := by
  have hb : p ≠ b := fun z => hn (.inl z)
  have eb : (upd H p o) b = H b := upd_ne (Ne.symm hb)
  refine ⟨Dw.same hR fun a x c h => ?_, ?_⟩
  · have : a ≠ p := fun z => hn (z ▸ c)
    rw [upd_ne this]
    exact h
  · funext a
    by_cases c : a = p
    · subst c
      rw [Hd_no fun z => hn ((owns_of eb).mp z), upd_same, upd_same]
    · rw [upd_ne c]
      by_cases d : owns b H a
      · rw [Hd_own d, Hd_own ((owns_of eb).mpr d)]
      · rw [Hd_no d, Hd_no fun z => d ((owns_of eb).mp z), upd_ne c]
end
/-- from H to H', G known, then G' -/
structure Stp (b : Addr) (H H' G G' : Hp) : Prop where
  old : Ex (Hd b H) (Hd b H')
  dom : ∀ a, H a ≠ none → H' a ≠ none
  kn : Ex G G'
  sub : Ex G' (Hd b H')
  new : ∀ a, H a ≠ none → G' a = G a
section
variable {R : Hp → Prop} {b : Addr} {H H1 H2 G G1 G2 : Hp}
theorem Stp.refl (e : Ex G (Hd b H)) : Stp b H H G G := ⟨Ex.refl _, fun _ h => h, Ex.refl _, e, fun _ _ => rfl⟩
theorem Stp.trans (x : Stp b H H1 G G1) (y : Stp b H1 H2 G1 G2) : Stp b H H2 G G2 := ⟨x.old.trans y.old, fun a h => y.dom a (x.dom a h), x.kn.trans y.kn, y.sub, fun a h => (y.new a (x.dom a h)).trans (x.new a h)⟩
theorem ex_dom (e : Ex H H1) (a : Addr) (h : H a ≠ none) : H1 a ≠ none := by
  cases c : H a with
  | none => exact absurd c h
  | some o => rw [e _ _ c]; exact fun z => by cases z
theorem Drw.stp (Dw : Drw R b) (hR : R H) (e : Ex G (Hd b H)) (e1 : Ex H H1) : R H1 ∧ Stp b H H1 G G :=
  ⟨(Dw.ex hR e1).1, (Dw.ex hR e1).2, ex_dom e1, Ex.refl _, e.trans (Dw.ex hR e1).2, fun _ _ => rfl⟩
theorem Drw.stpNew (Dw : Drw R b) (hR : R H) (e : Ex G (Hd b H)) {p : Addr} {o : HO} (hp : H p = none) : R (upd H p o) ∧ Stp b H (upd H p o) G (upd G p o) := by
  have hn := Dw.fresh hR hp
  obtain ⟨r, x⟩ := Dw.put (o := o) hR hn
  have hd : Hd b H p = none := by rw [Hd_no hn]; exact hp
  have hg : G p = none := fresh_back e hd
  refine ⟨r, by rw [x]; exact Ex.new hd, ex_dom (Ex.new hp), Ex.new hg, fun a u h => ?_, fun a h => upd_ne fun z => h (z ▸ hp)⟩
  rw [x]
  by_cases c : a = p
  · subst c
    rw [upd_same] at h ⊢
    exact h
  · rw [upd_ne c] at h ⊢
    exact e _ _ h
end
/-- what a walk that draws promises -/
def RetD (R : Hp → Prop) (b : Addr) (G : Hp) (P : V → Hp → Prop) (H : Hp) (Q : VK) : Prop := ∀ v H' G', R H' → Stp b H H' G G' → P v G' → Q v H'
/-- a value, told by a property of what is known then; draws may happen -/
def EvD (R : Hp → Prop) (b : Addr) (te : TE) (σ : L2.St) (G : Hp) (P : V → Hp → Prop) : Prop := ∀ H, R H → Ex G (Hd b H) → ∀ Q : VK, RetD R b G P H Q → te σ H Q
def EvAD (R : Hp → Prop) (b : Addr) (ta : TA) (σ : L2.St) (G : Hp) (P : List V → Hp → Prop) : Prop := ∀ H, R H → Ex G (Hd b H) → ∀ Q : List V → Hp → Prop, (∀ vs H' G', R H' → Stp b H H' G G' → P vs G' → Q vs H') → ta σ H Q
/-- statements, on the way from H0 and G0 -/
def StD (R : Hp → Prop) (b : Addr) (H0 G0 : Hp) (ts : TS) (D : Ends) (σ : L2.St) (G : Hp) : Prop := ∀ H, R H → Stp b H0 H G0 G → ts D σ H
section
variable {K : PySem.W.Frag} {R : Hp → Prop} {b : Addr} {σ : L2.St} {H0 G0 G : Hp} {te ta tb : TE} {t : TT} {ts tz tu tw : TS} {D : Ends} {v : V} {P P1 P2 : V → Hp → Prop}
theorem ed_ev (Dw : Drw R b) (h : Ev te σ G v) : EvD R b te σ G (fun v' _ => v' = v) := fun H hR e Q q => h H (e.trans (Hd_sub b H)) Q fun H2 e2 => q v H2 G (Dw.stp hR e e2).1 (Dw.stp hR e e2).2 rfl
theorem ed_imp {P' : V → Hp → Prop} (h : EvD R b te σ G P) (i : ∀ v G1, Ex G G1 → P v G1 → P' v G1) : EvD R b te σ G P' := fun H hR e Q q => h H hR e Q fun v H' G' r x p => q v H' G' r x (i v _ x.kn p)
theorem ed_el (Dw : Drw R b) {xs : List V} (h : EvL te σ G xs) : EvD R b te σ G (fun v G' => ∃ p, v = .ref p ∧ G' p = some (.lst xs)) := fun H hR e Q q =>
  h H (e.trans (Hd_sub b H)) _ fun p H1 hp e1 h1 => by
    have hn := Dw.fresh hR hp
    have hd : Hd b H p = none := by rw [Hd_no hn]; exact hp
    obtain ⟨r1, x1⟩ := Dw.ex hR e1
    have hn1 : ¬ owns b H1 p := fun c => by
      obtain ⟨xs, h2, _⟩ := Dw.lst hR
      exact hn ((owns_of (by rw [h2, e1 _ _ h2])).mp c)
    refine q _ H1 (upd G p (.lst xs)) r1 ⟨x1, ex_dom e1, Ex.new (fresh_back e hd), fun a o ha => ?_, fun a h => upd_ne fun z => h (z ▸ hp)⟩ ⟨p, rfl, upd_same⟩
    by_cases c : a = p
    · subst c
      rw [upd_same] at ha
      rw [Hd_no hn1, h1, ha]
    · rw [upd_ne c] at ha
      exact x1 _ _ (e _ _ ha)
theorem ed_eu (Dw : Drw R b) {xs : List V} (h : EvU te σ G xs) : EvD R b te σ G (fun v G' => ∃ p, v = .ref p ∧ G' p = some (.tup xs)) := fun H hR e Q q =>
  h H (e.trans (Hd_sub b H)) _ fun p H1 hp e1 h1 => by
    have hn := Dw.fresh hR hp
    have hd : Hd b H p = none := by rw [Hd_no hn]; exact hp
    obtain ⟨r1, x1⟩ := Dw.ex hR e1
    have hn1 : ¬ owns b H1 p := fun c => by
      obtain ⟨xs, h2, _⟩ := Dw.lst hR
      exact hn ((owns_of (by rw [h2, e1 _ _ h2])).mp c)
    refine q _ H1 (upd G p (.tup xs)) r1 ⟨x1, ex_dom e1, Ex.new (fresh_back e hd), fun a o ha => ?_, fun a h => upd_ne fun z => h (z ▸ hp)⟩ ⟨p, rfl, upd_same⟩
    by_cases c : a = p
    · subst c
      rw [upd_same] at ha
      rw [Hd_no hn1, h1, ha]
    · rw [upd_ne c] at ha
      exact x1 _ _ (e _ _ ha)
theorem ead_nil : EvAD R b tNil σ G (fun vs _ => vs = []) := fun H hR e Q q => q [] H G hR (Stp.refl e) rfl
theorem ead_ev (Dw : Drw R b) {ta : TA} {vs : List V} (h : EvA ta σ G vs) : EvAD R b ta σ G (fun vs' _ => vs' = vs) := fun H hR e Q q => h H (e.trans (Hd_sub b H)) _ fun H2 e2 => q vs H2 G (Dw.stp hR e e2).1 (Dw.stp hR e e2).2 rfl
theorem ead_cons {tr : TA} {P2 : List V → Hp → Prop} (h : EvD R b te σ G P1) (m : ∀ v G1 G2, Ex G1 G2 → P1 v G1 → P1 v G2) (hr : ∀ G1, Ex G G1 → EvAD R b tr σ G1 P2) : EvAD R b (tCons te tr) σ G (fun vs G' => ∃ v r, vs = v :: r ∧ P1 v G' ∧ P2 r G') := fun H hR e Q q =>
  h H hR e _ fun v H1 G1 r1 x1 p1 => hr G1 x1.kn H1 r1 x1.sub _ fun vs H2 G2 r2 x2 p2 => q (v :: vs) H2 G2 r2 (x1.trans x2) ⟨v, vs, rfl, m v _ _ x2.kn p1, p2⟩
theorem ead_imp {ta : TA} {P P' : List V → Hp → Prop} (h : EvAD R b ta σ G P) (i : ∀ v G1, Ex G G1 → P v G1 → P' v G1) : EvAD R b ta σ G P' := fun H hR e Q q => h H hR e Q fun v H' G' r x p => q v H' G' r x (i v _ x.kn p)
theorem q_asgD {i : Nat} (h : EvD R b te σ G P) (k : ∀ v G1, Ex G G1 → P v G1 → StD R b H0 G0 tz D (σ.set i (some v)) G1) : StD R b H0 G0 (tSeq (tAsg te (gName i)) tz) D σ G := fun H hR s =>
  h H hR s.sub _ fun v H1 G1 r1 x1 p1 => k v G1 x1.kn p1 H1 r1 (s.trans x1)
theorem s_asgD {i : Nat} (h : EvD R b te σ G P) (k : ∀ v G1, Ex G G1 → P v G1 → ∀ H, R H → Stp b H0 H G0 G1 → D.nx (σ.set i (some v)) H) : StD R b H0 G0 (tAsg te (gName i)) D σ G := fun H hR s =>
  h H hR s.sub _ fun v H1 G1 r1 x1 p1 => k v G1 x1.kn p1 H1 r1 (s.trans x1)
theorem s_retD (h : EvD R b te σ G P) (k : ∀ v H G1, R H → Stp b H0 H G0 G1 → Ex G G1 → P v G1 → D.rt v H) : StD R b H0 G0 (tRet te) D σ G := fun H hR s => h H hR s.sub _ fun v H1 G1 r1 x1 p1 => k v H1 G1 r1 (s.trans x1) x1.kn p1
theorem sd_when (Dw : Drw R b) {c : Bool} (h : EvT t σ G c) (h1 : c = true → StD R b H0 G0 tu { D with nx := tz D } σ G) (h2 : c = false → StD R b H0 G0 tz D σ G) : StD R b H0 G0 (tSeq (tIfS t tu tNext) tz) D σ G := fun H hR s =>
  q_when (h.mono (s.sub.trans (Hd_sub b H))) (fun hc H1 e1 => h1 hc H1 (Dw.ex hR e1).1 (s.trans (Dw.stp hR s.sub e1).2)) (fun hc H1 e1 => h2 hc H1 (Dw.ex hR e1).1 (s.trans (Dw.stp hR s.sub e1).2))
theorem sd_if (Dw : Drw R b) {c : Bool} (h : EvT t σ G c) (h1 : c = true → StD R b H0 G0 tu { D with nx := tz D } σ G) (h2 : c = false → StD R b H0 G0 tw { D with nx := tz D } σ G) : StD R b H0 G0 (tSeq (tIfS t tu tw) tz) D σ G := fun H hR s =>
  q_if (h.mono (s.sub.trans (Hd_sub b H))) (fun hc H1 e1 => h1 hc H1 (Dw.ex hR e1).1 (s.trans (Dw.stp hR s.sub e1).2)) (fun hc H1 e1 => h2 hc H1 (Dw.ex hR e1).1 (s.trans (Dw.stp hR s.sub e1).2))
/-- pure ones -/
theorem sd_asg (Dw : Drw R b) {i : Nat} (h : Ev te σ G v) (k : StD R b H0 G0 tz D (σ.set i (some v)) G) : StD R b H0 G0 (tSeq (tAsg te (gName i)) tz) D σ G := fun H hR s =>
  q_asg (h.mono (s.sub.trans (Hd_sub b H))) fun H1 e1 => k H1 (Dw.ex hR e1).1 (s.trans (Dw.stp hR s.sub e1).2)
theorem sd_asgL (Dw : Drw R b) {i : Nat} {xs : List V} (h : EvL te σ G xs) (k : ∀ p G1, Ex G G1 → G1 p = some (.lst xs) → StD R b H0 G0 tz D (σ.set i (some (.ref p))) G1) : StD R b H0 G0 (tSeq (tAsg te (gName i)) tz) D σ G := q_asgD (ed_el Dw h) fun v' G1 e p => by
  obtain ⟨p, rfl, h1⟩ := p
  exact k p G1 e h1
theorem sd_asgU (Dw : Drw R b) {i : Nat} {xs : List V} (h : EvU te σ G xs) (k : ∀ p G1, Ex G G1 → G1 p = some (.tup xs) → StD R b H0 G0 tz D (σ.set i (some (.ref p))) G1) : StD R b H0 G0 (tSeq (tAsg te (gName i)) tz) D σ G := q_asgD (ed_eu Dw h) fun v' G1 e p => by
  obtain ⟨p, rfl, h1⟩ := p
  exact k p G1 e h1
theorem if_yes {p q : Prop} (h : p) : (if true = true then p else q) := by
  rw [if_pos rfl]
  exact h
/-- a turn of a list's making -/
theorem lc_step (Dw : Drw R b) {H1 H' G1 G' : Hp} {Dl : Addr} {xs : List V} {tel : TE} {σ2 : L2.St} {Gd : V → Hp → Prop} {Pn : Hp → Prop} (hz : xs.length < 100000) (hD : H1 Dl = none) (r : R H') (s : Stp b H1 H' G1 G') (gD : G' Dl = none) (h3 : Hd b H' Dl = some (.lst xs))
    (h : EvD R b tel σ2 G' Gd) (k : ∀ v H4 G4, R H4 → Stp b H1 H4 G1 G4 → Ex G' G4 → G4 Dl = none → Hd b H4 Dl = some (.lst (xs ++ [v])) → Gd v G4 → Pn H4) :
    tel σ2 H' fun y H4 => ∃ acc, H4 Dl = some (.lst acc) ∧ acc.length < sizeLine ∧ Pn (upd H4 Dl (.lst (acc ++ [y]))) :=
  h H' r s.sub _ fun v H2 G2 r2 x2 gv => by
    have h6 := x2.old _ _ h3
    have hD2 : G2 Dl = none := by
      rw [x2.new Dl fun z => ?_]
      · exact gD
      · have := Hd_sub b H' _ _ h3
        rw [z] at this
        cases this
    obtain ⟨p3, p4⟩ := Dw.put (o := .lst (xs ++ [v])) r2 (Hd_some h6)
    have s2 := s.trans x2
    have hn : Hd b H1 Dl = none := by
      cases c : Hd b H1 Dl with
      | none => rfl
      | some o => rw [Hd_sub b H1 _ _ c] at hD; cases hD
    refine ⟨xs, Hd_sub b H2 _ _ h6, sz_lt hz, k v _ G2 p3 ⟨?_, ?_, s2.kn, ?_, s2.new⟩ x2.kn hD2 (by rw [p4]; exact upd_same) gv⟩
    · rw [p4]
      intro a o ha
      rw [upd_ne (ne_of_none ha hn)]
      exact s2.old _ _ ha
    · intro a ha
      by_cases c : a = Dl
      · rw [c, upd_same]
        exact fun z => by cases z
      · rw [upd_ne c]
        exact s2.dom a ha
    · rw [p4]
      intro a o ha
      rw [upd_ne (ne_of_none ha hD2)]
      exact x2.sub _ _ ha
theorem lc_end (Dw : Drw R b) {H1 H' G1 G' : Hp} {Dl : Addr} {xs : List V} (hD : H1 Dl = none) (s : Stp b H1 H' G1 G') (gD : G' Dl = none) (h3 : Hd b H' Dl = some (.lst xs)) : Stp b H1 H' G1 (upd G' Dl (.lst xs)) :=
  ⟨s.old, s.dom, s.kn.trans (Ex.new gD), fun a o ha => by
    by_cases c : a = Dl
    · subst c
      rw [upd_same] at ha
      rw [h3, ha]
    · rw [upd_ne c] at ha
      exact s.sub _ _ ha, fun a ha => by
    have c : a ≠ Dl := fun z => ha (by rw [z]; exact hD)
    rw [upd_ne c]
    exact s.new a ha⟩
theorem lc_begin (Dw : Drw R b) {H1 G1 : Hp} {Dl : Addr} (hR : R H1) (e : Ex G1 (Hd b H1)) (hD : H1 Dl = none) : R (upd H1 Dl (.lst [])) ∧ Stp b H1 (upd H1 Dl (.lst [])) G1 G1 ∧ G1 Dl = none ∧ Hd b (upd H1 Dl (.lst [])) Dl = some (.lst []) := by
  have hn := Dw.fresh hR hD
  obtain ⟨r, x⟩ := Dw.put (o := .lst []) hR hn
  have hd : Hd b H1 Dl = none := by rw [Hd_no hn]; exact hD
  exact ⟨r, ⟨by rw [x]; exact Ex.new hd, ex_dom (Ex.new hD), Ex.refl _, by rw [x]; exact e.trans (Ex.new hd), fun _ _ => rfl⟩, fresh_back e hd, by rw [x]; exact upd_same⟩
/-- a list by draws, over a range -/
theorem ed_lcR (Dw : Drw R b) {ta : TA} {tel : TE} {vs : List Nat} {j size : Nat} (Gd : V → Hp → Prop) (m : ∀ v G1 G2, Ex G1 G2 → Gd v G1 → Gd v G2) (h : EvAD R b ta σ G (fun vs _ => vs = [.int (size : Int)])) (hz : size ≤ 50000) (hw : ∀ x, wipe ((wipe σ vs).set j (some x)) vs = wipe σ vs)
    (hel : ∀ (i : Nat) G1, i < size → Ex G G1 → EvD R b tel ((wipe σ vs).set j (some (.int (i : Int)))) G1 Gd) :
    EvD R b (tLc (iRng1 ta) (gName j) tYes tel vs) σ G (fun v G' => ∃ p xs, v = .ref p ∧ G' p = some (.lst xs) ∧ xs.length = size ∧ ∀ x ∈ xs, Gd x G') := fun H hR e Q q =>
  h H hR e _ fun ws H1 G1 r1 x1 hv => by
    refine ⟨(size : Int), hv, by omega, by omega, fun Dl hD => ?_⟩
    have hsz : ((size : Int)).toNat = size := by omega
    rw [hsz]
    refine lc_range (lo := 0) (n := size) (fun i H' => ∃ xs G', xs.length = i ∧ (∀ x ∈ xs, Gd x G') ∧ R H' ∧ Stp b H1 H' G1 G' ∧ G' Dl = none ∧ Hd b H' Dl = some (.lst xs))
      ⟨[], G1, rfl, fun x hx => (by cases hx), lc_begin Dw r1 x1.sub hD⟩ (fun i H' hi hp => ?_) (fun H' hp => ?_)
    · obtain ⟨xs, G', h1, h2, h3, h4, h5, h6⟩ := hp
      have ei : (0 : Int) + (i : Int) = (i : Int) := Int.zero_add _
      rw [ei]
      refine ⟨hw _, ?_⟩
      show tel ((wipe σ vs).set j (some (.int (i : Int)))) H' _
      exact lc_step (Pn := fun H' => ∃ xs G', xs.length = i + 1 ∧ (∀ x ∈ xs, Gd x G') ∧ R H' ∧ Stp b H1 H' G1 G' ∧ G' Dl = none ∧ Hd b H' Dl = some (.lst xs)) Dw (by omega) hD h3 h4 h5 h6 (hel i G' hi (x1.kn.trans h4.kn)) fun v H4 G4 r4 s4 e4 d4 l4 g4 => ⟨xs ++ [v], G4, by rw [List.length_append, h1]; rfl, fun x hx => (List.mem_append.mp hx).elim (fun z => m x _ _ e4 (h2 x z)) (fun z => by rw [List.mem_singleton.mp z]; exact g4), r4, s4, d4, l4⟩
    · obtain ⟨xs, G', h1, h2, h3, h4, h5, h6⟩ := hp
      exact q _ H' _ h3 (x1.trans (lc_end Dw hD h4 h5 h6)) ⟨Dl, xs, rfl, upd_same, h1, fun x hx => m x _ _ (Ex.new h5) (h2 x hx)⟩
/-- a list by draws, over a list -/
theorem ed_lcL (Dw : Drw R b) {a : Addr} {xs : List V} {tel : TE} {vs : List Nat} {j : Nat} (Gd : Nat → V → Hp → Prop) (m : ∀ i v G1 G2, Ex G1 G2 → Gd i v G1 → Gd i v G2) (h : Ev ta σ G (.ref a)) (hx : SqL K G a xs) (hz : xs.length ≤ 40000) (hw : ∀ x, wipe ((wipe σ vs).set j (some x)) vs = wipe σ vs)
    (hel : ∀ (i : Nat) x G1, xs[i]? = some x → Ex G G1 → EvD R b tel ((wipe σ vs).set j (some x)) G1 (Gd i)) :
    EvD R b (tLc (iList K ta) (gName j) tYes tel vs) σ G (fun v G' => ∃ p ys, v = .ref p ∧ G' p = some (.lst ys) ∧ ys.length = xs.length ∧ ∀ i y, ys[i]? = some y → Gd i y G') := fun H hR e Q q =>
  h H (e.trans (Hd_sub b H)) _ fun H1 e1 => ⟨a, rfl, ⟨xs, ex_l ((e.trans (Hd_sub b H)).trans e1) hx⟩, fun Dl hD => by
    obtain ⟨r1, x1⟩ := Dw.stp hR e e1
    refine lc_list (xs := xs) (fun i H' => ∃ ys G', ys.length = i ∧ (∀ k y, ys[k]? = some y → Gd k y G') ∧ R H' ∧ Stp b H1 H' G G' ∧ G' Dl = none ∧ Hd b H' Dl = some (.lst ys))
      ⟨[], G, rfl, fun k y hk => (by cases hk), lc_begin Dw r1 x1.sub hD⟩ (fun i H' _ hp => ?_) (fun i x H' hi hp => ?_) (fun H' hp => ?_)
    · obtain ⟨ys, G', h1, h2, h3, h4, h5, h6⟩ := hp
      exact ex_l (h4.kn.trans (h4.sub.trans (Hd_sub b H'))) hx
    · obtain ⟨ys, G', h1, h2, h3, h4, h5, h6⟩ := hp
      have hil := (List.getElem?_eq_some_iff.mp hi).1
      refine ⟨hw _, ?_⟩
      show tel ((wipe σ vs).set j (some x)) H' _
      refine lc_step (Pn := fun H' => ∃ ys G', ys.length = i + 1 ∧ (∀ k y, ys[k]? = some y → Gd k y G') ∧ R H' ∧ Stp b H1 H' G G' ∧ G' Dl = none ∧ Hd b H' Dl = some (.lst ys)) Dw (by omega) hD h3 h4 h5 h6 (hel i x G' hi h4.kn) fun v H4 G4 r4 s4 e4 d4 l4 g4 => ⟨ys ++ [v], G4, by rw [List.length_append, h1]; rfl, fun k y hk => ?_, r4, s4, d4, l4⟩
      rcases Nat.lt_or_ge k ys.length with c | c
      · rw [List.getElem?_append_left c] at hk
        exact m k y _ _ e4 (h2 k y hk)
      · rw [List.getElem?_append_right c] at hk
        have hk0 : k - ys.length = 0 := by
          cases c2 : k - ys.length with
          | zero => rfl
          | succ n => rw [c2] at hk; cases hk
        rw [hk0] at hk
        cases hk
        have : k = i := by omega
        rw [this]
        exact g4
    · obtain ⟨ys, G', h1, h2, h3, h4, h5, h6⟩ := hp
      exact q _ H' _ h3 (x1.trans (lc_end Dw hD h4 h5 h6)) ⟨Dl, ys, rfl, upd_same, h1, fun k y hk => m k y _ _ (Ex.new h5) (h2 k y hk)⟩⟩
/-- x op y -/
theorem ed_op {r : R2} (ha : EvD R b ta σ G P1) (m : ∀ v G1 G2, Ex G1 G2 → P1 v G1 → P1 v G2) (hb : ∀ G1, Ex G G1 → EvD R b tb σ G1 P2)
    (hr : ∀ x y H G1, R H → Ex G G1 → Ex G1 (Hd b H) → P1 x G1 → P2 y G1 → ∀ Q : VK, RetD R b G1 P H Q → r x y H Q) : EvD R b (tOp r ta tb) σ G P := fun H hR e Q q =>
  ha H hR e _ fun x H1 G1 r1 x1 p1 => hb _ x1.kn H1 r1 x1.sub _ fun y H2 G2 r2 x2 p2 => hr x y H2 G2 r2 (x1.trans x2).kn x2.sub (m x _ _ x2.kn p1) p2 _ fun v H3 G3 r3 x3 p3 => q v H3 G3 r3 ((x1.trans x2).trans x3) p3
/-- a op b of ints -/
theorem ed_I {C : Int → Int → Prop} {g : Int → Int → V} {A B : Int → Prop} (ha : EvD R b ta σ G (fun v _ => ∃ i, v = .int i ∧ A i)) (hb : ∀ G1, Ex G G1 → EvD R b tb σ G1 (fun v _ => ∃ j, v = .int j ∧ B j)) (hc : ∀ i j, A i → B j → C i j) (hp : ∀ i j G1, A i → B j → P (g i j) G1) :
    EvD R b (tOp (rI C g) ta tb) σ G P := ed_op ha (fun _ _ _ _ h => h) hb fun x y H G1 hR e e1 ⟨i, ei, ai⟩ ⟨j, ej, bj⟩ Q q => ⟨i, j, ei, ej, hc i j ai bj, q _ H G1 hR (Stp.refl e1) (hp i j _ ai bj)⟩
theorem ed_I0 {g : Int → Int → V} {A B : Int → Prop} (ha : EvD R b ta σ G (fun v _ => ∃ i, v = .int i ∧ A i)) (hb : ∀ G1, Ex G G1 → EvD R b tb σ G1 (fun v _ => ∃ j, v = .int j ∧ B j)) (hp : ∀ i j G1, A i → B j → P (g i j) G1) :
    EvD R b (tOp (rI0 g) ta tb) σ G P := ed_op ha (fun _ _ _ _ h => h) hb fun x y H G1 hR e e1 ⟨i, ei, ai⟩ ⟨j, ej, bj⟩ Q q => ⟨i, j, ei, ej, q _ H G1 hR (Stp.refl e1) (hp i j _ ai bj)⟩
theorem ed_int (Dw : Drw R b) {i : Int} (h : Ev te σ G (.int i)) : EvD R b te σ G (fun v _ => ∃ j, v = .int j ∧ j = i) := ed_imp (ed_ev Dw h) fun v _ _ e => ⟨i, e, rfl⟩
/-- xs[i] -/
theorem ed_ixL {xs : List V} (Dw : Drw R b) (ha : EvL ta σ G xs) (hb : ∀ G1, Ex G G1 → EvD R b tb σ G1 (fun v _ => ∃ i : Int, v = .int i ∧ 0 ≤ i ∧ i < xs.length)) : EvD R b (tOp (rIxL K) ta tb) σ G (fun v _ => v ∈ xs) :=
  ed_op (ed_el Dw ha) (fun v G1 G2 e ⟨p, h1, h2⟩ => ⟨p, h1, e _ _ h2⟩) hb fun x y H G1 hR e e1 ⟨p, h1, h2⟩ ⟨i, h3, h4, h5⟩ Q q => by
    subst h1 h3
    obtain ⟨z, hz⟩ : ∃ z, xs[i.toNat]? = some z := ⟨_, List.getElem?_eq_getElem (by omega)⟩
    exact ⟨p, xs, i, z, rfl, rfl, SqL.of (Hd_sub b H _ _ (e1 _ _ h2)), at_of (j := i.toNat) (by omega) hz, q z H G1 hR (Stp.refl e1) (List.mem_of_getElem? hz)⟩
/-- a sign of a text -/
theorem ed_ixC {a : List Nat} (Dw : Drw R b) (ha : Ev ta σ G (T a)) (hl : a.length ≤ 16777216) (hb : ∀ G1, Ex G G1 → EvD R b tb σ G1 (fun v _ => ∃ i : Int, v = .int i ∧ 0 ≤ i ∧ i < a.length)) : EvD R b (tOp rIxC ta tb) σ G (fun v _ => ∃ c, v = T [c] ∧ c ∈ a) :=
  ed_op (ed_ev Dw ha) (fun v G1 G2 e h => h) hb fun x y H G1 hR e e1 h1 ⟨i, h3, h4, h5⟩ Q q => by
    subst h1 h3
    exact ⟨a, i, rfl, rfl, hl, h4, h5, q _ H G1 hR (Stp.refl e1) ⟨_, rfl, getD_mem (by omega)⟩⟩
/-- (a, b, ..) -/
theorem ed_tup (Dw : Drw R b) {tr : TA} {P2 : List V → Hp → Prop} (m : ∀ vs G1 G2, Ex G1 G2 → P2 vs G1 → P2 vs G2) (hl : ∀ vs G1, P2 vs G1 → vs.length ≤ 100) (h : EvAD R b tr σ G P2) : EvD R b (tTup tr) σ G (fun v G' => ∃ p xs, v = .ref p ∧ G' p = some (.tup xs) ∧ P2 xs G') := fun H hR e Q q =>
  h H hR e _ fun vs H1 G1 r1 x1 p1 => ⟨by rw [big]; have := hl vs _ p1; omega, fun p hp => by
    obtain ⟨p2, p3⟩ := Dw.stpNew (o := .tup vs) r1 x1.sub hp
    exact q _ _ _ p2 (x1.trans p3) ⟨p, vs, rfl, upd_same, m vs _ _ p3.kn p1⟩⟩
/-- [a, b, ..] -/
theorem ed_lst (Dw : Drw R b) {tr : TA} {P2 : List V → Hp → Prop} (m : ∀ vs G1 G2, Ex G1 G2 → P2 vs G1 → P2 vs G2) (hl : ∀ vs G1, P2 vs G1 → vs.length ≤ 100) (h : EvAD R b tr σ G P2) : EvD R b (tLst tr) σ G (fun v G' => ∃ p xs, v = .ref p ∧ G' p = some (.lst xs) ∧ P2 xs G') := fun H hR e Q q =>
  h H hR e _ fun vs H1 G1 r1 x1 p1 => ⟨by rw [big]; have := hl vs _ p1; omega, fun p hp => by
    obtain ⟨p2, p3⟩ := Dw.stpNew (o := .lst vs) r1 x1.sub hp
    exact q _ _ _ p2 (x1.trans p3) ⟨p, vs, rfl, upd_same, m vs _ _ p3.kn p1⟩⟩
theorem ed_call {sp : Sp} {dvs : List V} {E : XK} {ta : TA} {P2 : List V → Hp → Prop} (h : EvAD R b ta σ G P2) (hs : ∀ vs H1 G1, R H1 → Ex G1 (Hd b H1) → Ex G G1 → P2 vs G1 → ∀ Q : VK, RetD R b G1 P H1 Q → ∀ E : XK, sp (vs ++ dvs) H1 Q E) : EvD R b (tCall sp dvs E ta) σ G P := fun H hR e Q q =>
  h H hR e _ fun vs H1 G1 r1 x1 p1 => hs vs H1 G1 r1 x1.sub x1.kn p1 Q (fun v H2 G2 r2 x2 p2 => q v H2 G2 r2 (x1.trans x2) p2) E
/-- a call of known values -/
theorem ed_callV (Dw : Drw R b) {sp : Sp} {dvs vs : List V} {E : XK} {ta : TA} (h : EvA ta σ G vs) (hs : ∀ H1, R H1 → Ex G (Hd b H1) → ∀ Q : VK, RetD R b G P H1 Q → ∀ E : XK, sp (vs ++ dvs) H1 Q E) : EvD R b (tCall sp dvs E ta) σ G P := fun H hR e Q q =>
  h H (e.trans (Hd_sub b H)) _ fun H1 e1 => hs H1 (Dw.ex hR e1).1 (e.trans (Dw.ex hR e1).2) Q (fun v H2 G2 r2 x2 p2 => q v H2 G2 r2 ((Dw.stp hR e e1).2.trans x2) p2) E
theorem signs_of {xs : List V} {A : Nat → Prop} (h : ∀ x ∈ xs, ∃ c, x = T [c] ∧ A c) : ∃ l : List Nat, xs = (l.map fun c => [c]).map T ∧ l.length = xs.length ∧ ∀ c ∈ l, A c := by
  induction xs with
  | nil => exact ⟨[], rfl, rfl, fun y hy => by cases hy⟩
  | cons x r ih =>
    obtain ⟨c, rfl, hc⟩ := h x List.mem_cons_self
    obtain ⟨l, rfl, hl, hA⟩ := ih fun y hy => h y (List.mem_cons_of_mem _ hy)
    exact ⟨c :: l, rfl, by rw [List.length_cons, List.length_cons, hl], fun y hy => (List.mem_cons.mp hy).elim (fun e => by rw [e]; exact hc) (hA y)⟩
theorem flat_signs (l : List Nat) : (l.map fun c => [c]).flatten = l := by
  induction l with
  | nil => rfl
  | cons c r ih => rw [List.map_cons, List.flatten_cons, ih]; rfl
/-- ''.join of signs -/
theorem ed_join {x0 : Str} {size : Nat} {A : Nat → Prop} (hx : x0 = S []) (hz : size ≤ 100000) (h : EvD R b te σ G (fun v G' => ∃ p xs, v = .ref p ∧ G' p = some (.lst xs) ∧ xs.length = size ∧ ∀ x ∈ xs, ∃ c, x = T [c] ∧ A c)) :
    EvD R b (tM1 (rJoin K) (tC (.str x0)) te) σ G (fun v _ => ∃ l, v = T l ∧ l.length = size ∧ ∀ c ∈ l, A c) := fun H hR e Q q => by
  subst hx
  exact ⟨⟨_, rfl⟩, h H hR e _ fun v H1 G1 r1 x1 hp => by
    obtain ⟨p, xs, rfl, hp, hl, hA⟩ := hp
    obtain ⟨l, rfl, hl2, hA2⟩ := signs_of hA
    have hz2 : l.length = size := by rw [← hl, hl2]
    exact ⟨S [], p, (l.map fun c => [c]).map S, rfl, rfl, .inl (SqL.of (by rw [Hd_sub b H1 _ _ (x1.sub _ _ hp), List.map_map (g := V.str)]; rfl)), by rw [sum_lens, S_len, List.length_nil, Nat.mul_zero, flat_signs]; omega, by rw [RE.join_nil, flat_signs]; exact q _ H1 G1 r1 x1 ⟨l, rfl, hz2, hA2⟩⟩⟩
end
end RM

/-! sum(tuple of ints); draws: tests, words. -/
namespace RSU
open PySem PySem.Spec PyProof.Rows L2 Evl TL RC RD RG RM RX
section
variable {X : Cx}
def rSumT (K : PySem.W.Frag) : List V → Hp → VK → Prop := fun vs H Q => ∃ (a : Addr) (ns : List Int), vs = [V.ref a] ∧ SqT K H a (ns.map V.int) ∧ Q (.int ns.sum) H
theorem cr_sumT (hc : X.calm = true) : CallR X (.builtin "sum") (rSumT X.K) := by
  intro pins s σ H vs us Q I r h
  obtain ⟨a, ns, rfl, hs, q⟩ := h
  obtain ⟨its, rv, hl, _⟩ := I.tuple hs
  rw [Vals.ref1 r]
  have hi : IntsAre its ns := rv.ints
  obtain ⟨xs, hx⟩ := hi.allInts.items
  have hn : numsOf (intItems xs).toList = ns := by
    rw [← hx]
    exact hi.numsOf
  rw [nums_intItems] at hn
  rw [hx] at hl
  refine PySem.W.ktm_sumG (I.ok.hd hc) hl fun h' tk t' hk => ?_
  rw [preSum_eq, List.take_of_length_le (by simp), hn]
  exact ⟨.int _, H, I.kept hk, ⟨_, rfl⟩, q⟩
end
section
variable {K : PySem.W.Frag} {R : Hp → Prop} {b : Addr} {σ : L2.St} {H0 G0 G : Hp} {te ta tb : TE} {t : TT} {tz tu tw : TS} {D : Ends}
/-- a test of a list's draws: one of two words -/
theorem inV_wd (x : List Nat) (ys : List (List Nat)) : inV (T x) (ys.map T) = ys.any fun y => decide (y = x) := by
  unfold inV
  rw [List.any_map]
  congr 1
  funext y
  exact RI.eqV_T y x
theorem ev_inL {x : List Nat} {ys : List (List Nat)} {H : Hp} (ha : Ev ta σ H (T x)) (hb : EvL tb σ H (ys.map T)) : Ev (tOp (rIn K false) ta tb) σ H (.bl (ys.any fun y => decide (y = x))) :=
  ev_opL ha hb fun p H1 hp e => by
    have h := rv_isL (K := K) (H := H1) (p := p) (xs := ys.map T) (x := T x) (SqL.of hp) rfl (List.all_eq_true.mpr fun z hz => by
      obtain ⟨y, _, rfl⟩ := List.mem_map.mp hz
      rfl)
    rw [inV_wd] at h
    exact h
end
end RSU

/-! Least rounds; places of marks. -/
namespace RPL
open PySem PySem.Spec PyProof.Rows L2 Evl TL RC RD RP
open Builtin Builtin.Str
/-! ### where a text stands in another one -/
def AtL (l m : List Nat) (i : Nat) : Prop := i + m.length ≤ l.length ∧ (l.drop i).take m.length = m
theorem at_iff (l m : List Nat) (i : Nat) : StrLaws.At (S l) (S m) (S l).length i ↔ AtL l m i := by
  unfold StrLaws.At AtL
  rw [StrLaws.subAt_eq, S_cps, S_cps, S_len, S_len]
  simp
theorem find_S (l m : List Nat) : (Txt.find (S l) (S m) = -1 ∧ ∀ i, ¬ AtL l m i) ∨ ∃ i : Nat, Txt.find (S l) (S m) = i ∧ AtL l m i ∧ ∀ k, k < i → ¬ AtL l m k := by
  unfold Txt.find
  rcases StrLaws.occ_head (S l) (S m) 1 (Nat.le_refl _) with ⟨h0, hn⟩ | ⟨i, r, h0, ha, hn⟩
  · rw [h0]
    exact .inl ⟨rfl, fun i hi => hn i ((at_iff l m i).mpr hi)⟩
  · rw [h0]
    exact .inr ⟨i, rfl, (at_iff l m i).mp ha, fun k hk h => hn k hk ((at_iff l m k).mpr h)⟩
theorem find_at {l m : List Nat} {i : Nat} (h : AtL l m i) (hn : ∀ k, k < i → ¬ AtL l m k) : Txt.find (S l) (S m) = i := by
  rcases find_S l m with ⟨_, h1⟩ | ⟨j, h0, h1, h2⟩
  · exact absurd h (h1 i)
  · have : i = j := by
      rcases Nat.lt_trichotomy i j with c | c | c
      · exact absurd h (h2 i c)
      · exact c
      · exact absurd h1 (hn j c)
    rw [h0, this]
theorem ev_find {σ : L2.St} {H : Hp} {ta tb : TE} {l m : List Nat} {i : Nat} (ha : Ev ta σ H (T l)) (hb : Ev tb σ H (T m)) (h : AtL l m i) (hn : ∀ k, k < i → ¬ AtL l m k) :
    Ev (tM1 (fun x xs H Q => ∃ a b, x = .str a ∧ xs = [.str b] ∧ Q (.int (Txt.find a b)) H) ta tb) σ H (.int (i : Int)) := fun H1 e Q q =>
  ha H1 e _ fun H2 e2 => ⟨⟨S l, rfl⟩, hb H2 (e.trans e2) _ fun H3 e3 => ⟨_, _, rfl, rfl, by rw [find_at h hn]; exact q H3 (e2.trans e3)⟩⟩
/-! ### pieces of a strip -/
def seg (f : Nat → Nat) (a n : Nat) : List Nat := (List.range n).map fun i => f (a + i)
theorem seg_len (f : Nat → Nat) (a n : Nat) : (seg f a n).length = n := by simp [seg]
theorem seg_get {f : Nat → Nat} {a n i : Nat} (h : i < n) : (seg f a n)[i]? = some (f (a + i)) := by
  unfold seg
  rw [List.getElem?_map, List.getElem?_range h]
  rfl
theorem seg_add (f : Nat → Nat) (a n k : Nat) : seg f a n ++ seg f (a + n) k = seg f a (n + k) := by
  unfold seg
  rw [List.range_add, List.map_append, List.map_map]
  congr 1
  apply List.map_congr_left
  intro i _
  show f (a + n + i) = f (a + (n + i))
  rw [Nat.add_assoc]
theorem seg_drop (f : Nat → Nat) (a n k : Nat) : (seg f a (n + k)).drop n = seg f (a + n) k := by
  rw [← seg_add, List.drop_left' (seg_len f a n)]
theorem seg_take (f : Nat → Nat) (a n k : Nat) : (seg f a (n + k)).take n = seg f a n := by
  rw [← seg_add, List.take_left' (seg_len f a n)]
theorem seg_dropL {f : Nat → Nat} {a n m : Nat} (h : n ≤ m) : (seg f a m).drop n = seg f (a + n) (m - n) := by
  have := seg_drop f a n (m - n)
  rwa [show n + (m - n) = m by omega] at this
theorem seg_takeL {f : Nat → Nat} {a n m : Nat} (h : n ≤ m) : (seg f a m).take n = seg f a n := by
  have := seg_take f a n (m - n)
  rwa [show n + (m - n) = m by omega] at this
theorem seg_eq {f g : Nat → Nat} {a c n : Nat} : seg f a n = seg g c n ↔ ∀ j, j < n → f (a + j) = g (c + j) := by
  refine ⟨fun h j hj => ?_, fun h => ?_⟩
  · have := congrArg (fun l => l[j]?) h
    simp only [seg_get hj] at this
    exact Option.some.inj this
  · unfold seg
    exact List.map_congr_left fun i hi => h i (List.mem_range.mp hi)
/-! ### least rounds -/
theorem Per.ex {f : Nat → Nat} {b l d : Nat} (h : Per f b l) (hd : 0 < d) (g : ∀ j, j < l → f (b + j + d) = f (b + j)) : Per f b d := ⟨hd, fun i hi => by
  have hl := h.1
  obtain ⟨k, hk⟩ : ∃ k, k = (i - b) / l := ⟨_, rfl⟩
  have h1 := Nat.div_add_mod (i - b) l
  have h2 := Nat.mod_lt (i - b) hl
  rw [← hk, Nat.mul_comm] at h1
  have e1 : i = b + (i - b) % l + k * l := by omega
  have h3 := h.mul k (b + (i - b) % l) (Nat.le_add_right _ _)
  have h4 := h.mul k (b + (i - b) % l + d) (by omega)
  have h5 := g _ h2
  rw [show b + (i - b) % l + d + k * l = b + (i - b) % l + k * l + d by omega, ← e1] at h4
  rw [← e1] at h3
  rw [h4, h3, h5]⟩
theorem per_shift {f : Nat → Nat} {b l c d : Nat} (h : Per f b l) (g : Per f c d) : Per f b d := ⟨g.1, fun i hi => by
  have h1 := h.mul c i hi
  have h2 := h.mul c (i + d) (by omega)
  have hc : c ≤ c * l := Nat.le_mul_of_pos_right _ h.1
  have h3 := g.2 (i + c * l) (by omega)
  rw [← h2, show i + d + c * l = i + c * l + d by omega, h3, h1]⟩
structure Rnd (f : Nat → Nat) (c d : Nat) : Prop where
  per : Per f c d
  least : ∀ b l, Per f b l → d ≤ l
  back : c = 0 ∨ f (c - 1) ≠ f (c - 1 + d)
theorem Rnd.le {f : Nat → Nat} {b l c d : Nat} (r : Rnd f c d) (h : Per f b l) : c ≤ b ∧ d ≤ l := by
  refine ⟨?_, r.least b l h⟩
  have h1 := per_shift h r.per
  rcases r.back with z | z
  · omega
  · by_cases c1 : c ≤ b
    · exact c1
    · exact absurd (h1.2 (c - 1) (by omega)).symm z
theorem least_of {A : Nat → Prop} : ∀ n, A n → ∃ m, A m ∧ ∀ k, k < m → ¬ A k := by
  intro n
  induction n using Nat.strongRecOn with
  | ind n ih =>
    intro h
    by_cases c : ∃ k, k < n ∧ A k
    · obtain ⟨k, h1, h2⟩ := c
      exact ih k h1 h2
    · exact ⟨n, h, fun k hk hA => c ⟨k, hk, hA⟩⟩
theorem rnd_ex {f : Nat → Nat} {b l : Nat} (h : Per f b l) : ∃ c d, Rnd f c d := by
  obtain ⟨d, ⟨b1, h1⟩, h2⟩ := least_of (A := fun d => ∃ b, Per f b d) l ⟨b, h⟩
  obtain ⟨c, h3, h4⟩ := least_of (A := fun c => Per f c d) b1 h1
  refine ⟨c, d, h3, fun b l g => Nat.le_of_not_lt fun c => h2 l c ⟨b, g⟩, ?_⟩
  by_cases z : c = 0
  · exact .inl z
  · refine .inr fun e => h4 (c - 1) (by omega) ⟨h3.1, fun i hi => ?_⟩
    by_cases y : i = c - 1
    · rw [y]
      exact e.symm
    · exact h3.2 i (by omega)
theorem Rnd.uniq {f : Nat → Nat} {c d c' d' : Nat} (r : Rnd f c d) (s : Rnd f c' d') : c = c' ∧ d = d' := by
  have h1 := r.le s.per
  have h2 := s.le r.per
  omega
/-- where what comes round stands again -/
theorem at_around {f : Nat → Nat} {b l : Nat} (h : Per f b l) (i : Nat) : AtL ((seg f b l ++ seg f b l).drop 1) (seg f b l) i ↔ i < l ∧ Per f b (i + 1) := by
  have hl := h.1
  have e1 : seg f b l ++ seg f b l = seg f b (1 + (2 * l - 1)) := by
    rw [show 1 + (2 * l - 1) = l + l by omega, ← seg_add]
    congr 1
    exact seg_eq.mpr fun j hj => by rw [show b + l + j = b + j + l by omega, h.2 _ (by omega)]
  rw [e1, seg_drop]
  unfold AtL
  rw [seg_len, seg_len]
  constructor
  · rintro ⟨h1, h2⟩
    rw [seg_dropL (by omega), seg_takeL (by omega)] at h2
    refine ⟨by omega, Per.ex h (Nat.succ_pos _) fun j hj => ?_⟩
    rw [show b + j + (i + 1) = b + 1 + i + j by omega]
    exact seg_eq.mp h2 j hj
  · rintro ⟨h1, h2⟩
    refine ⟨by omega, ?_⟩
    rw [seg_dropL (by omega), seg_takeL (by omega)]
    exact seg_eq.mpr fun j hj => by rw [show b + 1 + i + j = b + j + (i + 1) by omega, h2.2 _ (by omega)]
/-! ### counts -/
def cw (A : Nat → Bool) (f : Nat → Nat) : Nat → Nat
  | 0 => 0
  | n + 1 => cw A f n + if A (f n) = true then 1 else 0
theorem cw_le (A : Nat → Bool) (f : Nat → Nat) : ∀ n, cw A f n ≤ n
  | 0 => Nat.le_refl _
  | n + 1 => by
    have := cw_le A f n
    show cw A f n + _ ≤ _
    split <;> omega
theorem cw_mono (A : Nat → Bool) (f : Nat → Nat) {a b : Nat} (h : a ≤ b) : cw A f a ≤ cw A f b := by
  induction h with
  | refl => exact Nat.le_refl _
  | step _ ih => exact Nat.le_trans ih (Nat.le_add_right _ _)
theorem cw_cnt (f : Nat → Nat) : ∀ n, cw (fun x => decide (x ≠ 46)) f n = cnt f n
  | 0 => rfl
  | n + 1 => by
    show cw _ f n + (if decide (f n ≠ 46) = true then 1 else 0) = cnt f n + (if f n = 46 then 0 else 1)
    rw [cw_cnt f n]
    by_cases c : f n = 46
    · simp [c]
    · simp [c]
theorem cw_congr {A : Nat → Bool} {f g : Nat → Nat} : ∀ {n : Nat}, (∀ i, i < n → f i = g i) → cw A f n = cw A g n
  | 0, _ => rfl
  | n + 1, h => by
    show cw A f n + _ = cw A g n + _
    rw [cw_congr (n := n) fun i hi => h i (by omega), h n (by omega)]
theorem cw_shift (A : Nat → Bool) (f : Nat → Nat) (a : Nat) : ∀ n, cw A f (a + n) = cw A f a + cw A (fun i => f (a + i)) n
  | 0 => rfl
  | n + 1 => by
    show cw A f (a + n) + _ = cw A f a + (cw A (fun i => f (a + i)) n + _)
    rw [cw_shift A f a n, Nat.add_assoc]
    rfl
theorem cw_rounds {A : Nat → Bool} {f : Nat → Nat} {b l : Nat} (h : Per f b l) : ∀ k r, cw A f (b + r + k * l) = cw A f (b + r) + k * (cw A f (b + l) - cw A f b) := fun k r => by
  have hm := cw_mono A f (Nat.le_add_right b l)
  have one : ∀ r, cw A f (b + r + l) = cw A f (b + r) + (cw A f (b + l) - cw A f b) := fun r => by
    have h1 := cw_shift A f b r
    have h2 := cw_shift A f (b + l) r
    rw [cw_congr (A := A) (f := fun i => f (b + l + i)) (g := fun i => f (b + i)) fun i _ => by
      show f (b + l + i) = f (b + i)
      rw [show b + l + i = b + i + l by omega, h.2 _ (by omega)]] at h2
    rw [show b + r + l = b + l + r by omega]
    omega
  induction k with
  | zero => rw [Nat.zero_mul, Nat.zero_mul]; rfl
  | succ k ih =>
    have := one (r + k * l)
    rw [Nat.succ_mul, Nat.succ_mul, show b + r + (k * l + l) = b + (r + k * l) + l by omega, this, show b + (r + k * l) = b + r + k * l by omega, ih, Nat.add_assoc]
/-- the places that have it, from a on, told from a on -/
def posn (A : Nat → Bool) (f : Nat → Nat) (a n : Nat) : List Nat := (List.range n).filter fun i => A (f (a + i))
theorem posn_succ (A : Nat → Bool) (f : Nat → Nat) (a n : Nat) : posn A f a (n + 1) = posn A f a n ++ if A (f (a + n)) = true then [n] else [] := by
  unfold posn
  rw [List.range_succ, List.filter_append]
  congr 1
  by_cases c : A (f (a + n)) = true
  · simp [c]
  · simp [c]
theorem posn_len (A : Nat → Bool) (f : Nat → Nat) (a : Nat) : ∀ n, cw A f a + (posn A f a n).length = cw A f (a + n)
  | 0 => rfl
  | n + 1 => by
    have ih := posn_len A f a n
    rw [posn_succ, List.length_append, ← Nat.add_assoc, ih]
    show _ = cw A f (a + n) + (if A (f (a + n)) = true then 1 else 0)
    by_cases c : A (f (a + n)) = true
    · rw [if_pos c, if_pos c]; rfl
    · rw [if_neg c, if_neg c]; rfl
theorem posn_get {A : Nat → Bool} {f : Nat → Nat} {a : Nat} : ∀ {n k m : Nat}, (posn A f a n)[k]? = some m → A (f (a + m)) = true ∧ cw A f (a + m) = cw A f a + k ∧ m < n
  | 0, k, m, h => by cases h
  | n + 1, k, m, h => by
    rw [posn_succ] at h
    by_cases c : k < (posn A f a n).length
    · rw [List.getElem?_append_left c] at h
      obtain ⟨h1, h2, h3⟩ := posn_get (n := n) h
      exact ⟨h1, h2, by omega⟩
    · rw [List.getElem?_append_right (by omega)] at h
      by_cases z : A (f (a + n)) = true
      · rw [if_pos z] at h
        have hk : k - (posn A f a n).length = 0 := by
          cases y : k - (posn A f a n).length with
          | zero => rfl
          | succ j => rw [y] at h; cases h
        rw [hk] at h
        cases h
        have := posn_len A f a n
        exact ⟨z, by omega, by omega⟩
      · rw [if_neg z] at h
        cases h
theorem given_filter : ∀ (n : Nat) (p : Nat → Bool) (v : Nat → V), given n p v = ((List.range n).filter p).map v
  | 0, _, _ => rfl
  | n + 1, p, v => by
    rw [List.range_succ, List.filter_append, List.map_append, ← given_filter n p v]
    cases c : p n with
    | true => rw [given_yes c]; simp [c]
    | false => rw [given_no c]; simp [c]
theorem posn_given (A : Nat → Bool) (f : Nat → Nat) (a n : Nat) : given (seg f a n).length (fun i => A ((seg f a n).getD i 0)) (fun i => V.int (i : Int)) = (posn A f a n).map fun (i : Nat) => V.int (i : Int) := by
  rw [given_filter, seg_len]
  unfold posn
  congr 1
  refine List.filter_congr fun i hi => ?_
  rw [List.getD, seg_get (List.mem_range.mp hi)]
  rfl
/-- how many ahead -/
theorem cw_far {A : Nat → Bool} {f : Nat → Nat} {c d n : Nat} (h : Per f c d) (hn : c ≤ n) : (posn A f 0 c).length + (n - c) / d * (posn A f c d).length + (posn A f c ((n - c) % d)).length = cw A f n := by
  have h0 := posn_len A f 0 c
  have h1 := posn_len A f c d
  have h2 := posn_len A f c ((n - c) % d)
  have h3 := cw_rounds (A := A) h ((n - c) / d) ((n - c) % d)
  have h4 := Nat.div_add_mod (n - c) d
  rw [Nat.mul_comm] at h4
  rw [show c + (n - c) % d + (n - c) / d * d = n by omega] at h3
  have e0 : cw A f 0 = 0 := rfl
  rw [e0, Nat.zero_add, Nat.zero_add] at h0
  rw [show cw A f (c + d) - cw A f c = (posn A f c d).length by omega] at h3
  omega
/-- the so-manieth place -/
def NthV (A : Nat → Bool) (f : Nat → Nat) (k : Nat) (z : V) : Prop := (∃ m : Nat, z = .int (m : Int) ∧ A (f m) = true ∧ cw A f m = k) ∨ (z = .non ∧ ∀ m, cw A f m ≤ k)
theorem nth_early {A : Nat → Bool} {f : Nat → Nat} {c k m : Nat} (h : (posn A f 0 c)[k]? = some m) : NthV A f k (.int (m : Int)) := by
  obtain ⟨h1, h2, _⟩ := posn_get h
  rw [Nat.zero_add] at h1 h2
  exact .inl ⟨m, rfl, h1, by rw [h2]; exact Nat.zero_add k⟩
theorem nth_none {A : Nat → Bool} {f : Nat → Nat} {c d k : Nat} (h : Per f c d) (hk : (posn A f 0 c).length ≤ k) (he : posn A f c d = []) : NthV A f k .non := by
  refine .inr ⟨rfl, fun m => ?_⟩
  have h0 := posn_len A f 0 c
  have e0 : cw A f 0 = 0 := rfl
  rw [e0, Nat.zero_add, Nat.zero_add] at h0
  by_cases z : m ≤ c
  · have := cw_mono A f z
    omega
  · have h1 := cw_far (A := A) h (Nat.le_of_lt (Nat.lt_of_not_le z))
    have h2 := posn_len A f c d
    have h3 := posn_len A f c ((m - c) % d)
    have h4 := cw_mono A f (show c + (m - c) % d ≤ c + d by have := Nat.mod_lt (m - c) h.1; omega)
    rw [he] at h1 h2
    rw [List.length_nil, Nat.mul_zero] at h1
    rw [List.length_nil] at h2
    omega
theorem nth_late {A : Nat → Bool} {f : Nat → Nat} {c d k m : Nat} (h : Per f c d) (hk : (posn A f 0 c).length ≤ k) (he : (posn A f c d)[(k - (posn A f 0 c).length) % (posn A f c d).length]? = some m) :
    NthV A f k (.int ((c + (k - (posn A f 0 c).length) / (posn A f c d).length * d + m : Nat) : Int)) := by
  obtain ⟨h1, h2, h3⟩ := posn_get he
  have h0 := posn_len A f 0 c
  have e0 : cw A f 0 = 0 := rfl
  rw [e0, Nat.zero_add, Nat.zero_add] at h0
  obtain ⟨q, hq⟩ : ∃ q, q = (k - (posn A f 0 c).length) / (posn A f c d).length := ⟨_, rfl⟩
  have h4 := Nat.div_add_mod (k - (posn A f 0 c).length) (posn A f c d).length
  have h5 := cw_rounds (A := A) h q m
  have h6 := posn_len A f c d
  have h7 := h.mul q (c + m) (by omega)
  rw [← hq] at h4 ⊢
  rw [Nat.mul_comm] at h4
  rw [show cw A f (c + d) - cw A f c = (posn A f c d).length by omega] at h5
  rw [show c + q * d + m = c + m + q * d by omega]
  refine .inl ⟨_, rfl, by rw [h7]; exact h1, ?_⟩
  rw [h5, h2]
  omega
theorem NthV.uniq {A : Nat → Bool} {f : Nat → Nat} {k : Nat} {y z : V} (hy : NthV A f k y) (hz : NthV A f k z) : y = z := by
  have no : ∀ {m n : Nat}, A (f m) = true → cw A f m = k → m < n → cw A f n = k → False := fun {m n} h1 h2 h3 h4 => by
    have h5 : cw A f (m + 1) = cw A f m + 1 := by
      show cw A f m + (if A (f m) = true then 1 else 0) = _
      rw [if_pos h1]
    have h6 := cw_mono A f (show m + 1 ≤ n from h3)
    omega
  rcases hy with ⟨m, rfl, h1, h2⟩ | ⟨rfl, h1⟩
  · rcases hz with ⟨n, rfl, g1, g2⟩ | ⟨rfl, g1⟩
    · rcases Nat.lt_trichotomy m n with c | c | c
      · exact (no h1 h2 c g2).elim
      · rw [c]
      · exact (no g1 g2 c h2).elim
    · have := g1 (m + 1)
      have h5 : cw A f (m + 1) = cw A f m + 1 := by
        show cw A f m + (if A (f m) = true then 1 else 0) = _
        rw [if_pos h1]
      omega
  · rcases hz with ⟨n, rfl, g1, g2⟩ | ⟨rfl, g1⟩
    · have := h1 (n + 1)
      have h5 : cw A f (n + 1) = cw A f n + 1 := by
        show cw A f n + (if A (f n) = true then 1 else 0) = _
        rw [if_pos g1]
      omega
    · rfl
/-! ### letters, or any mark -/
def ltV : Option Nat → V
  | none => .non
  | some c => T [c]
def ltA : Option Nat → Nat → Bool
  | none, x => decide (x ≠ 46)
  | some c, x => decide (x = c)
/-! ### xs == [] -/
def rEqNil : R2 := fun x y H Q => ∃ a b xs, x = .ref a ∧ y = .ref b ∧ H a = some (.lst xs) ∧ H b = some (.lst []) ∧ Q (.bl (decide (xs = []))) H
theorem op_eqNil {X : Cx} (hu : X.A.units < cLine) : OpR X (compareOp .Eq) rEqNil := by
  intro pins s σ H x y v u Q I rx ry h
  obtain ⟨a, b, xs, rfl, rfl, ha, hb, q⟩ := h
  cases rx
  cases ry
  obtain ⟨_, its, n, r, hl, e⟩ := I.lstM ha
  obtain ⟨_, its2, n2, r2, hl2, e2⟩ := I.lstM hb
  have hz2 : its2 = [] := List.eq_nil_of_length_eq_zero (by rw [← hl2]; rfl)
  subst hz2
  have L1 : s.heap.IsList a its.toArray := ⟨_, e, rfl, n, rfl⟩
  have L2' : s.heap.IsList b ([] : List Value).toArray := ⟨_, e2, rfl, n2, rfl⟩
  by_cases hx : xs = []
  · subst hx
    have hz : its = [] := List.eq_nil_of_length_eq_zero (by rw [← hl]; rfl)
    subst hz
    exact SeqAt.RcAt.lists (e := fun _ => true) L1 L2' rfl hu (fun j h1 _ => absurd h1 (Nat.not_lt_zero _)) X.prog X.w X.xe _ ⟨.bl true, H, I, rfl, q⟩
  · have hne : (its.toArray.size != ([] : List Value).toArray.size) = true := by
      have : its.length ≠ 0 := fun z => hx (List.eq_nil_of_length_eq_zero (by rw [hl]; exact z))
      simpa using this
    rw [decide_eq_false hx] at q
    exact SeqAt.RcAt.lists_lengths L1 L2' hne hu X.prog X.w X.xe _ ⟨.bl false, H, I, rfl, q⟩
end RPL

/-! Lists of ints, of None, compared. -/
namespace RPI
open PySem PySem.Spec PyProof.Rows L2 Evl TL RC RD RE
variable {K : PySem.W.Frag} {H : Hp}
theorem dpAll_ints : ∀ xs : List Int, DpAll K H (xs.map V.int) (xs.map PyData.int)
  | [] => .nil
  | x :: r => .cons (.int x) (dpAll_ints r)
theorem canLay_ints : ∀ xs : List Int, PyData.canLayAll0 (xs.map PyData.int) = true
  | [] => rfl
  | x :: r => by simp [PyData.canLayAll0, PyData.canLay0, canLay_ints r]
theorem depth_ints : ∀ xs : List Int, PyData.depthAll (xs.map PyData.int) ≤ 1
  | [] => by simp [PyData.depthAll]
  | x :: r => by
    have := depth_ints r
    simp [PyData.depthAll, PyData.depth]
    omega
theorem shaped_ints (xs : List Int) : SeqAt.shaped (.list (xs.map PyData.int)) = true := by
  unfold SeqAt.shaped
  rw [Bool.and_eq_true]
  refine ⟨by simp [PyData.canLay0, canLay_ints xs], decide_eq_true ?_⟩
  have := depth_ints xs
  simp [PyData.depth]
  omega
theorem eqv_ints : ∀ xs ys : List Int, PyData.eqvAll (xs.map PyData.int) (ys.map PyData.int) = decide (xs = ys)
  | [], [] => by simp [PyData.eqvAll]
  | [], _ :: _ => by simp [PyData.eqvAll]
  | _ :: _, [] => by simp [PyData.eqvAll]
  | x :: r, y :: t => by
    simp only [List.map_cons, PyData.eqvAll, PyData.eqv, eqv_ints r t, List.cons.injEq]
    by_cases e : x = y <;> simp [e]
theorem rv_eqDI {p q : Addr} {xs ys : List Int} (hp : SqL K H p (xs.map V.int)) (hq : SqL K H q (ys.map V.int)) : RV (rEqD K) (.ref p) (.ref q) H (.bl (decide (xs = ys))) := fun H1 e Q k =>
  ⟨_, _, .lst (ex_l e hp) (dpAll_ints xs), .lst (ex_l e hq) (dpAll_ints ys), shaped_ints xs, shaped_ints ys, by
    have e2 : PyData.eqv (.list (xs.map PyData.int)) (.list (ys.map PyData.int)) = decide (xs = ys) := by
      rw [PyData.eqv]
      exact eqv_ints xs ys
    rw [e2]
    exact k H1 (Ex.refl H1)⟩
theorem rv_neDI {p q : Addr} {xs ys : List Int} (hp : SqL K H p (xs.map V.int)) (hq : SqL K H q (ys.map V.int)) : RV (rNeD K) (.ref p) (.ref q) H (.bl (!decide (xs = ys))) := fun H1 e Q k =>
  ⟨_, _, .lst (ex_l e hp) (dpAll_ints xs), .lst (ex_l e hq) (dpAll_ints ys), shaped_ints xs, shaped_ints ys, by
    have e2 : PyData.eqv (.list (xs.map PyData.int)) (.list (ys.map PyData.int)) = decide (xs = ys) := by
      rw [PyData.eqv]
      exact eqv_ints xs ys
    rw [e2]
    exact k H1 (Ex.refl H1)⟩
theorem rv_neNN {p q : Addr} (hp : SqL K H p [.non, .non]) (hq : SqL K H q [.non, .non]) : RV (rNeD K) (.ref p) (.ref q) H (.bl false) := fun H1 e Q k =>
  ⟨.list [.none, .none], .list [.none, .none], .lst (ex_l e hp) (.cons .non (.cons .non .nil)), .lst (ex_l e hq) (.cons .non (.cons .non .nil)),
    by simp [SeqAt.shaped, PyData.canLay0, PyData.canLayAll0, PyData.depth, PyData.depthAll], by simp [SeqAt.shaped, PyData.canLay0, PyData.canLayAll0, PyData.depth, PyData.depthAll], by
    have e2 : PyData.eqv (.list [.none, .none]) (.list [.none, .none]) = true := by simp [PyData.eqv, PyData.eqvAll]
    rw [e2]
    exact k H1 (Ex.refl H1)⟩
/-- xs == [], xs != [] -/
theorem ev_eqNil {σ : L2.St} {ta : TE} {p : Addr} {xs : List Int} (ha : Ev ta σ H (.ref p)) (hp : SqL K H p (xs.map V.int)) : Ev (tOp (rEqD K) ta (tLst tNil)) σ H (.bl (decide (xs = []))) :=
  ev_opL ha el_nil fun q H1 hq e => rv_eqDI (ys := []) (ex_l e hp) (SqL.of hq)
theorem ev_neNil {σ : L2.St} {ta : TE} {p : Addr} {xs : List Int} (ha : Ev ta σ H (.ref p)) (hp : SqL K H p (xs.map V.int)) : Ev (tOp (rNeD K) ta (tLst tNil)) σ H (.bl (!decide (xs = []))) :=
  ev_opL ha el_nil fun q H1 hq e => rv_neDI (ys := []) (ex_l e hp) (SqL.of hq)
end RPI

/-! Things as trees: lists or tuples of numbers, texts, things. -/
namespace RLT
open PySem PySem.Spec PyProof.Rows L2 Evl RDI TL RC RD RP RR RU RV RX
mutual
inductive Tr : Type
  | at (v : V)
  | sq (ds : Trs)
inductive Trs : Type
  | nil
  | cons (d : Tr) (r : Trs)
end
def lenT : Trs → Nat
  | .nil => 0
  | .cons _ r => lenT r + 1
def nthT : Trs → Nat → Option Tr
  | .nil, _ => none
  | .cons d _, 0 => some d
  | .cons _ r, i + 1 => nthT r i
mutual
def TrV (H : Hp) : Tr → V → Prop
  | .at v, w => w = v ∧ ((∃ n : Int, v = .int n) ∨ ∃ l, v = T l)
  | .sq ds, w => ∃ xs, Sq H w xs ∧ TrL H ds xs
def TrL (H : Hp) : Trs → List V → Prop
  | .nil, xs => xs = []
  | .cons d r, xs => ∃ x ys, xs = x :: ys ∧ TrV H d x ∧ TrL H r ys
end
mutual
theorem TrV.ex {H H' : Hp} (e : Ex H H') : ∀ {d : Tr} {v : V}, TrV H d v → TrV H' d v
  | .at _, _, h => h
  | .sq _, _, ⟨xs, h1, h2⟩ => ⟨xs, h1.ex e, TrL.ex e h2⟩
theorem TrL.ex {H H' : Hp} (e : Ex H H') : ∀ {d : Trs} {v : List V}, TrL H d v → TrL H' d v
  | .nil, _, h => h
  | .cons _ _, _, ⟨x, ys, h1, h2, h3⟩ => ⟨x, ys, h1, TrV.ex e h2, TrL.ex e h3⟩
end
mutual
def dpT : Tr → Nat
  | .at _ => 1
  | .sq ds => dpL ds + 1
def dpL : Trs → Nat
  | .nil => 0
  | .cons d r => max (dpT d) (dpL r)
end
mutual
def okT : Tr → Prop
  | .at _ => True
  | .sq ds => lenT ds ≤ 1000 ∧ okL ds
def okL : Trs → Prop
  | .nil => True
  | .cons d r => okT d ∧ okL r
end
theorem trl_len {H : Hp} : ∀ {ds : Trs} {xs : List V}, TrL H ds xs → xs.length = lenT ds
  | .nil, _, h => by rw [show _ = [] from h]; rfl
  | .cons d r, _, ⟨x, ys, h1, h2, h3⟩ => by rw [h1, List.length_cons, trl_len h3]; rfl
theorem trl_at {H : Hp} : ∀ {ds : Trs} {xs : List V} {i : Nat} {x : V}, TrL H ds xs → xs[i]? = some x → ∃ d, nthT ds i = some d ∧ TrV H d x
  | .nil, xs, i, x, h, hx => by
    rw [show xs = [] from h] at hx
    cases hx
  | .cons d r, _, 0, x, ⟨y, ys, h1, h2, h3⟩, hx => by
    subst h1
    cases hx
    exact ⟨d, rfl, h2⟩
  | .cons d r, _, i + 1, x, ⟨y, ys, h1, h2, h3⟩, hx => by
    subst h1
    exact trl_at (ds := r) h3 hx
theorem trl_of {H : Hp} : ∀ {ds : Trs} {xs : List V}, xs.length = lenT ds → (∀ (i : Nat) d x, nthT ds i = some d → xs[i]? = some x → TrV H d x) → TrL H ds xs
  | .nil, [], _, _ => rfl
  | .nil, x :: xs, h, _ => by cases h
  | .cons d r, [], h, _ => by cases h
  | .cons d r, x :: xs, h, hf => ⟨x, xs, rfl, hf 0 d x rfl rfl, trl_of (ds := r) (Nat.succ.inj h) fun i d' x' h1 h2 => hf (i + 1) d' x' h1 h2⟩
theorem nth_dp : ∀ {ds : Trs} {i : Nat} {d : Tr}, nthT ds i = some d → dpT d ≤ dpL ds
  | .cons d r, 0, _, h => by cases h; exact Nat.le_max_left _ _
  | .cons d r, i + 1, _, h => Nat.le_trans (nth_dp (ds := r) h) (Nat.le_max_right _ _)
theorem nth_ok : ∀ {ds : Trs} {i : Nat} {d : Tr}, nthT ds i = some d → okL ds → okT d
  | .cons d r, 0, _, h, ho => by cases h; exact ho.1
  | .cons d r, i + 1, _, h, ho => nth_ok (ds := r) h ho.2
/-! ### presses as trees -/
def dyesT : List (Nat × Nat) → Trs
  | [] => .nil
  | d :: r => .cons (.sq (.cons (.at (T [d.1])) (.cons (.at (T [d.2])) .nil))) (dyesT r)
mutual
def tree : Pr → Tr
  | .wheel rim => .sq (.cons (.at (T (wd 0))) (.cons (.at (T rim)) .nil))
  | .turned p n => .sq (.cons (.at (T (wd 1))) (.cons (tree p) (.cons (.at (.int (n : Int))) .nil)))
  | .over a b => .sq (.cons (.at (T (wd 2))) (.cons (tree a) (.cons (tree b) .nil)))
  | .cut a b => .sq (.cons (.at (T (wd 3))) (.cons (tree a) (.cons (tree b) .nil)))
  | .held a b => .sq (.cons (.at (T (wd 4))) (.cons (tree a) (.cons (tree b) .nil)))
  | .taking ps => .sq (.cons (.at (T (wd 5))) (.cons (.sq (trees ps)) .nil))
  | .thn a n b => .sq (.cons (.at (T (wd 6))) (.cons (tree a) (.cons (.at (.int (n : Int))) (.cons (tree b) .nil))))
  | .dyed p ds => .sq (.cons (.at (T (wd 7))) (.cons (tree p) (.cons (.sq (dyesT ds)) .nil)))
def trees : Ps → Trs
  | .nil => .nil
  | .cons p n r => .cons (.sq (.cons (tree p) (.cons (.at (.int (n : Int))) .nil))) (trees r)
end
theorem at_T {H : Hp} {l : List Nat} : TrV H (.at (T l)) (T l) := ⟨rfl, .inr ⟨l, rfl⟩⟩
theorem at_I {H : Hp} {n : Nat} : TrV H (.at (.int (n : Int))) (.int (n : Int)) := ⟨rfl, .inl ⟨_, rfl⟩⟩
theorem dyes_tr {H : Hp} : ∀ {ds : List (Nat × Nat)} {qs : List V}, qs.length = ds.length → (∀ (i : Nat) (q : V), qs[i]? = some q → ∃ (c e : Nat), ds[i]? = some (c, e) ∧ Sq H q [T [c], T [e]]) → TrL H (dyesT ds) qs
  | [], [], _, _ => rfl
  | [], q :: qs, h, _ => by cases h
  | d :: ds, [], h, _ => by cases h
  | d :: ds, q :: qs, h, hf => by
    obtain ⟨c, e, h1, h2⟩ := hf 0 q rfl
    cases h1
    exact ⟨q, qs, rfl, ⟨_, h2, _, _, rfl, at_T, _, _, rfl, at_T, rfl⟩, dyes_tr (Nat.succ.inj h) fun i q' hq => hf (i + 1) q' hq⟩
theorem tr_dyes {H : Hp} : ∀ {ds : List (Nat × Nat)} {qs : List V}, TrL H (dyesT ds) qs → qs.length = ds.length ∧ ∀ (i : Nat) (q : V), qs[i]? = some q → ∃ (c e : Nat), ds[i]? = some (c, e) ∧ Sq H q [T [c], T [e]]
  | [], qs, h => by
    rw [show qs = [] from h]
    exact ⟨rfl, fun i q hq => by cases hq⟩
  | d :: ds, _, ⟨q, qs, h1, ⟨xs, h2, x, ys, h3, h4, y, zs, h5, h6, h7⟩, h8⟩ => by
    subst h1 h3 h5 h7
    obtain ⟨g1, g2⟩ := tr_dyes h8
    refine ⟨by rw [List.length_cons, List.length_cons, g1], fun i q' hq => ?_⟩
    cases i with
    | zero =>
      cases hq
      refine ⟨d.1, d.2, rfl, ?_⟩
      rw [← h4.1, ← h6.1]
      exact h2
    | succ i => exact g2 i q' hq
mutual
theorem hand_tree {H : Hp} : ∀ {p : Pr} {v : V} {ws : List V}, Sq H v (T (wd (idx p)) :: ws) → HandR H p ws → TrV H (tree p) v
  | .wheel _, v, _, hs, h => ⟨_, hs, _, _, rfl, at_T, by rw [show _ = [T _] from h]; exact ⟨_, _, rfl, at_T, rfl⟩⟩
  | .turned p n, v, _, hs, ⟨x, ws, h1, h2, h3⟩ => ⟨_, hs, _, _, rfl, at_T, h1 ▸ ⟨_, _, rfl, hand_tree h2 h3, _, _, rfl, at_I, rfl⟩⟩
  | .over a b, v, _, hs, ⟨x, y, ws, zs, h1, h2, h3, h4, h5⟩ => ⟨_, hs, _, _, rfl, at_T, h1 ▸ ⟨_, _, rfl, hand_tree h2 h4, _, _, rfl, hand_tree h3 h5, rfl⟩⟩
  | .cut a b, v, _, hs, ⟨x, y, ws, zs, h1, h2, h3, h4, h5⟩ => ⟨_, hs, _, _, rfl, at_T, h1 ▸ ⟨_, _, rfl, hand_tree h2 h4, _, _, rfl, hand_tree h3 h5, rfl⟩⟩
  | .held a b, v, _, hs, ⟨x, y, ws, zs, h1, h2, h3, h4, h5⟩ => ⟨_, hs, _, _, rfl, at_T, h1 ▸ ⟨_, _, rfl, hand_tree h2 h4, _, _, rfl, hand_tree h3 h5, rfl⟩⟩
  | .taking ps, v, _, hs, ⟨x, ws, h1, h2, h3⟩ => ⟨_, hs, _, _, rfl, at_T, h1 ▸ ⟨_, _, rfl, ⟨ws, h2, hand_trees h3⟩, rfl⟩⟩
  | .thn a n b, v, _, hs, ⟨x, y, ws, zs, h1, h2, h3, h4, h5⟩ => ⟨_, hs, _, _, rfl, at_T, h1 ▸ ⟨_, _, rfl, hand_tree h2 h4, _, _, rfl, at_I, _, _, rfl, hand_tree h3 h5, rfl⟩⟩
  | .dyed p ds, v, _, hs, ⟨x, y, ws, qs, h1, h2, h3, h4, h5, h6⟩ => ⟨_, hs, _, _, rfl, at_T, h1 ▸ ⟨_, _, rfl, hand_tree h2 h6, _, _, rfl, ⟨qs, h3, dyes_tr h4 h5⟩, rfl⟩⟩
theorem hand_trees {H : Hp} : ∀ {ps : Ps} {xs : List V}, HandT H ps xs → TrL H (trees ps) xs
  | .nil, _, h => h
  | .cons p n r, _, ⟨q, x, ws, ys, h1, h2, h3, h4, h5⟩ => ⟨q, ys, h1, ⟨_, h2, _, _, rfl, hand_tree h3 h4, _, _, rfl, at_I, rfl⟩, hand_trees h5⟩
end
mutual
theorem tree_hand {H : Hp} : ∀ {p : Pr} {v : V}, TrV H (tree p) v → ∃ ws, Sq H v (T (wd (idx p)) :: ws) ∧ HandR H p ws
  | .wheel _, v, ⟨_, hs, x, ys, h1, h2, y, zs, h3, h4, h5⟩ => by
    subst h1 h3 h5
    exact ⟨_, h2.1 ▸ hs, by rw [h4.1]; rfl⟩
  | .turned p n, v, ⟨_, hs, x, ys, h1, h2, y, zs, h3, h4, z, us, h5, h6, h7⟩ => by
    subst h1 h3 h5 h7
    obtain ⟨ws, g1, g2⟩ := tree_hand h4
    exact ⟨_, h2.1 ▸ hs, y, ws, by rw [h6.1], g1, g2⟩
  | .over a b, v, ⟨_, hs, x, ys, h1, h2, y, zs, h3, h4, z, us, h5, h6, h7⟩ => by
    subst h1 h3 h5 h7
    obtain ⟨ws, g1, g2⟩ := tree_hand h4
    obtain ⟨us, g3, g4⟩ := tree_hand h6
    exact ⟨_, h2.1 ▸ hs, y, z, ws, us, rfl, g1, g3, g2, g4⟩
  | .cut a b, v, ⟨_, hs, x, ys, h1, h2, y, zs, h3, h4, z, us, h5, h6, h7⟩ => by
    subst h1 h3 h5 h7
    obtain ⟨ws, g1, g2⟩ := tree_hand h4
    obtain ⟨us, g3, g4⟩ := tree_hand h6
    exact ⟨_, h2.1 ▸ hs, y, z, ws, us, rfl, g1, g3, g2, g4⟩
  | .held a b, v, ⟨_, hs, x, ys, h1, h2, y, zs, h3, h4, z, us, h5, h6, h7⟩ => by
    subst h1 h3 h5 h7
    obtain ⟨ws, g1, g2⟩ := tree_hand h4
    obtain ⟨us, g3, g4⟩ := tree_hand h6
    exact ⟨_, h2.1 ▸ hs, y, z, ws, us, rfl, g1, g3, g2, g4⟩
  | .taking ps, v, ⟨_, hs, x, ys, h1, h2, y, zs, h3, ⟨us, h4, h5⟩, h6⟩ => by
    subst h1 h3 h6
    exact ⟨_, h2.1 ▸ hs, y, us, rfl, h4, trees_hand h5⟩
  | .thn a n b, v, ⟨_, hs, x, ys, h1, h2, y, zs, h3, h4, z, us, h5, h6, w, ts, h7, h8, h9⟩ => by
    subst h1 h3 h5 h7 h9
    obtain ⟨ws, g1, g2⟩ := tree_hand h4
    obtain ⟨us, g3, g4⟩ := tree_hand h8
    exact ⟨_, h2.1 ▸ hs, y, w, ws, us, by rw [h6.1], g1, g3, g2, g4⟩
  | .dyed p ds, v, ⟨_, hs, x, ys, h1, h2, y, zs, h3, h4, z, us, h5, ⟨qs, h6, h7⟩, h8⟩ => by
    subst h1 h3 h5 h8
    obtain ⟨ws, g1, g2⟩ := tree_hand h4
    obtain ⟨g3, g4⟩ := tr_dyes h7
    exact ⟨_, h2.1 ▸ hs, y, z, ws, qs, rfl, g1, h6, g3, g4, g2⟩
theorem trees_hand {H : Hp} : ∀ {ps : Ps} {xs : List V}, TrL H (trees ps) xs → HandT H ps xs
  | .nil, _, h => h
  | .cons p n r, _, ⟨q, ys, h1, ⟨xs, h2, x, zs, h3, h4, y, us, h5, h6, h7⟩, h8⟩ => by
    subst h1 h3 h5 h7
    obtain ⟨ws, g1, g2⟩ := tree_hand h4
    exact ⟨q, x, ws, ys, rfl, by rw [← h6.1]; exact h2, g1, g2, trees_hand h8⟩
end
theorem dp_dyes : ∀ ds : List (Nat × Nat), dpL (dyesT ds) ≤ 2
  | [] => Nat.zero_le _
  | d :: ds => by
    have := dp_dyes ds
    show max (max 1 (max 1 0) + 1) (dpL (dyesT ds)) ≤ 2
    omega
mutual
theorem dp_tree : ∀ p : Pr, dpT (tree p) ≤ 3 * dep p + 2
  | .wheel _ => Nat.le_of_ble_eq_true rfl
  | .turned p n => by
    have := dp_tree p
    show max 1 (max (dpT (tree p)) (max 1 0)) + 1 ≤ 3 * (dep p + 1) + 2
    omega
  | .over a b => by
    have := dp_tree a
    have := dp_tree b
    show max 1 (max (dpT (tree a)) (max (dpT (tree b)) 0)) + 1 ≤ 3 * (max (dep a) (dep b) + 1) + 2
    omega
  | .cut a b => by
    have := dp_tree a
    have := dp_tree b
    show max 1 (max (dpT (tree a)) (max (dpT (tree b)) 0)) + 1 ≤ 3 * (max (dep a) (dep b) + 1) + 2
    omega
  | .held a b => by
    have := dp_tree a
    have := dp_tree b
    show max 1 (max (dpT (tree a)) (max (dpT (tree b)) 0)) + 1 ≤ 3 * (max (dep a) (dep b) + 1) + 2
    omega
  | .taking ps => by
    have := dp_trees ps
    show max 1 (max (dpL (trees ps) + 1) 0) + 1 ≤ 3 * (depT ps + 1) + 2
    omega
  | .thn a n b => by
    have := dp_tree a
    have := dp_tree b
    show max 1 (max (dpT (tree a)) (max 1 (max (dpT (tree b)) 0))) + 1 ≤ 3 * (max (dep a) (dep b) + 1) + 2
    omega
  | .dyed p ds => by
    have := dp_tree p
    have := dp_dyes ds
    show max 1 (max (dpT (tree p)) (max (dpL (dyesT ds) + 1) 0)) + 1 ≤ 3 * (dep p + 1) + 2
    omega
theorem dp_trees : ∀ ps : Ps, dpL (trees ps) ≤ 3 * depT ps + 3
  | .nil => Nat.zero_le _
  | .cons p n r => by
    have := dp_tree p
    have := dp_trees r
    show max (max (dpT (tree p)) (max 1 0) + 1) (dpL (trees r)) ≤ 3 * max (dep p) (depT r) + 3
    omega
end
theorem ok_dyes : ∀ ds : List (Nat × Nat), okL (dyesT ds) ∧ lenT (dyesT ds) = ds.length
  | [] => ⟨trivial, rfl⟩
  | d :: ds => ⟨⟨⟨Nat.le_of_ble_eq_true rfl, trivial, trivial, trivial⟩, (ok_dyes ds).1⟩, congrArg Nat.succ (ok_dyes ds).2⟩
mutual
theorem ok_tree : ∀ p : Pr, NoDye p → Form p → okT (tree p)
  | .wheel _, _, _ => ⟨Nat.le_of_ble_eq_true rfl, trivial, trivial, trivial⟩
  | .turned p n, hn, hf => ⟨Nat.le_of_ble_eq_true rfl, trivial, ok_tree p hn hf, trivial, trivial⟩
  | .over a b, hn, hf => ⟨Nat.le_of_ble_eq_true rfl, trivial, ok_tree a hn.1 hf.1, ok_tree b hn.2 hf.2, trivial⟩
  | .cut a b, hn, hf => ⟨Nat.le_of_ble_eq_true rfl, trivial, ok_tree a hn.1 hf.1, ok_tree b hn.2 hf.2, trivial⟩
  | .held a b, hn, hf => ⟨Nat.le_of_ble_eq_true rfl, trivial, ok_tree a hn.1 hf.1, ok_tree b hn.2 hf.2, trivial⟩
  | .taking ps, hn, hf => ⟨Nat.le_of_ble_eq_true rfl, trivial, ⟨by have := (ok_trees ps hn hf.1).2; have := hf.2.2; omega, (ok_trees ps hn hf.1).1⟩, trivial⟩
  | .thn a n b, hn, hf => ⟨Nat.le_of_ble_eq_true rfl, trivial, ok_tree a hn.1 hf.1, trivial, ok_tree b hn.2 hf.2, trivial⟩
  | .dyed p ds, hn, hf => ⟨Nat.le_of_ble_eq_true rfl, trivial, ok_tree p hn.1 hf, ⟨by rw [(ok_dyes ds).2]; have := hn.2.1; omega, (ok_dyes ds).1⟩, trivial⟩
theorem ok_trees : ∀ ps : Ps, NoDyeT ps → FormT ps → okL (trees ps) ∧ lenT (trees ps) = (manies ps).length
  | .nil, _, _ => ⟨trivial, rfl⟩
  | .cons p n r, hn, hf => ⟨⟨⟨Nat.le_of_ble_eq_true rfl, ok_tree p hn.1 hf.1, trivial, trivial⟩, (ok_trees r hn.2 hf.2.2).1⟩, congrArg Nat.succ (ok_trees r hn.2 hf.2.2).2⟩
end
section
variable {K : PySem.W.Frag} {σ : L2.St} {H : Hp} {te tel : TE}
/-- [f(inner) for inner in thing], each made anew -/
theorem evp_lcMap {v : V} {xs : List V} {ds : Trs} {vs : List Nat} {j : Nat} (h : Ev te σ H v) (hs : Sq H v xs) (ht : TrL H ds xs) (hz : lenT ds ≤ 1000) (hw : ∀ x, wipe ((wipe σ vs).set j (some x)) vs = wipe σ vs)
    (hel : ∀ (d : Tr) (x : V) H1, Ex H H1 → TrV H1 d x → dpT d ≤ dpL ds → (okL ds → okT d) → EvP tel ((wipe σ vs).set j (some x)) H1 (fun v' H' => TrV (new H1 H') d v')) :
    EvP (tLc (fun σ H R => iList K te σ H R ∨ iTup K te σ H R) (gName j) tYes tel vs) σ H (fun v' H' => ∃ l ys, v' = .ref l ∧ new H H' l = some (.lst ys) ∧ TrL (new H H') ds ys) := by
  intro H1 e Q q
  obtain ⟨a, rfl, ha⟩ := hs
  have hlen := trl_len ht
  have step : ∀ (H2 : Hp) (Dl : Addr), Ex H1 H2 → H2 Dl = none → ∀ (i : Nat) (x : V) (H' : Hp), xs[i]? = some x → (∃ acc, acc.length = i ∧ (∀ (k : Nat) d y, nthT ds k = some d → acc[k]? = some y → TrV (hide Dl (new H H')) d y) ∧ Ex H2 H' ∧ H' Dl = some (.lst acc)) →
      gName j x (wipe σ vs) H' fun σ2 H3 => wipe σ2 vs = wipe σ vs ∧ tYes σ2 H3 fun b H4 => if b = true then tel σ2 H4 fun y H5 => ∃ acc, H5 Dl = some (.lst acc) ∧ acc.length < sizeLine ∧
        (∃ acc2, acc2.length = i + 1 ∧ (∀ (k : Nat) d z, nthT ds k = some d → acc2[k]? = some z → TrV (hide Dl (new H (upd H5 Dl (.lst (acc ++ [y]))))) d z) ∧ Ex H2 (upd H5 Dl (.lst (acc ++ [y]))) ∧ (upd H5 Dl (.lst (acc ++ [y]))) Dl = some (.lst acc2)) else
        (∃ acc2, acc2.length = i + 1 ∧ (∀ (k : Nat) d z, nthT ds k = some d → acc2[k]? = some z → TrV (hide Dl (new H H4)) d z) ∧ Ex H2 H4 ∧ H4 Dl = some (.lst acc2)) := fun H2 Dl e2 hD i x H' hx hp => by
    obtain ⟨acc, h1, h2, e3, h3⟩ := hp
    have hil := (List.getElem?_eq_some_iff.mp hx).1
    refine ⟨hw _, ?_⟩
    simp only [tYes, ↓reduceIte]
    obtain ⟨d, hd, htv⟩ := trl_at ht hx
    have e1 : Ex H H' := (e.trans e2).trans e3
    refine hel d x H' e1 (htv.ex e1) (nth_dp hd) (nth_ok hd) H' (Ex.refl _) _ fun y H5 e5 hy => ?_
    have hD5 := e5 _ _ h3
    refine ⟨acc, hD5, by rw [big]; omega, acc ++ [y], by rw [List.length_append, h1]; rfl, fun k d' z hk hz => ?_, (e3.trans e5).mut hD, upd_same⟩
    have m1 : ∀ o, Ex (hide Dl (new H H')) (hide Dl (new H (upd H5 Dl o))) := fun o a o' ha => by
      obtain ⟨n1, n2⟩ := hide_some.mp ha
      obtain ⟨n3, n4⟩ := new_some.mp n2
      exact hide_some.mpr ⟨n1, new_some.mpr ⟨n3, by rw [upd_ne n1]; exact e5 _ _ n4⟩⟩
    have m2 : ∀ o, Ex (new H' H5) (hide Dl (new H (upd H5 Dl o))) := fun o a o' ha => by
      obtain ⟨n1, n2⟩ := new_some.mp ha
      have n3 : a ≠ Dl := fun z => by
        rw [z, h3] at n1
        cases n1
      exact hide_some.mpr ⟨n3, new_some.mpr ⟨fresh_back e1 n1, by rw [upd_ne n3]; exact n2⟩⟩
    rcases Nat.lt_or_ge k acc.length with c | c
    · rw [List.getElem?_append_left c] at hz
      exact (h2 k d' z hk hz).ex (m1 _)
    · rw [List.getElem?_append_right c] at hz
      have hk0 : k - acc.length = 0 := by
        cases c2 : k - acc.length with
        | zero => rfl
        | succ n => rw [c2] at hz; cases hz
      rw [hk0] at hz
      cases hz
      have : k = i := by omega
      rw [this, hd] at hk
      cases hk
      exact hy.ex (m2 _)
  have fin : ∀ (H2 : Hp) (Dl : Addr) (H' : Hp), Ex H1 H2 → H2 Dl = none → (∃ acc, acc.length = xs.length ∧ (∀ (k : Nat) d y, nthT ds k = some d → acc[k]? = some y → TrV (hide Dl (new H H')) d y) ∧ Ex H2 H' ∧ H' Dl = some (.lst acc)) → Q (.ref Dl) H' := fun H2 Dl H' e2 hD hp => by
    obtain ⟨acc, h1, h2, e3, h3⟩ := hp
    have hnew : new H H' Dl = some (.lst acc) := new_some.mpr ⟨fresh_back (e.trans e2) hD, h3⟩
    refine q _ H' (e2.trans e3) ⟨Dl, acc, rfl, hnew, trl_of (by omega) fun k d y hk hy => (h2 k d y hk hy).ex fun a o hh => (hide_some.mp hh).2⟩
  rcases ha with ha | ha
  · exact .inl (h H1 e _ fun H2 e2 => ⟨a, rfl, ⟨xs, SqL.of ((e.trans e2) _ _ ha)⟩, fun Dl hD => lc_list (xs := xs) (fun i H' => ∃ acc, acc.length = i ∧ (∀ (k : Nat) d y, nthT ds k = some d → acc[k]? = some y → TrV (hide Dl (new H H')) d y) ∧ Ex H2 H' ∧ H' Dl = some (.lst acc)) ⟨[], rfl, fun k d y _ hy => (by cases hy), Ex.new hD, upd_same⟩ (fun i H' _ hp => by obtain ⟨acc, _, _, e3, _⟩ := hp; exact SqL.of (((e.trans e2).trans e3) _ _ ha)) (fun i x H' hx hp => step H2 Dl e2 hD i x H' hx hp) fun H' hp => fin H2 Dl H' e2 hD hp⟩)
  · exact .inr (h H1 e _ fun H2 e2 => ⟨a, rfl, ⟨xs, .inl (ex_rd (e.trans e2) ha)⟩, fun Dl hD => lc_it (walk_tup (a := a) (xs := xs)) (fun i H' => ∃ acc, acc.length = i ∧ (∀ (k : Nat) d y, nthT ds k = some d → acc[k]? = some y → TrV (hide Dl (new H H')) d y) ∧ Ex H2 H' ∧ H' Dl = some (.lst acc)) ⟨[], rfl, fun k d y _ hy => (by cases hy), Ex.new hD, upd_same⟩ (fun i H' _ hp => by obtain ⟨acc, _, _, e3, _⟩ := hp; exact .inl (ex_rd ((e.trans e2).trans e3) ha)) (fun i x H' H'' hi hp y => by obtain ⟨rfl, hx⟩ := y; exact step H2 Dl e2 hD i x H'' hx hp) fun H' hp => fin H2 Dl H' e2 hD hp⟩)
end
end RLT

/-! The law's own def, called by the claim: there nothing is being shown (guards), so repr of lists and tuples is told. -/
namespace RGU
open PySem PySem.Spec PyProof.Rows L2 Evl TL RC RD RE
/-- one run of a def of the text, by its body -/
theorem run_def {CX : CXT} {P : Program} {w : World} {K : PySem.W.Frag} {mg : Str → Option Value} {base : Heap} {k : Nat} {f : Addr} {fd : FuncData} {x : Str} {st : Stmt} {N ps : List Str} {A : Around} {outer : List Env} {s : Shared} {H : Hp} {ar : Args} {us : List Value} {vs : List V} {Q : VK} {E : XK}
    (F : Fun K x x st f fd) (sc : FnScope N ps (defScope st)) (rm : Room (k + 1) A) (ev : Env0 P w K mg base A outer s H) (bd : BindsTo s fd ar (ps.zip us)) (vv : Vals vs us) (ln : vs.length = ps.length)
    (bo : ∀ cdv, Room k (A.deeper (envOfC x (defScope st) s.heap.objs.size f cdv)) → ∃ t, PSs (cxOf CX P w K mg base N x (defScope st) f cdv A outer s H E) (defBody st) t ∧ t { nx := fun _ H' => Q .non H', rt := Q } (start N vs) H) :
    codeAny (model P w) A (.call (.ref f) ar) (CR CX outer P w H s Q E) s := by
  obtain ⟨_, _, _, _, _, _, cdv, _, _, rfl, look, code⟩ := F.ex
  have kin : K.In s.heap := ev.mod.kin.keeps fun b o hb => (ev.bs b o hb).1
  obtain ⟨t, body, reading⟩ := bo cdv (rm.deeper _)
  have kinds : ∀ y ∈ ps.zip us, (defScope st).names.lookup y.1 = some .local ∨ ((defScope st).names.lookup y.1 = some .cell ∧ ((cellsFrom (s.heap.objs.size + 1) (defScope st).names []).lookup y.1).isSome = true) := by
    rintro ⟨n, u⟩ hy
    exact (sc.par n (List.of_mem_zip hy).1).imp id fun q => ⟨q, PySem.W.cellsFrom_some _ _ _ (.inl q)⟩
  apply codeAny_call_function rm.depth (kin _ _ look) rfl sc.co sc.gen rfl (PySem.W.codeRec_of kin code)
  apply bd
  refine wpAny_newFunctionEnv_cells sc.kind kinds fun env he s1 inC => ?_
  subst he
  refine ⟨(ev.mod.nolimit.keeps fun b o hb => (ev.bs b o hb).1).keeps inC.toInCall.keep, codeAny_func ?_⟩
  refine wpAny_mono (body.run [] s1 _ H _ (inv_start sc rm.hd ev ln vv inC) reading) ?_ fun _ _ z => z
  intro fl s2 z
  cases fl with
  | next => obtain ⟨σ2, H2, J, q⟩ := z; exact ⟨.non, H2, J.os, J.bare, J.base, J.hok, rfl, q⟩
  | ret u => obtain ⟨v, σ2, H2, J, r, q⟩ := z; exact ⟨v, H2, J.os, J.bare, J.base, J.hok, r, q⟩
  | brk => obtain ⟨_, _, _, q⟩ := z; exact q.elim
  | cont => obtain ⟨_, _, _, q⟩ := z; exact q.elim
/-- the law's promise, kept where the claim calls it -/
def LawOk (P : Program) (w : World) (K : PySem.W.Frag) (mg : Str → Option Value) (base : Heap) (k : Nat) (f : Addr) (fd : FuncData) (ps : List Str) (sp : Sp) : Prop :=
  ∀ (s : Shared) (H : Hp) (ar : Args) (us : List Value) (vs : List V) (Q : VK) (E : XK), Room k callerA → Env0 P w K mg base callerA [] s H → BindsTo s fd ar (ps.zip us) → Vals vs us → sp vs H Q E →
    codeAny (model P w) callerA (.call (.ref f) ar) (CR CX0 [] P w H s Q E) s
theorem lawOk {P : Program} {w : World} {K : PySem.W.Frag} {mg : Str → Option Value} {base : Heap} {k : Nat} {f : Addr} {fd : FuncData} {x : Str} {st : Stmt} {N ps : List Str} {sp : Sp} (F : Fun K x x st f fd) (sc : FnScope N ps (defScope st)) (ln : ∀ vs H Q E, sp vs H Q E → vs.length = ps.length)
    (bo : ∀ (cdv : Value) (s : Shared) (H : Hp) (vs : List V) (Q : VK) (E : XK), Room k (callerA.deeper (envOfC x (defScope st) s.heap.objs.size f cdv)) → sp vs H Q E →
      ∃ t, PSs (cxOf CX0 P w K mg base N x (defScope st) f cdv callerA [] s H E).nox (defBody st) t ∧ t { nx := fun _ H' => Q .non H', rt := Q } (start N vs) H) : LawOk P w K mg base (k + 1) f fd ps sp :=
  fun s H ar us vs Q E rm ev bd vv hs => run_def F sc rm ev bd vv (ln _ _ _ _ hs) fun cdv r => by
    obtain ⟨t, h1, h2⟩ := bo cdv s H vs Q E r hs
    exact ⟨t, h1.nox, h2⟩
section
variable {P : Program} {w : World} {K : PySem.W.Frag} {mg mb : Str → Option Value} {k : Nat} {fa a : Addr} {fd : FuncData} {x : Str} {sp : Sp} {s : Shared} {us : List Value} {ns : List Int}
/-- how the claim's heap is read: the script alone is tracked, if it isn't the module's -/
theorem scripted (kin : K.In s.heap) (la : s.heap.get? a = some { cls := .type "list", data := .seq us.toArray }) (hi : IntsAre us ns) (hl : ns.length ≤ sizeLine) :
    ∃ H : Hp, Only H ∧ SqL K H a (ns.map V.int) ∧ HOk P w H s.heap ∧ ∀ b u, H b = some u → b = a ∧ K.lookup a = none := by
  have vals := vals_ints hi
  rcases hk : K.lookup a with _ | o
  · have only : ∀ b u, (if b = a then some (HO.frz { cls := .type "list", data := .seq us.toArray } (.lst (ns.map V.int))) else none) = some u → b = a ∧ u = .frz { cls := .type "list", data := .seq us.toArray } (.lst (ns.map V.int)) := fun b u z => by
      by_cases c : b = a
      · rw [if_pos c] at z
        exact ⟨c, (Option.some.inj z).symm⟩
      · rw [if_neg c] at z
        cases z
    refine ⟨fun b => if b = a then some (HO.frz { cls := .type "list", data := .seq us.toArray } (.lst (ns.map V.int))) else none, fun b => ?_, .inl (.inr ⟨_, if_pos rfl⟩), fun b u z => ?_, fun b u z => ⟨(only b u z).1, rfl⟩⟩
    · by_cases c : b = a
      · exact .inr ⟨_, _, if_pos c⟩
      · exact .inl (if_neg c)
    · obtain ⟨rfl, rfl⟩ := only b u z
      exact ⟨la, by rw [List.length_map]; exact hl, us, 0, vals, la⟩
  · obtain rfl : o = { cls := .type "list", data := .seq us.toArray } := Option.some.inj ((kin a o hk).symm.trans la)
    refine ⟨fun _ => none, fun _ => .inl rfl, .inr ⟨_, us.toArray, _, hk, rfl, rfl, rfl, ?_, by simpa using vals⟩, fun b u (z : (none : Option HO) = some u) => (by cases z), fun b u (z : (none : Option HO) = some u) => (by cases z)⟩
    rw [List.size_toArray, hi.length]
    exact hl
theorem law_callG (kin : K.In s.heap) (hns : s.heap.Ns mainGlobals mg) (hb : s.heap.Ns builtinsNs mb) (hbb : ∀ x : Str, x ≠ "__name__" → mb x = bootBuiltins x) (hlim : s.heap.NoLimit) (hg : s.gens = #[])
    (la : s.heap.get? a = some { cls := .type "list", data := .seq us.toArray }) (hi : IntsAre us ns) (hl : ns.length ≤ sizeLine) (rm : Room k callerA)
    (F : ∀ base : Heap, K.In base → base.Ns mainGlobals mg → LawOk P w K mg base k fa fd [x] sp) (bd : ∀ (s : Shared) (u : Value), BindsTo s fd ⟨[u], []⟩ [(x, u)])
    (hsp : ∀ H : Hp, Only H → SqL K H a (ns.map V.int) → sp [.ref a] H (fun v _ => v = .bl true) fun _ _ _ => False) :
    codeAny (model P w) callerA (.call (.ref fa) ⟨[.ref a], []⟩) (fun r s' => r = .ok (.ret (.bool true)) ∧ OldK s.heap s'.heap ∧ s'.os = s.os ∧ AllBare s'.gens) s := by
  obtain ⟨H, only, sq, hok, own⟩ := scripted (P := P) (w := w) kin la hi hl
  have frees : ∀ b o, s.heap.get? b = some o → (b = a → o.data ≠ .seq us.toArray 0) → H b = none := fun b o e d => by
    rcases c : H b with _ | u
    · rfl
    · obtain ⟨rfl, _⟩ := own b u c
      exact absurd (by rw [Option.some.inj (e.symm.trans la)]) (d rfl)
  have keepK : K.In (hidT s.heap H) := fun b o e => hidT_get (kin b o e) (by
    rcases c : H b with _ | u
    · rfl
    · obtain ⟨rfl, n⟩ := own b u c
      rw [n] at e
      cases e)
  have keepN : ∀ {b : Addr} {m : Str → Option Value}, s.heap.Ns b m → (hidT s.heap H).Ns b m := fun {b m} ⟨o, es, ep, e, d, r⟩ => ⟨o, es, ep, hidT_get e (frees b o e fun _ z => by rw [d] at z; cases z), d, r⟩
  obtain ⟨mc, lim1, lim2⟩ := hlim
  have env : Env0 P w K mg (hidT s.heap H) callerA [] s H := ⟨rfl, ⟨keepK, keepN hns, ⟨mb, keepN hb, hbb⟩, mc, keepN lim1, lim2⟩, fun _ _ e => of_hidT e, by rw [hidT_size]; exact Nat.le_refl _, trivial, fun b z => (by cases z), hok, .of_eq hg⟩
  refine codeAny_mono (F _ keepK (keepN hns) s H ⟨[.ref a], []⟩ [.ref a] [.ref a] _ _ rm env (bd s (.ref a)) (.cons rfl .nil) (hsp H only sq)) ?_
  intro res s2 z
  cases res with
  | error e => exact z.elim
  | ok fl =>
  cases fl with
  | next => exact z.elim
  | brk => exact z.elim
  | cont => exact z.elim
  | ret u =>
    obtain ⟨v, H2, os, bare, un, hok2, rv, q⟩ := z
    have q' : v = .bl true := q
    subst q'
    obtain rfl : u = Value.bool true := rv
    refine ⟨rfl, OldK.of_keep fun b o e => ?_, os, bare⟩
    rcases c : H b with _ | u
    · exact un.keep b o e c (fun z => by cases z) (fun z => by cases z)
    · rcases only b with z | ⟨ob, xs, z⟩
      · rw [c] at z
        cases z
      · have h1 := (hok b _ z).1
        have h2 := (hok2 b _ (un.frzs b ob _ z)).1
        rw [e] at h1
        rw [Option.some.inj h1]
        exact h2
end
/-- the end, for a law whose own text shows lists and tuples -/
theorem walk_ofG {l : PySem.W.OpenLaw} {n k : Nat} {q : Program} {loose : List Str} {XP : (Str → Option Value) → Heap → Prop} {YP : World → Heap → Prop} {d : DefRec} {K : Params → PySem.W.Frag} {sp : World → Sp} {x : Str}
    (hn : l.most = some n) (hn2 : n ≤ sizeLine) (hdf : d.params.defaults = []) (hr : Room k callerA) (hY : ∀ (w : World) (h : Heap), YP w h → (K w.params).In h)
    (F : ∀ (w : World) (mg : Str → Option Value) (fa : Addr) (h : Heap), (K w.params).In h → h.Ns mainGlobals mg → mg d.name = some (.ref fa) →
      ∃ fd : FuncData, (∀ (s : Shared) (u : Value), BindsTo s fd ⟨[u], []⟩ [(x, u)]) ∧ ∀ base : Heap, (K w.params).In base → base.Ns mainGlobals mg → LawOk l.prog w (K w.params) mg base k fa fd [x] (sp w))
    (hsp : ∀ (w : World) (H : Hp) (a : Addr) (ns : List Int), ns.length ≤ n → Only H → SqL (K w.params) H a (ns.map V.int) → sp w [.ref a] H (fun v _ => v = .bl true) fun _ _ _ => False) :
    PySem.W.WalkO q loose XP YP l.row.toRowW d [] (fun f vs => PySem.call f vs) := by
  refine Att.attach_call hn hdf fun w s0 s1 mg mb fa o pm cd doc a us ns G Y _ _ _ hmg la hi hlen gens => ?_
  obtain ⟨fd, bd, F'⟩ := F w mg fa _ (hY w _ Y) G.T.g hmg
  exact law_callG (hY w _ Y) G.T.g G.T.b G.T.builtins G.T.nolimit gens la hi (Nat.le_trans hlen hn2) hr F' bd fun H only sq => hsp w H a ns hlen only sq
/-! ## repr of lists and tuples -/
def rRep (K : PySem.W.Frag) : List V → Hp → VK → Prop := fun xs H Q => ∃ (v : V) (d : PyData), xs = [v] ∧ Dp K H v d ∧ d.showable = true ∧ d.hasDict = false ∧ d.depth ≤ 100 ∧ d.shown.length ≤ sizeLine ∧ Q (.str d.shown) H
theorem call_rep {X : Cx} {k : Nat} (hg : X.A.guards = some []) (hr : Room k X.A) : CallR X (.builtin "repr") (rRep X.K) := by
  intro pins s σ H xs us Q I r h
  obtain ⟨v, d, rfl, hd, sh, nd, dep, sz, q⟩ := h
  cases r with
  | cons r1 rr =>
    cases rr
    have held : ∀ {a : Addr} {u : Value}, Dp X.K H (.ref a) d → RelV (.ref a) u → wpAny (model X.prog X.w) X.A (call (.builtin "repr") [u]) (EP X pins σ Q) X.xe s := fun {a u} hd r1 => by
      cases r1
      obtain ⟨as, rd⟩ := Dp.reads I d _ _ hd rfl
      refine repr_of_reads' rd sh (PyData.noDict_hsm nd) hg (by have := hr.un; omega) (fun _ _ e => e) (fun h2 u tk hk => ?_) sz
      exact ⟨.str d.shown, H, I.kept (t' := tk) hk, ⟨u, rfl⟩, q⟩
    cases hd with
    | non =>
      cases r1
      exact PySem.P.repr_of_none ⟨.str _, H, I.tok _, ⟨_, rfl⟩, q⟩
    | bl b =>
      cases r1
      exact PySem.P.repr_of_bool ⟨.str _, H, I.tok _, ⟨_, rfl⟩, q⟩
    | int i =>
      obtain ⟨t, rfl⟩ := r1
      exact PySem.P.repr_of_int (of_decide_eq_true sh) ⟨.str _, H, I.tok _, ⟨_, rfl⟩, q⟩
    | str x =>
      obtain ⟨t, rfl⟩ := r1
      exact PySem.P.repr_of_str ⟨.str _, H, I.tok _, ⟨_, rfl⟩, q⟩ sz
    | lst h1 h2 => exact held (.lst h1 h2) r1
    | tup h1 h2 => exact held (.tup h1 h2) r1
theorem pe_rep {X : Cx} {k : Nat} {e : Expr} {ta : TA} {p pos : Pos} (hg : X.A.guards = some []) (hr : Room k X.A) (hgl : Gl X "repr") (hm : X.mg "repr" = none) (ha : PA X [e] ta)
    (he : starEach [e] X.env = (false, eval e X.env) :: starEach [] X.env := by rfl) (hpl : (backTo pos (starEach [] X.env)).any (·.1) = false := by rfl) : PE X (.Call (.Name "repr" p) [e] [] pos) (tCB (rRep X.K) ta) :=
  pe_callB (call_rep hg hr) hgl hm bt_repr ha (by decide) (by decide) he hpl
end RGU

/-! Lists and tuples shown: presses as trees, pairs. -/
namespace RSH
open PySem PySem.Spec PyProof.Rows L2 Evl RDI TL RC RD RG RP RR RU RV RX RY RLT RGU
/-- what is asked of data that is shown -/
structure Sh (d : PyData) (n m : Nat) : Prop where
  sh : d.showable = true
  nd : d.hasDict = false
  dep : d.depth ≤ n
  wt : d.weight ≤ m
  lv : d.leavesShort 121 = true
structure ShL (ds : List PyData) (n m : Nat) : Prop where
  sh : PyData.showableAll ds = true
  nd : PyData.hasDictAll ds = false
  dep : PyData.depthAll ds ≤ n
  wt : PyData.weightAll ds ≤ m
  lv : PyData.leavesShortAll 121 ds = true
theorem Sh.mono {d : PyData} {n m n' m' : Nat} (h : Sh d n m) (h1 : n ≤ n') (h2 : m ≤ m') : Sh d n' m' := ⟨h.sh, h.nd, Nat.le_trans h.dep h1, Nat.le_trans h.wt h2, h.lv⟩
theorem sh_nil : ShL [] 0 0 := ⟨rfl, rfl, Nat.le_refl _, Nat.le_refl _, rfl⟩
theorem sh_cons {d : PyData} {ds : List PyData} {n m n' m' : Nat} (h : Sh d n m) (t : ShL ds n' m') : ShL (d :: ds) (max n n') (m + 1 + m') := by
  refine ⟨?_, ?_, ?_, ?_, ?_⟩
  · show (d.showable && PyData.showableAll ds) = true
    rw [h.sh, t.sh]
    rfl
  · show (d.hasDict || PyData.hasDictAll ds) = false
    rw [h.nd, t.nd]
    rfl
  · have := h.dep
    have := t.dep
    show max d.depth (PyData.depthAll ds) ≤ max n n'
    omega
  · have := h.wt
    have := t.wt
    show d.weight + 1 + PyData.weightAll ds ≤ m + 1 + m'
    omega
  · show (d.leavesShort 121 && PyData.leavesShortAll 121 ds) = true
    rw [h.lv, t.lv]
    rfl
theorem sh_list {ds : List PyData} {n m : Nat} (h : ShL ds n m) : Sh (.list ds) (n + 1) m := ⟨h.sh, h.nd, Nat.succ_le_succ h.dep, h.wt, h.lv⟩
theorem sh_tup {ds : List PyData} {n m : Nat} (h : ShL ds n m) : Sh (.tuple ds) (n + 1) m := ⟨h.sh, h.nd, Nat.succ_le_succ h.dep, h.wt, h.lv⟩
theorem log_lt {i k : Nat} (hk : 0 < k) (h : i < 2 ^ k) : i.log2 < k := by
  by_cases z : i = 0
  · rw [z]
    exact hk
  · exact (Nat.log2_lt z).mpr h
theorem sh_int {i : Int} (h : i.natAbs < 2 ^ 120) : Sh (.int i) 0 120 := by
  have hl := log_lt (by decide) h
  refine ⟨decide_eq_true (by omega), rfl, Nat.le_refl _, ?_, decide_eq_true ?_⟩
  · show (if i == 0 then 0 else i.natAbs.log2 + 1) ≤ 120
    split <;> omega
  · have h1 := int_text_length_le (a := i) (k := 120) (by decide) hl
    show (Str.ofString (toString i)).length ≤ 121
    rw [PySem.ofString_length]
    exact h1
theorem sh_str {l : List Nat} (h : ∀ c ∈ l, c < 4096) : Sh (.str (S l)) 0 l.length := by
  refine ⟨rfl, rfl, Nat.le_refl _, ?_, ?_⟩
  · show (S l).length ≤ l.length
    rw [S_len]
    exact Nat.le_refl _
  · show (S l).cps.toList.all (fun c => decide (c < 16 ^ 8)) = true
    rw [S_cps, List.all_eq_true]
    exact fun c hc => decide_eq_true (Nat.lt_trans (h c hc) (by decide))
/-! ## trees -/
mutual
def goT : Tr → Prop
  | .at v => (∃ n : Int, v = .int n ∧ n.natAbs < 2 ^ 120) ∨ ∃ l, v = T l ∧ ∀ c ∈ l, c < 4096
  | .sq ds => goL ds
def goL : Trs → Prop
  | .nil => True
  | .cons d r => goT d ∧ goL r
end
def szV : V → Nat
  | .str x => x.length
  | _ => 120
mutual
def szT : Tr → Nat
  | .at v => szV v
  | .sq ds => szL ds
def szL : Trs → Nat
  | .nil => 0
  | .cons d r => szT d + 1 + szL r
end
mutual
theorem tr_dp {K : PySem.W.Frag} {H : Hp} : ∀ {t : Tr} {v : V}, goT t → TrV H t v → ∃ d, Dp K H v d ∧ Sh d (dpT t) (szT t)
  | .at v, _, hg, ⟨h1, _⟩ => by
    subst h1
    rcases hg with ⟨n, rfl, hn⟩ | ⟨l, rfl, hl⟩
    · exact ⟨.int n, .int n, (sh_int hn).mono (Nat.zero_le _) (Nat.le_refl _)⟩
    · exact ⟨.str (S l), .str _, (sh_str hl).mono (Nat.zero_le _) (by show l.length ≤ (S l).length; rw [S_len]; exact Nat.le_refl _)⟩
  | .sq ds, _, hg, ⟨xs, ⟨p, h1, hs⟩, hL⟩ => by
    subst h1
    obtain ⟨dd, k1, k2⟩ := trl_dp (K := K) (ds := ds) hg hL
    rcases hs with hs | hs
    · exact ⟨.list dd, .lst (SqL.of hs) k1, sh_list k2⟩
    · exact ⟨.tuple dd, .tup (.inl hs) k1, sh_tup k2⟩
theorem trl_dp {K : PySem.W.Frag} {H : Hp} : ∀ {ds : Trs} {xs : List V}, goL ds → TrL H ds xs → ∃ dd, DpAll K H xs dd ∧ ShL dd (dpL ds) (szL ds)
  | .nil, xs, _, h => by
    rw [show xs = [] from h]
    exact ⟨[], .nil, sh_nil⟩
  | .cons d r, _, hg, ⟨x, ys, h1, h2, h3⟩ => by
    subst h1
    obtain ⟨a, k1, k2⟩ := tr_dp (K := K) (t := d) hg.1 h2
    obtain ⟨as, k3, k4⟩ := trl_dp (K := K) (ds := r) hg.2 h3
    exact ⟨a :: as, .cons k1 k3, sh_cons k2 k4⟩
end
mutual
theorem dp_ex {K : PySem.W.Frag} {H H' : Hp} (e : Ex H H') : ∀ (d : PyData) {v : V}, Dp K H v d → Dp K H' v d
  | .none, _, h => by cases h; exact .non
  | .bool b, _, h => by cases h; exact .bl b
  | .int i, _, h => by cases h; exact .int i
  | .str x, _, h => by cases h; exact .str x
  | .list ds, _, h => by
    cases h with
    | lst h1 h2 => exact .lst (ex_l e h1) (dpAll_ex e ds h2)
  | .tuple ds, _, h => by
    cases h with
    | tup h1 h2 => exact .tup (ex_t e h1) (dpAll_ex e ds h2)
  | .dict _, _, h => by cases h
theorem dpAll_ex {K : PySem.W.Frag} {H H' : Hp} (e : Ex H H') : ∀ (ds : List PyData) {vs : List V}, DpAll K H vs ds → DpAll K H' vs ds
  | [], _, h => by cases h; exact .nil
  | d :: ds, _, h => by
    cases h with
    | cons h1 h2 => exact .cons (dp_ex e d h1) (dpAll_ex e ds h2)
end
/-! ## presses -/
theorem wd_go (i : Nat) (h : i < 8) : goT (.at (T (wd i))) := .inr ⟨_, rfl, by
  have : ∀ j : Fin 8, ∀ c ∈ wd j.val, c < 4096 := by decide
  exact this ⟨i, h⟩⟩
theorem wd_sz (i : Nat) (h : i < 8) : szT (.at (T (wd i))) ≤ 6 := by
  show (S (wd i)).length ≤ 6
  rw [S_len]
  have : ∀ j : Fin 8, (wd j.val).length ≤ 6 := by decide
  exact this ⟨i, h⟩
theorem marks_small : ∀ c ∈ MARKS, c < 4096 := by decide
mutual
/-- small enough to be shown -/
def goP : Pr → Prop
  | .wheel rim => rim.length ≤ 100 ∧ ∀ c ∈ rim, c < 4096
  | .turned p n => goP p ∧ n < 2 ^ 120
  | .over a b => goP a ∧ goP b
  | .cut a b => goP a ∧ goP b
  | .held a b => goP a ∧ goP b
  | .taking ps => goPs ps
  | .thn a n b => goP a ∧ n < 2 ^ 120 ∧ goP b
  | .dyed p ds => goP p ∧ ds.length ≤ 26 ∧ ∀ d ∈ ds, d.1 < 4096 ∧ d.2 < 4096
def goPs : Ps → Prop
  | .nil => True
  | .cons p n r => goP p ∧ n < 2 ^ 120 ∧ goPs r
end
theorem dyes_go : ∀ {ds : List (Nat × Nat)}, (∀ d ∈ ds, d.1 < 4096 ∧ d.2 < 4096) → goL (dyesT ds) ∧ szL (dyesT ds) = 5 * ds.length
  | [], _ => ⟨trivial, rfl⟩
  | d :: r, h => by
    obtain ⟨h1, h2⟩ := dyes_go (ds := r) fun x hx => h x (List.mem_cons_of_mem _ hx)
    obtain ⟨h3, h4⟩ := h d List.mem_cons_self
    refine ⟨⟨⟨.inr ⟨_, rfl, fun c hc => by rw [List.mem_singleton.mp hc]; exact h3⟩, .inr ⟨_, rfl, fun c hc => by rw [List.mem_singleton.mp hc]; exact h4⟩, trivial⟩, h1⟩, ?_⟩
    show (S [d.1]).length + 1 + ((S [d.2]).length + 1 + 0) + 1 + szL (dyesT r) = 5 * (r.length + 1)
    rw [S_len, S_len, h2]
    show 1 + 1 + (1 + 1 + 0) + 1 + 5 * r.length = 5 * (r.length + 1)
    omega
theorem int_go {n : Nat} (h : n < 2 ^ 120) : goT (.at (.int (n : Int))) := .inl ⟨_, rfl, by rw [Int.natAbs_natCast]; exact h⟩
mutual
theorem tree_go : ∀ {p : Pr}, goP p → goT (tree p) ∧ szT (tree p) + 124 ≤ 500 * parts p
  | .wheel rim, ⟨h1, h2⟩ => by
    refine ⟨⟨wd_go 0 (by decide), .inr ⟨_, rfl, h2⟩, trivial⟩, ?_⟩
    have := wd_sz 0 (by decide)
    show szT (.at (T (wd 0))) + 1 + ((S rim).length + 1 + 0) + 124 ≤ 500 * 1
    rw [S_len]
    omega
  | .turned p n, ⟨h1, h2⟩ => by
    obtain ⟨g1, g2⟩ := tree_go (p := p) h1
    refine ⟨⟨wd_go 1 (by decide), g1, int_go h2, trivial⟩, ?_⟩
    have := wd_sz 1 (by decide)
    show szT (.at (T (wd 1))) + 1 + (szT (tree p) + 1 + (120 + 1 + 0)) + 124 ≤ 500 * (parts p + 1)
    omega
  | .over a b, ⟨h1, h2⟩ => by
    obtain ⟨g1, g2⟩ := tree_go (p := a) h1
    obtain ⟨g3, g4⟩ := tree_go (p := b) h2
    refine ⟨⟨wd_go 2 (by decide), g1, g3, trivial⟩, ?_⟩
    have := wd_sz 2 (by decide)
    show szT (.at (T (wd 2))) + 1 + (szT (tree a) + 1 + (szT (tree b) + 1 + 0)) + 124 ≤ 500 * (parts a + parts b + 1)
    omega
  | .cut a b, ⟨h1, h2⟩ => by
    obtain ⟨g1, g2⟩ := tree_go (p := a) h1
    obtain ⟨g3, g4⟩ := tree_go (p := b) h2
    refine ⟨⟨wd_go 3 (by decide), g1, g3, trivial⟩, ?_⟩
    have := wd_sz 3 (by decide)
    show szT (.at (T (wd 3))) + 1 + (szT (tree a) + 1 + (szT (tree b) + 1 + 0)) + 124 ≤ 500 * (parts a + parts b + 1)
    omega
  | .held a b, ⟨h1, h2⟩ => by
    obtain ⟨g1, g2⟩ := tree_go (p := a) h1
    obtain ⟨g3, g4⟩ := tree_go (p := b) h2
    refine ⟨⟨wd_go 4 (by decide), g1, g3, trivial⟩, ?_⟩
    have := wd_sz 4 (by decide)
    show szT (.at (T (wd 4))) + 1 + (szT (tree a) + 1 + (szT (tree b) + 1 + 0)) + 124 ≤ 500 * (parts a + parts b + 1)
    omega
  | .taking ps, h => by
    obtain ⟨g1, g2⟩ := trees_go (ps := ps) h
    refine ⟨⟨wd_go 5 (by decide), g1, trivial⟩, ?_⟩
    have := wd_sz 5 (by decide)
    show szT (.at (T (wd 5))) + 1 + (szL (trees ps) + 1 + 0) + 124 ≤ 500 * (partsT ps + 1)
    omega
  | .thn a n b, ⟨h1, h0, h2⟩ => by
    obtain ⟨g1, g2⟩ := tree_go (p := a) h1
    obtain ⟨g3, g4⟩ := tree_go (p := b) h2
    refine ⟨⟨wd_go 6 (by decide), g1, int_go h0, g3, trivial⟩, ?_⟩
    have := wd_sz 6 (by decide)
    show szT (.at (T (wd 6))) + 1 + (szT (tree a) + 1 + (120 + 1 + (szT (tree b) + 1 + 0))) + 124 ≤ 500 * (parts a + parts b + 1)
    omega
  | .dyed p ds, ⟨h1, h2, h3⟩ => by
    obtain ⟨g1, g2⟩ := tree_go (p := p) h1
    obtain ⟨g3, g4⟩ := dyes_go h3
    refine ⟨⟨wd_go 7 (by decide), g1, g3, trivial⟩, ?_⟩
    have := wd_sz 7 (by decide)
    show szT (.at (T (wd 7))) + 1 + (szT (tree p) + 1 + (szL (dyesT ds) + 1 + 0)) + 124 ≤ 500 * (parts p + 1)
    omega
theorem trees_go : ∀ {ps : Ps}, goPs ps → goL (trees ps) ∧ szL (trees ps) ≤ 500 * partsT ps
  | .nil, _ => ⟨trivial, Nat.le_refl _⟩
  | .cons p n r, ⟨h1, h2, h3⟩ => by
    obtain ⟨g1, g2⟩ := tree_go (p := p) h1
    obtain ⟨g3, g4⟩ := trees_go (ps := r) h3
    refine ⟨⟨⟨g1, int_go h2, trivial⟩, g3⟩, ?_⟩
    show szT (tree p) + 1 + (120 + 1 + 0) + 1 + szL (trees r) ≤ 500 * (parts p + partsT r)
    omega
end
/-- a press that is handed in, as it is shown -/
theorem hand_dp {K : PySem.W.Frag} {H : Hp} {p : Pr} {v : V} (hp : Hand H p v) (hg : goP p) (h12 : parts p ≤ 12) : ∃ d, Dp K H v d ∧ Sh d 40 6000 := by
  obtain ⟨ws, h1, h2⟩ := hp
  obtain ⟨g1, g2⟩ := tree_go hg
  obtain ⟨d, k1, k2⟩ := tr_dp (K := K) g1 (hand_tree h1 h2)
  have k3 := dp_tree p
  have k4 := dep_parts p
  exact ⟨d, k1, k2.mono (by omega) (by omega)⟩
/-! ## repr -/
section
variable {K : PySem.W.Frag} {σ : L2.St} {H : Hp} {ta tb te : TE} {d : PyData} {n m : Nat}
def ShP (K : PySem.W.Frag) (d : PyData) : V → Hp → Prop := fun v H => Dp K H v d
theorem ev_rep (ok : Sh d n m) (hn : n ≤ 100) (hm : m ≤ 130000) (h : EvP te σ H (ShP K d)) : Ev (tCB (rRep K) (tCons te tNil)) σ H (.str d.shown) := fun H1 e Q q => h H1 e _ fun v H2 e2 hd => by
  have h1 := PyData.shown_le 121 (by decide) d ok.lv
  have h2 := ok.wt
  have h3 := ok.dep
  refine ⟨v, d, rfl, hd, ok.sh, ok.nd, by omega, ?_, q H2 e2⟩
  rw [big]
  have : (121 + 2) * d.weight ≤ (121 + 2) * 130000 := Nat.mul_le_mul_left _ (by omega)
  omega
theorem ev_neRep (ok : Sh d n m) (hn : n ≤ 100) (hm : m ≤ 130000) (ha : EvP ta σ H (ShP K d)) (hb : EvP tb σ H (ShP K d)) : Ev (tOp rNe (tCB (rRep K) (tCons ta tNil)) (tCB (rRep K) (tCons tb tNil))) σ H (.bl false) :=
  ev_is (ev_op (ev_rep ok hn hm ha) (ev_rep ok hn hm hb) (rv_ne rfl)) (by simp)
theorem shp_ev {v : V} (h : Ev te σ H v) (hd : Dp K H v d) : EvP te σ H (ShP K d) := fun H1 e Q q => h H1 e _ fun H2 e2 => q v H2 e2 (dp_ex (e.trans e2) d hd)
theorem shp_eu {xs : List V} {ds : List PyData} (h : EvU te σ H xs) (hd : DpAll K H xs ds) : EvP te σ H (ShP K (.tuple ds)) := fun H1 e Q q => h H1 e _ fun t H2 _ e2 h2 => q _ H2 e2 (.tup (SqT.of h2) (dpAll_ex (e.trans e2) ds hd))
end
theorem sh_ints {i j : Nat} (h1 : i < 2 ^ 120) (h2 : j < 2 ^ 120) : Sh (.tuple [.int (i : Int), .int (j : Int)]) 1 242 :=
  (sh_tup (sh_cons (sh_int (i := (i : Int)) (by rw [Int.natAbs_natCast]; exact h1)) (sh_cons (sh_int (i := (j : Int)) (by rw [Int.natAbs_natCast]; exact h2)) sh_nil))).mono (by decide) (by decide)
theorem sh_texts {a b : List Nat} (h1 : ∀ c ∈ a, c < 4096) (h2 : ∀ c ∈ b, c < 4096) : Sh (.tuple [.str (S a), .str (S b)]) 1 (a.length + b.length + 2) :=
  (sh_tup (sh_cons (sh_str h1) (sh_cons (sh_str h2) sh_nil))).mono (by decide) (by omega)
end RSH

/-! Data told alike twice, compared: whatever its shape. -/
namespace RSD
open PySem PySem.Spec PyProof.Rows L2 Evl TL RC RD RE RG RR RU RX
mutual
theorem dp_go {K : PySem.W.Frag} {H H' : Hp} (e : Ex H H') : ∀ (d : PyData) {v : V}, Dp K H v d → Dp K H' v d
  | .none, _, h => by cases h; exact .non
  | .bool b, _, h => by cases h; exact .bl b
  | .int i, _, h => by cases h; exact .int i
  | .str x, _, h => by cases h; exact .str x
  | .list ds, _, h => by
    cases h with
    | lst h1 h2 => exact .lst (ex_l e h1) (dpAll_go e ds h2)
  | .tuple ds, _, h => by
    cases h with
    | tup h1 h2 => exact .tup (ex_t e h1) (dpAll_go e ds h2)
  | .dict _, _, h => by cases h
theorem dpAll_go {K : PySem.W.Frag} {H H' : Hp} (e : Ex H H') : ∀ (ds : List PyData) {vs : List V}, DpAll K H vs ds → DpAll K H' vs ds
  | [], _, h => by cases h; exact .nil
  | d :: ds, _, h => by
    cases h with
    | cons h1 h2 => exact .cons (dp_go e d h1) (dpAll_go e ds h2)
end
def DpP (K : PySem.W.Frag) (d : PyData) : V → Hp → Prop := fun v H => Dp K H v d
def DpA (K : PySem.W.Frag) (ds : List PyData) : List V → Hp → Prop := fun vs H => DpAll K H vs ds
section
variable {K : PySem.W.Frag} {σ : L2.St} {H : Hp} {ta tb te : TE} {tr : TA} {d e : PyData} {ds : List PyData} {v w : V} {xs : List V}
theorem dpp_ev (h : Ev te σ H v) (hd : Dp K H v d) : EvP te σ H (DpP K d) := fun H1 e Q q => h H1 e _ fun H2 e2 => q v H2 e2 (dp_go (e.trans e2) d hd)
theorem dpp_eu (h : EvU te σ H xs) (hd : DpAll K H xs ds) : EvP te σ H (DpP K (.tuple ds)) := fun H1 e Q q => h H1 e _ fun t H2 _ e2 h2 => q _ H2 e2 (.tup (SqT.of h2) (dpAll_go (e.trans e2) ds hd))
theorem dpp_el (h : EvL te σ H xs) (hd : DpAll K H xs ds) : EvP te σ H (DpP K (.list ds)) := fun H1 e Q q => h H1 e _ fun t H2 _ e2 h2 => q _ H2 e2 (.lst (SqL.of h2) (dpAll_go (e.trans e2) ds hd))
theorem eap_dp0 : EvAP tNil σ H (DpA K []) := fun H1 _ _ q => q [] H1 (Ex.refl H1) .nil
theorem eap_dp (h : EvP ta σ H (DpP K d)) (hr : EvAP tr σ H (DpA K ds)) : EvAP (tCons ta tr) σ H (DpA K (d :: ds)) := fun H1 e Q q =>
  h H1 e _ fun v H2 e2 p1 => hr H2 (e.trans e2) _ fun vs H3 e3 p => q _ H3 (e2.trans e3) (.cons (dp_go e3 d p1) p)
theorem dpa_len {ds : List PyData} : ∀ {vs : List V}, DpAll K H vs ds → vs.length = ds.length := by
  induction ds with
  | nil => intro vs h; cases h; rfl
  | cons d r ih => intro vs h; cases h with | cons h1 h2 => exact congrArg Nat.succ (ih h2)
theorem evp_dpL (h : EvAP tr σ H (DpA K ds)) (hl : ds.length ≤ 100000) : EvP (tLst tr) σ H (DpP K (.list ds)) := fun H1 e Q q =>
  h H1 e _ fun ws H2 e2 p => ⟨by rw [dpa_len p]; exact sz_of hl, fun a ha => q _ _ (e2.trans (Ex.new ha)) (.lst (SqL.of upd_same) (dpAll_go (Ex.new ha) ds p))⟩
theorem evp_dpU (h : EvAP tr σ H (DpA K ds)) (hl : ds.length ≤ 100000) : EvP (tTup tr) σ H (DpP K (.tuple ds)) := fun H1 e Q q =>
  h H1 e _ fun ws H2 e2 p => ⟨by rw [dpa_len p]; exact sz_of hl, fun a ha => q _ _ (e2.trans (Ex.new ha)) (.tup (SqT.of upd_same) (dpAll_go (Ex.new ha) ds p))⟩
theorem ev_neS (hs : SeqAt.shaped d = true) (ha : EvP ta σ H (DpP K d)) (hb : EvP tb σ H (DpP K d)) : Ev (tOp (rNeD K) ta tb) σ H (.bl false) := fun H1 e Q q =>
  ha H1 e _ fun x H2 e2 hx => hb H2 (e.trans e2) _ fun y H3 e3 hy => ⟨d, d, dp_go e3 d hx, hy, hs, hs, by
    rw [SeqAt.eqv_refl d (SeqAt.canLay_of_shaped hs)]
    exact q H3 (e2.trans e3)⟩
theorem ev_eqS (hs : SeqAt.shaped d = true) (ha : EvP ta σ H (DpP K d)) (hb : EvP tb σ H (DpP K d)) : Ev (tOp (rEqD K) ta tb) σ H (.bl true) := fun H1 e Q q =>
  ha H1 e _ fun x H2 e2 hx => hb H2 (e.trans e2) _ fun y H3 e3 hy => ⟨d, d, dp_go e3 d hx, hy, hs, hs, by
    rw [SeqAt.eqv_refl d (SeqAt.canLay_of_shaped hs)]
    exact q H3 (e2.trans e3)⟩
/-- two things of data held against each other -/
theorem ev_neX (hs : SeqAt.shaped d = true) (ht : SeqAt.shaped e = true) (ha : EvP ta σ H (DpP K d)) (hb : EvP tb σ H (DpP K e)) : Ev (tOp (rNeD K) ta tb) σ H (.bl (!PyData.eqv d e)) := fun H1 e1 Q q =>
  ha H1 e1 _ fun x H2 e2 hx => hb H2 (e1.trans e2) _ fun y H3 e3 hy => ⟨d, e, dp_go e3 d hx, hy, hs, ht, q H3 (e2.trans e3)⟩
theorem ev_eqX (hs : SeqAt.shaped d = true) (ht : SeqAt.shaped e = true) (ha : EvP ta σ H (DpP K d)) (hb : EvP tb σ H (DpP K e)) : Ev (tOp (rEqD K) ta tb) σ H (.bl (PyData.eqv d e)) := fun H1 e1 Q q =>
  ha H1 e1 _ fun x H2 e2 hx => hb H2 (e1.trans e2) _ fun y H3 e3 hy => ⟨d, e, dp_go e3 d hx, hy, hs, ht, q H3 (e2.trans e3)⟩
end
/-! ### shapes -/
structure Lay (d : PyData) (n : Nat) : Prop where
  can : d.canLay0 = true
  dep : d.depth ≤ n
structure LayL (ds : List PyData) (n : Nat) : Prop where
  can : PyData.canLayAll0 ds = true
  dep : PyData.depthAll ds ≤ n
theorem Lay.ok {d : PyData} {n : Nat} (h : Lay d n) (hn : n ≤ 64) : SeqAt.shaped d = true := by
  have := h.dep
  simp only [SeqAt.shaped, h.can, Bool.true_and, decide_eq_true_eq]
  omega
theorem Lay.mono {d : PyData} {n m : Nat} (h : Lay d n) (l : n ≤ m) : Lay d m := ⟨h.can, Nat.le_trans h.dep l⟩
theorem lay_nil : LayL [] 0 := ⟨rfl, Nat.le_refl _⟩
theorem lay_cons {d : PyData} {ds : List PyData} {n m : Nat} (h : Lay d n) (t : LayL ds m) : LayL (d :: ds) (max n m) := by
  refine ⟨?_, ?_⟩
  · show (d.canLay0 && PyData.canLayAll0 ds) = true
    rw [h.can, t.can]
    rfl
  · show max d.depth (PyData.depthAll ds) ≤ max n m
    have := h.dep
    have := t.dep
    omega
theorem lay_list {ds : List PyData} {n : Nat} (h : LayL ds n) : Lay (.list ds) (n + 1) := ⟨h.can, Nat.succ_le_succ h.dep⟩
theorem lay_tup {ds : List PyData} {n : Nat} (h : LayL ds n) : Lay (.tuple ds) (n + 1) := ⟨h.can, Nat.succ_le_succ h.dep⟩
theorem lay_non : Lay .none 0 := ⟨rfl, Nat.le_refl _⟩
theorem lay_int (i : Int) : Lay (.int i) 0 := ⟨rfl, Nat.le_refl _⟩
theorem lay_bool (b : Bool) : Lay (.bool b) 0 := ⟨rfl, Nat.le_refl _⟩
theorem lay_str {l : List Nat} (h : ∀ c ∈ l, c < 1114112) : Lay (.str (S l)) 0 := ⟨strOk_S h, Nat.le_refl _⟩
theorem lay_all {ds : List PyData} {n : Nat} (h : ∀ d ∈ ds, Lay d n) : LayL ds n := by
  induction ds with
  | nil => exact ⟨rfl, Nat.zero_le _⟩
  | cons d r ih =>
    have h1 := lay_cons (h d List.mem_cons_self) (ih fun x hx => h x (List.mem_cons_of_mem _ hx))
    rw [Nat.max_self] at h1
    exact h1
theorem dpAll_ints {K : PySem.W.Frag} {H : Hp} : ∀ xs : List Int, DpAll K H (xs.map V.int) (xs.map PyData.int)
  | [] => .nil
  | x :: r => .cons (.int x) (dpAll_ints r)
theorem dpAll_T {K : PySem.W.Frag} {H : Hp} : ∀ xs : List (List Nat), DpAll K H (xs.map T) (xs.map fun l => PyData.str (S l))
  | [] => .nil
  | x :: r => .cons (.str _) (dpAll_T r)
end RSD

/-! min(texts, key=lambda x: ..), the lambda with one parameter and captured names; list.count of texts. -/
namespace RMK
open PySem PySem.Spec PyProof.Rows L2 LamX NdefX RC
/-! ### list.count of texts -/
def isTx (z : Str) : Value → Bool
  | .str y _ => y == z
  | _ => false
theorem tx_gives {z : Str} {t : Tok} {A : Around} {s : Shared} : ∀ {xs : List (List Nat)} {us : List Value}, Vals (xs.map T) us → ∀ y ∈ us, SeqAt.EqAt A s y (.str z t) (isTx z y)
  | [], _, .nil, y, hy => by cases hy
  | x :: xs, _, .cons (b := u) r rr, y, hy => by
    rcases List.mem_cons.mp hy with e | e
    · subst e
      obtain ⟨t', rfl⟩ := (show ∃ t', y = Value.str (S x) t' from r)
      exact SeqAt.EqAt.str_str (S x) t' z t
    · exact tx_gives rr y e
theorem tx_count {c : List Nat} : ∀ {xs : List (List Nat)} {us : List Value}, Vals (xs.map T) us → us.countP (isTx (S c)) = xs.count c
  | [], _, .nil => rfl
  | x :: xs, _, .cons (b := u) r rr => by
    obtain ⟨t', rfl⟩ := (show ∃ t', u = Value.str (S x) t' from r)
    rw [List.countP_cons, List.count_cons, tx_count rr]
    congr 1
    show (if (S x == S c) = true then 1 else 0) = if (x == c) = true then 1 else 0
    by_cases h : x = c
    · subst h
      simp
    · have : S x ≠ S c := fun z => h (S_inj.mp z)
      simp [h, this]
def rCntT (K : PySem.W.Frag) : V → List V → Hp → VK → Prop := fun x xs H Q => ∃ (p : Addr) (ys : List (List Nat)) (c : List Nat), x = .ref p ∧ xs = [T c] ∧ SqL K H p (ys.map T) ∧ Q (.int ((ys.count c : Nat) : Int)) H
theorem mt_cntT {X : Cx} : MtR X "list.count" (rCntT X.K) := by
  intro pins s σ H x xs v us Q I rx rxs h
  obtain ⟨p, ys, c, rfl, rfl, hs, q⟩ := h
  obtain rfl : v = Value.ref p := rx
  obtain ⟨u, rfl, ru⟩ := rxs.one
  obtain ⟨t, rfl⟩ := (show ∃ t, u = Value.str (S c) t from ru)
  obtain ⟨its, rv, ⟨⟨cls, dd, data, sl⟩, n, ho, hc, hdn, hd⟩, hlen⟩ := I.list hs
  simp only at hc hd
  subst hc hd
  refine call_meets PySem.F.slot_list_count ⟨_, ho, rfl⟩ PySem.F.entry_list_count (PySem.F.args_list_count_2 _ _) (SeqAt.list_countAt p its.toArray n dd sl (.str (S c) t) (isTx (S c))) ⟨ho, fun y hy => tx_gives rv y (by simpa using hy), ?_⟩
  refine ⟨.int ((ys.count c : Nat) : Int), H, I.tok _, ⟨s.toks, ?_⟩, q⟩
  show Value.int ((its.toArray.toList.countP (isTx (S c)) : Nat) : Int) s.toks = Value.int ((ys.count c : Nat) : Int) s.toks
  rw [List.toList_toArray, tx_count rv]
/-! ### a lambda is called -/
section
variable {CX : CXT} {P : Program} {w : World} {K : PySem.W.Frag} {mg : Str → Option Value} {base : Heap} {N ps fr : List Str} {F : NF} {f : Addr} {A : Around} {outer : List Env} {s : Shared} {H : Hp} {E : XK} {us : List Value} {vs : List V} {ws : List (Option V)} {Q : VK} {k : Nat} {body : Expr} {te : TE} {params : Arguments} {pm ctv : Value}
theorem lam_call (SC : NScope N ps fr F.scope) (hb : bindArgs (PySem.W.kla_fn "<lambda>" F.qual params body F.scope F.cl pm (.ref F.c) ctv) ⟨us, []⟩ = pure (ps.zip us)) (hr : Room (k + 1) A) (e0 : Env0 P w K mg base A outer s H)
    (ho : s.heap.get? f = some (PySem.W.kla_obj "<lambda>" F.qual params body F.scope F.cl pm F.c ctv)) (hc : H F.c = some (CodeO F.c F.qual)) (C : CellsAt F.cl fr ws s.heap H) (r : Vals vs us) (hl : vs.length = ps.length)
    (pe : Room k (A.deeper (envF F f s.heap.objs.size)) → PE (ncx CX P w K mg base N F f A outer s H E) body te) (ht : te (startF N vs ws) H Q) : codeAny (model P w) A (.call (.ref f) ⟨us, []⟩) (CR CX outer P w H s Q E) s := by
  have lim : s.heap.NoLimit := e0.mod.nolimit.keeps fun b o e => (e0.bs b o e).1
  refine PySem.W.kla_callFunE hr.depth ho rfl SC.co SC.gen rfl (codeO_at e0.hok hc) ?_
  rw [hb]
  refine wpAny_pure (wpAny_newFunctionEnv SC.nocell (fun ⟨n, _⟩ hy => SC.par n (List.of_mem_zip hy).1) (fun h₁ hns hsb => ⟨lim.fresh _ hsb, ?_⟩) SC.kind)
  have old : ∀ b o, s.heap.get? b = some o → h₁.get? b = some o := fun b o e => hsb.extBut b o (Nat.ne_of_lt (Heap.lt_size e)) (Heap.get?_push_of_some _ e)
  have J := inv_startN (CX := CX) (E := E) (tk := s.toks + (ps.zip us).length) (f := f) SC hr.hd e0 hl r C hns old
  refine PySem.W.kla_codeExpr (env := envF F f s.heap.objs.size) (wpAny_mono ((pe (hr.deeper _)).run [] _ _ H Q J ht) (fun v s' hq => ?_) fun e s' hq => hq)
  obtain ⟨v', H', J', rv, q⟩ := hq
  exact ⟨v', H', J'.os, J'.bare, J'.base, J'.hok, rv, q⟩
end
/-! ### min with a key -/
section
variable {X : Cx} {pins : List (Addr × Obj)} {σ : L2.St} {H : Hp} {s s' : Shared} {l f I0 S0 : Addr} {ys : List (List Nat)} {kf : List Nat → Int}
/-- what min moves is not known -/
theorem inv_moved (I : Inv X pins σ H s) (h1 : FpOk X pins H I0) (h2 : FpOk X pins H S0) (m : Moved [S0, I0] (fun a b => b = a) s s') : Inv X pins σ H s' := by
  have off : ∀ {b : Addr}, b ∉ [S0, I0] → ∀ o, s.heap.get? b = some o → s'.heap.get? b = some o := fun hb o e => m.heap _ o hb e
  have un : ∀ {b : Addr} {u : HO}, H b = some u → b ∉ [S0, I0] := fun {b u} e z => by
    rcases List.mem_cons.mp z with z | z
    · rw [z, h2.1] at e
      cases e
    · rw [List.mem_singleton.mp z, h1.1] at e
      cases e
  refine I.call' m.os (ch := [S0, I0]) ⟨fun b o e _ _ hb => off hb o e, fun b o e _ _ hb => ⟨o.slots, off hb o e⟩, fun b o e n _ => n, fun b o e hb => ⟨o, off hb o e⟩, fun b xs e => e, fun b o u e => e, fun b ps e => ⟨#[], by rw [e]; simp⟩⟩ (fun b u e => ?_) ?_ fun b hb => ?_
  · refine (I.hok b u e).stay (fun c v hc q => off ?_ v q) (fun _ q => q) fun _ _ q => q
    rcases hc with z | z
    · rw [z]
      exact un e
    · exact un z
  · rw [show s'.gens = s.gens from m.gens]
    exact I.bare
  · rcases List.mem_cons.mp hb with z | z
    · rw [z]
      exact ⟨h2.2.2.2.1, h2.2.1, h2.2.2.2.2.1, h2.2.2.2.2.2⟩
    · rw [List.mem_singleton.mp z]
      exact ⟨h1.2.2.2.1, h1.2.1, h1.2.2.2.2.1, h1.2.2.2.2.2⟩
/-- the first one with the least key -/
def First (kf : List Nat → Int) (ys : List (List Nat)) (y : List Nat) : Prop := ∃ j : Nat, ys[j]? = some y ∧ ∀ (m : Nat) z, ys[m]? = some z → kf y ≤ kf z ∧ (m < j → kf y < kf z)
theorem best_first (num : Nat → Int) : ∀ k, argBest (fun i j => decide (num i < num j)) k ≤ k ∧ ∀ m, m ≤ k → num (argBest (fun i j => decide (num i < num j)) k) ≤ num m ∧ (m < argBest (fun i j => decide (num i < num j)) k → num (argBest (fun i j => decide (num i < num j)) k) < num m)
  | 0 => ⟨Nat.le_refl _, fun m hm => by
    have : m = 0 := by omega
    subst this
    exact ⟨Int.le_refl _, fun z => absurd z (Nat.lt_irrefl _)⟩⟩
  | k + 1 => by
    obtain ⟨h1, h2⟩ := best_first num k
    unfold argBest
    by_cases c : num (k + 1) < num (argBest (fun i j => decide (num i < num j)) k)
    · rw [if_pos (decide_eq_true c)]
      refine ⟨Nat.le_refl _, fun m hm => ?_⟩
      rcases Nat.lt_or_ge m (k + 1) with z | z
      · have := (h2 m (by omega)).1
        exact ⟨by omega, fun _ => by omega⟩
      · have : m = k + 1 := by omega
        subst this
        exact ⟨Int.le_refl _, fun z => absurd z (Nat.lt_irrefl _)⟩
    · rw [if_neg (by simpa using c)]
      refine ⟨by omega, fun m hm => ?_⟩
      rcases Nat.lt_or_ge m (k + 1) with z | z
      · exact h2 m (by omega)
      · have : m = k + 1 := by omega
        subst this
        exact ⟨by omega, fun z => by omega⟩
theorem vals_T : ∀ {xs : List (List Nat)} {us : List Value} {i : Nat} {v : Value}, Vals (xs.map T) us → us[i]? = some v → ∃ x t, xs[i]? = some x ∧ v = .str (S x) t
  | [], _, i, v, .nil, h => by simp at h
  | x :: xs, _, 0, v, .cons r rr, h => by
    obtain rfl := Option.some.inj h
    obtain ⟨t, h⟩ := (show ∃ t, _ = Value.str (S x) t from r)
    exact ⟨x, t, rfl, h⟩
  | x :: xs, _, i + 1, v, .cons r rr, h => vals_T (i := i) rr h
theorem min_key {fo : Obj} {Q : VK} (hh : X.A.handled = none) (I : Inv X (pins ++ [(f, fo)]) σ H s) (hl : SqL X.K H l (ys.map T)) (hne : 0 < ys.length)
    (turn : ∀ (y : List Nat), y ∈ ys → ∀ (s1 : Shared) (t : Tok), Inv X (pins ++ [(f, fo)]) σ H s1 → codeAny (model X.prog X.w) X.A.in1 (.call (.ref f) ⟨[.str (S y) t], []⟩) (CR C8.CX0 X.stack X.prog X.w H s1 (fun v H' => v = .int (kf y) ∧ H' = H) C8.E0) s1)
    (q : ∀ y, First kf ys y → Q (T y) H) : wpAny (model X.prog X.w) X.A (call (.builtin "min") [.ref l] [(Str.ofString "key", .ref f)]) (EP X pins σ Q) X.xe s := by
  have hn : H s.heap.objs.size = none := I.hok.fresh (Nat.le_refl _)
  obtain ⟨its, rv, ⟨ol, nl, hol, hcl, hdl, hdat⟩, hz⟩ := I.list hl
  have lt : l < s.heap.objs.size := Heap.lt_size hol
  have F0 : FpOk X (pins ++ [(f, fo)]) H s.heap.objs.size := I.fpOk (Nat.le_refl _) hn
  have len : ∀ {us : List Value}, Vals (ys.map T) us → us.toArray.size = ys.length := fun r => by
    have := r.length
    rw [List.length_map] at this
    rw [List.size_toArray]
    exact this.symm
  refine call_min_walkK (PySem.W.iter_listW (A := X.A.in1) hh ⟨ol, hol, hcl, nl, hdat⟩ fun s2 es2 _ hst hfp _ keep => ?_)
  have I2 : Inv X (pins ++ [(f, fo)]) σ H s2 := by
    subst es2
    exact I.kept (t' := s.toks) keep
  have FS : FpOk X (pins ++ [(f, fo)]) H s2.heap.objs.size := I2.fpOk (Nat.le_refl _) (I2.hok.fresh (Nat.le_refl _))
  have nofr : ∀ b, FpOk X (pins ++ [(f, fo)]) H b → b ∉ frs X.stack := fun b hb z => by
    rcases List.mem_cons.mp (I.stkSub b z) with e | e
    · exact hb.2.1 e
    · exact hb.2.2.1 e
  have Wu := fun us : List Value => (Walks.list (prog := X.prog) (w := X.w) (A := X.A.in1) hh s.heap.objs.size l (Nat.ne_of_lt lt) us.toArray).toS
  have W : WalksS X.prog X.w X.A.in1 s.heap.objs.size [s.heap.objs.size, l] [s.heap.objs.size] (fun a b => b = a) ys.length (fun i v => ∃ y t, ys[i]? = some y ∧ v = .str (S y) t) (fun i s1 => ∃ us : List Value, Vals (ys.map T) us ∧ s1.heap.IsListIter s.heap.objs.size l i ∧ s1.heap.IsList l us.toArray) :=
    { sub := (Wu its).sub
      grefl := (Wu its).grefl
      gtrans := (Wu its).gtrans
      frame := fun i s3 h' tk ⟨us, r, c⟩ ht hk => ⟨us, r, (Wu us).frame i s3 h' tk c ht hk⟩
      item := fun i s3 Q E hi ⟨us, r, c⟩ hQ => (Wu us).item i s3 Q E (by rw [len r]; exact hi) c fun v s4 hP h4 hm => hQ v s4 (vals_T r (by simpa using hP)) ⟨us, r, h4⟩ hm
      done := fun s3 Q E ⟨us, r, c⟩ hQ => (Wu us).done s3 Q E (by rw [len r]; exact c) hQ
      self := fun i s3 Q E ⟨us, r, c⟩ hQ => (Wu us).self i s3 Q E c hQ }
  refine ⟨s.heap.objs.size, _, _, _, _, _, _, fun s1 => Inv X (pins ++ [(f, fo)]) σ H s1, fun i k _ => ∃ t, k = .int (kf (ys.getD i [])) t, fun i j => decide (kf (ys.getD i []) < kf (ys.getD j [])), rfl, W, ⟨its, rv, hst⟩, hfp, hne, ?_, I2, fun v s1 hP J => ?_⟩
  · refine ⟨fun s3 s4 J m => inv_moved J F0 FS m, fun _ _ _ _ h _ => h, fun i v s3 o Q E hi hP J hst hS k => ?_, fun i j ki kj s3 Q E J h1 h2 hQ => ?_⟩
    · obtain ⟨y, t, hy, rfl⟩ := hP
      refine wpAny_call (codeAny_mono (turn y (List.mem_of_getElem? hy) s3 t J) fun r s4 hq => ?_)
      cases r with
      | error e => exact (show False from hq).elim
      | ok fl =>
        cases fl with
        | next => exact (show False from hq).elim
        | brk => exact (show False from hq).elim
        | cont => exact (show False from hq).elim
        | ret u =>
          have un : Un (frs X.stack) [] H H s3.heap s4.heap := by
            obtain ⟨_, _, _, _, un, _, _, _, e⟩ := hq
            rw [e] at un
            exact un
          obtain ⟨_, _, J4, ru, rfl, rfl⟩ := J.after hq
          obtain ⟨tk, rfl⟩ := (show ∃ t, u = Value.int (kf y) t from ru)
          obtain ⟨us, r, ⟨oI, e1, e2, e3⟩, li⟩ := hst
          obtain ⟨its4, rv4, ⟨o4, n4, h4, c4, _, d4⟩, _⟩ := J4.list hl
          exact k _ s4 J4 ⟨its4, rv4, ⟨oI, un.keep _ oI e1 F0.1 (nofr _ F0) (by simp), e2, e3⟩, ⟨o4, h4, c4, n4, d4⟩⟩ (un.keep _ o hS FS.1 (nofr _ FS) (by simp)) ⟨tk, by rw [List.getD, hy]; rfl⟩ fun _ _ h => h
    · exact CmpOf.ints_lt (prog := X.prog) (w := X.w) (A := X.A.in1) (P := fun i v => ∃ t, v = .int (kf (ys.getD i [])) t) (fun i => kf (ys.getD i [])) (fun i v h => h) i j _ _ _ _ _ h1 h2 hQ
  · obtain ⟨y, t, hy, rfl⟩ := hP
    refine ⟨T y, H, J.unpinned, ⟨t, rfl⟩, q y ⟨_, hy, fun m z hz => ?_⟩⟩
    have hb := (best_first (fun i => kf (ys.getD i [])) (ys.length - 1)).2 m (by have := (List.getElem?_eq_some_iff.mp hz).1; omega)
    have e1 : ys.getD (argBest (fun i j => decide (kf (ys.getD i []) < kf (ys.getD j []))) (ys.length - 1)) [] = y := by rw [List.getD, hy]; rfl
    have e2 : ys.getD m [] = z := by rw [List.getD, hz]; rfl
    simp only [e1, e2] at hb
    exact hb
end
/-! ### min(texts, key=lambda a: .. b ..) -/
/-- all the tables hold still what they held, all else is kept: then the first with the least key -/
def tMinK (TL : List (Addr × Str)) (i : Nat) (ta : TA) : TE := fun σ H Q => ta σ H fun vs H1 => Tabs TL H1 ∧ ∃ (l g : Addr) (ys xs : List (List Nat)), vs = [.ref l] ∧ H1 l = some (.lst (ys.map T)) ∧ 0 < ys.length ∧ σ[i]? = some (some (.ref g)) ∧ H1 g = some (.lst (xs.map T)) ∧
  ∀ (H2 : Hp) (y : List Nat), ExtN H1 H2 → Tabs TL H2 → First (fun z => -((xs.count z : Nat) : Int)) ys y → Q (T y) H2
section
variable {X : Cx} {TL : List (Addr × Str)} {c P : Addr} {params : Arguments} {body e : Expr} {scope : Scope} {lp kp p1 pos : Pos} {ta : TA} {te : TE} {i k : Nat} {a b : Str}
theorem pe_minKey (hg : Gl X "min") (hm : X.mg "min" = none) (hv : bootBuiltins "min" = some (.builtin "min")) (ha : PA X [e] ta) (TB : TabB X.base X.mg c P) (hcode : X.env.code = .ref c) (hmT : (P, X.env.qual ++ "<lambda>") ∈ TL) (hu : ∀ p ∈ TL, p.1 = P → p.2 = X.env.qual ++ "<lambda>")
    (hr : Room (k + 2) X.A) (SC : NScope [a, b] [a] [b] scope) (hfree : ∀ y ∈ scope.names, y.2 = .free → X.env.scope.names.lookup y.1 = some .cell ∨ X.env.scope.names.lookup y.1 = some .free) (hfr : (b, NameKind.free) ∈ scope.names) (hi : X.N[i]? = some b)
    (hdef : defaultsOf params X.env = ([], [])) (hbind : ∀ (q : Str) (cl : List (Str × Addr)) (pm cv ctv u : Value), bindArgs (PySem.W.kla_fn "<lambda>" q params body scope cl pm cv ctv) ⟨[u], []⟩ = pure [(a, u)])
    (hbody : ∀ (q : Str) (cl : List (Str × Addr)) (c' f : Addr) (A : Around) (outer : List Env) (s : Shared) (H : Hp), Room k (A.deeper (envF ⟨"<lambda>", q, params, [], scope, cl, c'⟩ f s.heap.objs.size)) → PE (ncx C8.CX0 X.prog X.w X.K X.mg X.base [a, b] ⟨"<lambda>", q, params, [], scope, cl, c'⟩ f A outer s H C8.E0) body te)
    (hte : ∀ (y : List Nat) (g : Addr) (xs : List (List Nat)) (H : Hp) (Q : VK), H g = some (.lst (xs.map T)) → Q (.int (-((xs.count y : Nat) : Int))) H → te (startF [a, b] [T y] [some (.ref g)]) H Q)
    (he : backTo pos (starEach [e] X.env) = (false, eval e X.env) :: backTo pos (starEach [] X.env) := by rfl) (hpl : (backTo pos (starEach [e] X.env)).any (·.1) = false := by rfl) :
    PE X (.Call (.Name "min" p1) [e] [⟨some "key", .Lambda params body scope lp, kp⟩] pos) (tMinK TL i ta) := by
  refine ⟨fun pins s σ H Q I h => ?_⟩
  refine wpAny_Call_Name_kw (ld_blt I hg hm hv ?_)
  refine callWith_kw (thn (ha.run pos pins s σ H _ I h) fun us s1 ⟨vs, H1, I1, r1, hT, l, g, ys, xs, ev, hl, hne, hσ, hgx, q⟩ => ?_) he hpl
  subst ev
  obtain ⟨u, rfl, ru⟩ := r1.one
  obtain rfl : u = Value.ref l := ru
  have hf : ∀ y ∈ scope.names, y.2 = .free → ∃ c, X.env.cells.lookup y.1 = some c := fun y hy z => (hfree y hy z).elim (fun w => I.ok.has _ (.inl w)) fun w => I.ok.has _ (.inr w)
  refine kws_cons (lam_make2 I1 TB hcode hmT hu hT hdef hf fun f c' pm ctv H2 s2 I2 eN T2 ho hfn hfs hco => kws_nil ?_)
  show wpAny _ _ (call (.builtin "min") [.ref l] [(Str.ofString "key", .ref f)]) _ _ _
  have keepL : ∀ {b : Addr} {zs : List V}, H1 b = some (.lst zs) → H2 b = some (.lst zs) := fun e => eN _ _ e fun ps z => by cases z
  have IP : Inv X (pins ++ [(f, PySem.W.kla_obj "<lambda>" (X.env.qual ++ "<lambda>") params body scope (cloFrom X.env.cells scope.names []) pm c' ctv)]) σ H2 s2 := I2.pins_of fun p hp => by
    rcases List.mem_append.mp hp with hp | hp
    · exact I2.pin p (List.mem_append_right _ hp)
    · rw [List.mem_singleton.mp hp]
      refine ⟨ho, hfn, fun z => ?_, fun z => hfs ?_, fun v z => by cases z⟩
      · obtain ⟨m, ⟨o, es, ep, e1, e2, _⟩, _⟩ := I2.loc
        rw [← z] at e1
        have e1 := ho.symm.trans e1
        cases e1
        cases e2
      · rcases I.ok.stk with w | ⟨w, _⟩
        · rw [w]
          exact z
        · rw [w]
          unfold frs
          rw [List.filterMap_cons]
          split
          · exact z
          · exact List.mem_cons_of_mem _ z
  refine min_key (kf := fun z => -((xs.count z : Nat) : Int)) hr.hd IP (SqL.of (keepL hl)) hne (fun y hy s3 t J => ?_) fun y hy => q H2 y eN T2 hy
  have cp : Caps X (cloFrom X.env.cells scope.names []) [b] [i] := Caps.made I.ok hfree (fun y hy => by rw [List.mem_singleton.mp hy]; exact hfr) (by rw [List.map_cons, hi]; rfl)
  have C := cells_of J cp
  have e1 : [i].map (slotAt σ) = [some (.ref g)] := by
    show [slotAt σ i] = _
    rw [slotAt_of hσ]
  rw [e1] at C
  have hfo := (J.pin (f, PySem.W.kla_obj "<lambda>" (X.env.qual ++ "<lambda>") params body scope (cloFrom X.env.cells scope.names []) pm c' ctv) (List.mem_append_right _ (List.mem_append_right _ List.mem_cons_self))).1
  exact lam_call (vs := [T y]) (F := ⟨"<lambda>", X.env.qual ++ "<lambda>", params, [], scope, cloFrom X.env.cells scope.names [], c'⟩) SC (hbind _ _ _ _ _ _) hr.in1 J.env0.in1 hfo hco C (.cons ⟨t, rfl⟩ .nil) rfl (fun hr2 => hbody _ _ _ f _ _ _ _ hr2) (hte y g xs H2 _ (keepL hgx) ⟨rfl, rfl⟩)
end
end RMK

/-! The end of a law in whose program one def makes a lambda: the table of that def's code object is known, empty. -/
namespace RMT
open PySem PySem.Spec PyProof.Rows L2 LamX RGU
/-- the code object of the def that stands at f -/
def CodeOf (K : PySem.W.Frag) (f : Addr) (cdv : Value) : Prop := ∃ oc od fd sl, K.lookup f = some ⟨oc, od, .func fd, sl⟩ ∧ fd.code = cdv
/-- what is known of the def nm, of its code object and its table -/
structure TabX (K : PySem.W.Frag) (mg : Str → Option Value) (base : Heap) (nm : Str) (c P : Addr) : Prop where
  tb : TabB base mg c P
  code : ∀ f cdv, mg nm = some (.ref f) → CodeOf K f cdv → cdv = .ref c
/-- one run of a def of the text, by its body, its code object told -/
theorem run_defC {CX : CXT} {P : Program} {w : World} {K : PySem.W.Frag} {mg : Str → Option Value} {base : Heap} {k : Nat} {f : Addr} {fd : FuncData} {x : Str} {st : Stmt} {N ps : List Str} {A : Around} {outer : List Env} {s : Shared} {H : Hp} {ar : Args} {us : List Value} {vs : List V} {Q : VK} {E : XK}
    (F : Fun K x x st f fd) (sc : FnScope N ps (defScope st)) (rm : Room (k + 1) A) (ev : Env0 P w K mg base A outer s H) (bd : BindsTo s fd ar (ps.zip us)) (vv : Vals vs us) (ln : vs.length = ps.length)
    (bo : ∀ cdv, CodeOf K f cdv → Room k (A.deeper (envOfC x (defScope st) s.heap.objs.size f cdv)) → ∃ t, PSs (cxOf CX P w K mg base N x (defScope st) f cdv A outer s H E) (defBody st) t ∧ t { nx := fun _ H' => Q .non H', rt := Q } (start N vs) H) :
    codeAny (model P w) A (.call (.ref f) ar) (CR CX outer P w H s Q E) s := by
  obtain ⟨_, _, _, _, _, _, cdv, _, _, rfl, look, code⟩ := F.ex
  have kin : K.In s.heap := ev.mod.kin.keeps fun b o hb => (ev.bs b o hb).1
  obtain ⟨t, body, reading⟩ := bo cdv ⟨_, _, _, _, look, rfl⟩ (rm.deeper _)
  have kinds : ∀ y ∈ ps.zip us, (defScope st).names.lookup y.1 = some .local ∨ ((defScope st).names.lookup y.1 = some .cell ∧ ((cellsFrom (s.heap.objs.size + 1) (defScope st).names []).lookup y.1).isSome = true) := by
    rintro ⟨n, u⟩ hy
    exact (sc.par n (List.of_mem_zip hy).1).imp id fun q => ⟨q, PySem.W.cellsFrom_some _ _ _ (.inl q)⟩
  apply codeAny_call_function rm.depth (kin _ _ look) rfl sc.co sc.gen rfl (PySem.W.codeRec_of kin code)
  apply bd
  refine wpAny_newFunctionEnv_cells sc.kind kinds fun env he s1 inC => ?_
  subst he
  refine ⟨(ev.mod.nolimit.keeps fun b o hb => (ev.bs b o hb).1).keeps inC.toInCall.keep, codeAny_func ?_⟩
  refine wpAny_mono (body.run [] s1 _ H _ (inv_start sc rm.hd ev ln vv inC) reading) ?_ fun _ _ z => z
  intro fl s2 z
  cases fl with
  | next => obtain ⟨σ2, H2, J, q⟩ := z; exact ⟨.non, H2, J.os, J.bare, J.base, J.hok, rfl, q⟩
  | ret u => obtain ⟨v, σ2, H2, J, r, q⟩ := z; exact ⟨v, H2, J.os, J.bare, J.base, J.hok, r, q⟩
  | brk => obtain ⟨_, _, _, q⟩ := z; exact q.elim
  | cont => obtain ⟨_, _, _, q⟩ := z; exact q.elim
section
variable {P : Program} {w : World} {K : PySem.W.Frag} {mg mb : Str → Option Value} {k : Nat} {fa a c T : Addr} {fd : FuncData} {x : Str} {sp : Sp} {s : Shared} {us : List Value} {ns : List Int}
theorem law_callGT (kin : K.In s.heap) (hns : s.heap.Ns mainGlobals mg) (hb : s.heap.Ns builtinsNs mb) (hbb : ∀ x : Str, x ≠ "__name__" → mb x = bootBuiltins x) (hlim : s.heap.NoLimit) (hg : s.gens = #[])
    (hT : s.heap.TableAt c T #[]) (hc : PySem.W.CodeHd s.heap c T) (nT : K.lookup T = none) (hbm : ∃ bm ob, mg "__builtins__" = some (.ref bm) ∧ bm ≠ builtinsNs ∧ s.heap.get? bm = some ob ∧ ob.cls = .type "module" ∧ ob.dict = some builtinsNs ∧ ob.data = .plain)
    (la : s.heap.get? a = some { cls := .type "list", data := .seq us.toArray }) (hi : IntsAre us ns) (hl : ns.length ≤ sizeLine) (rm : Room k callerA)
    (F : ∀ base : Heap, K.In base → base.Ns mainGlobals mg → TabB base mg c T → LawOk P w K mg base k fa fd [x] sp) (bd : ∀ (s : Shared) (u : Value), BindsTo s fd ⟨[u], []⟩ [(x, u)])
    (hsp : ∀ H : Hp, H T = some (.tbl #[]) → SqL K H a (ns.map V.int) → sp [.ref a] H (fun v _ => v = .bl true) fun _ _ _ => False) :
    codeAny (model P w) callerA (.call (.ref fa) ⟨[.ref a], []⟩) (fun r s' => r = .ok (.ret (.bool true)) ∧ OldK s.heap s'.heap ∧ s'.os = s.os ∧ AllBare s'.gens) s := by
  obtain ⟨G, only, sq, hok, own⟩ := scripted (P := P) (w := w) kin la hi hl
  have tT : s.heap.get? T = some { cls := .none, data := .fields #[] } := hT.2
  have nTa : T ≠ a := fun z => by
    rw [z] at tT
    have := tT.symm.trans la
    cases this
  have gT : G T = none := by
    rcases e : G T with _ | u
    · rfl
    · exact absurd (own T u e).1 nTa
  have up : ∀ {b : Addr} {u : HO}, G b = some u → upd G T (.tbl #[]) b = some u := fun {b u} e => by
    rw [upd_ne fun z => by rw [z, gT] at e; cases e]
    exact e
  have frees : ∀ b o, s.heap.get? b = some o → (∀ vs n, o.data ≠ .seq vs n) → o.data ≠ .fields #[] → upd G T (.tbl #[]) b = none := fun b o e d1 d2 => by
    have n1 : b ≠ T := fun z => by
      rw [z, tT] at e
      cases e
      exact d2 rfl
    rw [upd_ne n1]
    rcases c : G b with _ | u
    · rfl
    · obtain ⟨rfl, _⟩ := own b u c
      rw [la] at e
      cases e
      exact absurd rfl (d1 _ _)
  have keepK : K.In (hidT s.heap (upd G T (.tbl #[]))) := fun b o e => hidT_get (kin b o e) (by
    have n1 : b ≠ T := fun z => by
      rw [z, nT] at e
      cases e
    rw [upd_ne n1]
    rcases c : G b with _ | u
    · rfl
    · obtain ⟨rfl, n⟩ := own b u c
      rw [n] at e
      cases e)
  have keepN : ∀ {b : Addr} {m : Str → Option Value}, s.heap.Ns b m → (hidT s.heap (upd G T (.tbl #[]))).Ns b m := fun {b m} ⟨o, es, ep, e, d, r⟩ => ⟨o, es, ep, hidT_get e (frees b o e (fun _ _ z => by rw [d] at z; cases z) fun z => by rw [d] at z; cases z), d, r⟩
  have nG : mainGlobals ≠ T := fun z => by
    obtain ⟨o, es, ep, e, d, _⟩ := hns
    rw [z, tT] at e
    cases e
    cases d
  have tb : TabB (hidT s.heap (upd G T (.tbl #[]))) mg c T := by
    refine ⟨?_, ?_, nG⟩
    · obtain ⟨o, vs, file, tf, flags, tg, inF, text, tt, e1, e2, e3, e4, r⟩ := hc
      refine ⟨o, vs, file, tf, flags, tg, inF, text, tt, hidT_get e1 (frees _ _ e1 (fun _ _ z => by rw [e3] at z; cases z) fun z => ?_), e2, e3, e4, r⟩
      rw [e3] at z
      have z := congrArg (fun d => match d with | Data.fields v => v | _ => #[]) z
      have z : vs = #[] := z
      rw [z] at e4
      simp at e4
    · obtain ⟨bm, ob, b1, b2, b3, b4, b5, b6⟩ := hbm
      refine ⟨bm, ob, b1, b2, fun z => ?_, fun z => ?_, hidT_get b3 (frees _ _ b3 (fun _ _ z => by rw [b6] at z; cases z) fun z => by rw [b6] at z; cases z), b4, b5, b6⟩
      · obtain ⟨o, es, ep, e, d, _⟩ := hns
        rw [← z, b3] at e
        cases e
        rw [b6] at d
        cases d
      · rw [z, tT] at b3
        cases b3
        cases b6
  have hokT : HOk P w (upd G T (.tbl #[])) s.heap := fun b u e => by
    by_cases z : b = T
    · subst z
      rw [upd_same] at e
      cases e
      exact tT
    · rw [upd_ne z] at e
      exact (hok b u e).stay (fun _ _ _ q => q) (fun _ q => up q) fun _ _ q => up q
  obtain ⟨mc, lim1, lim2⟩ := hlim
  have env : Env0 P w K mg (hidT s.heap (upd G T (.tbl #[]))) callerA [] s (upd G T (.tbl #[])) := ⟨rfl, ⟨keepK, keepN hns, ⟨mb, keepN hb, hbb⟩, mc, keepN lim1, lim2⟩, fun _ _ e => of_hidT e, by rw [hidT_size]; exact Nat.le_refl _, trivial, fun b z => (by cases z), hokT, .of_eq hg⟩
  have sqT : SqL K (upd G T (.tbl #[])) a (ns.map V.int) := Evl.ex_l (fun b o e => up e) sq
  refine codeAny_mono (F _ keepK (keepN hns) tb s _ ⟨[.ref a], []⟩ [.ref a] [.ref a] _ _ rm env (bd s (.ref a)) (.cons rfl .nil) (hsp _ upd_same sqT)) ?_
  intro res s2 z
  cases res with
  | error e => exact z.elim
  | ok fl =>
  cases fl with
  | next => exact z.elim
  | brk => exact z.elim
  | cont => exact z.elim
  | ret u =>
    obtain ⟨v, H2, os, bare, un, hok2, rv, q⟩ := z
    have q' : v = .bl true := q
    subst q'
    obtain rfl : u = Value.bool true := rv
    have rest : ∀ b o, b ≠ T → s.heap.get? b = some o → s2.heap.get? b = some o := fun b o n e => by
      have un1 : upd G T (.tbl #[]) b = G b := upd_ne n
      rcases c : G b with _ | u
      · exact un.keep b o e (by rw [un1]; exact c) (fun z => by cases z) (fun z => by cases z)
      · rcases only b with z | ⟨ob, xs, z⟩
        · rw [c] at z
          cases z
        · have h1 := (hok b _ z).1
          have h2 := (hok2 b _ (un.frzs b ob _ (up z))).1
          rw [e] at h1
          rw [Option.some.inj h1]
          exact h2
    obtain ⟨more, zT⟩ := un.tbls T #[] upd_same
    have gotT : s2.heap.get? T = some { cls := .none, data := .fields (#[] ++ more) } := hok2 T _ zT
    refine ⟨rfl, ⟨fun b o e => ?_, fun b o e => ?_⟩, os, bare⟩
    · by_cases n : b = T
      · subst n
        rw [tT] at e
        cases e
        exact .inr (.inl ⟨hT.isCodeTable, rfl, #[], more, rfl, gotT⟩)
      · exact .inl (rest b o n e)
    · by_cases n : b = T
      · subst n
        exact ⟨_, gotT⟩
      · exact ⟨o, rest b o n e⟩
end
/-- a def's promise, its code object told -/
theorem okC {P : Program} {w : World} {K : PySem.W.Frag} {mg : Str → Option Value} {base : Heap} {x : Str} {st : Stmt} {N ps : List Str} {k : Nat} {sp : Sp} (F : RC.At K mg x st ps) (sc : FnScope N ps (defScope st)) (ln : ∀ vs H Q E, sp vs H Q E → vs.length = ps.length)
    (bo : ∀ (f : Addr) (cdv : Value) (A : Around) (outer : List Env) (s : Shared) (H : Hp) (vs : List V) (Q : VK) (E : XK), mg x = some (.ref f) → CodeOf K f cdv → Room k (A.deeper (envOfC x (defScope st) s.heap.objs.size f cdv)) → sp vs H Q E →
      ∃ t, PSs (cxOf CX0 P w K mg base N x (defScope st) f cdv A outer s H E).nox (defBody st) t ∧ t { nx := fun _ H' => Q .non H', rt := Q } (start N vs) H) : RC.Has P w K mg base CX0 (k + 1) x ps sp := by
  obtain ⟨f, fd, h1, h2, h3⟩ := F.ex
  exact ⟨f, fd, ⟨ln, fun A outer s H ar us vs Q E rm ev bd vv hs => run_defC h1 sc rm ev bd vv (ln _ _ _ _ hs) fun cdv hc r => by
    obtain ⟨t, g1, g2⟩ := bo f cdv A outer s H vs Q E h2 hc r hs
    exact ⟨t, g1.nox, g2⟩⟩, h2, h1.kp, h3⟩
/-- the end, for a law whose own text shows lists and tuples, the def nm making a lambda -/
theorem walk_ofGT {l : PySem.W.OpenLaw} {n k : Nat} {q : Program} {loose : List Str} {XP : (Str → Option Value) → Heap → Prop} {YP : World → Heap → Prop} {d : DefRec} {K : Params → PySem.W.Frag} {sp : World → Addr → Sp} {x nm : Str}
    (hn : l.most = some n) (hn2 : n ≤ sizeLine) (hdf : d.params.defaults = []) (hr : Room k callerA) (hrec : ((recsOf q).any fun e => e.name == nm) = true) (hY : ∀ (w : World) (h : Heap), YP w h → (K w.params).In h)
    (F : ∀ (w : World) (mg : Str → Option Value) (fa : Addr) (h : Heap), (K w.params).In h → h.Ns mainGlobals mg → mg d.name = some (.ref fa) → ∀ (ft c T : Addr) (o : Obj) (ft0 : FuncData), mg nm = some (.ref ft) → h.get? ft = some o → o.data = .func ft0 → ft0.code = .ref c → PySem.W.CodeHd h c T →
      (K w.params).lookup T = none ∧ ∃ fd : FuncData, (∀ (s : Shared) (u : Value), BindsTo s fd ⟨[u], []⟩ [(x, u)]) ∧ ∀ base : Heap, (K w.params).In base → base.Ns mainGlobals mg → TabB base mg c T → LawOk l.prog w (K w.params) mg base k fa fd [x] (sp w T))
    (hsp : ∀ (w : World) (T : Addr) (H : Hp) (a : Addr) (ns : List Int), ns.length ≤ n → H T = some (.tbl #[]) → SqL (K w.params) H a (ns.map V.int) → sp w T [.ref a] H (fun v _ => v = .bl true) fun _ _ _ => False) :
    PySem.W.WalkO q loose XP YP l.row.toRowW d [] (fun f vs => PySem.call f vs) := by
  refine Att.attach_call hn hdf fun w s0 s1 mg mb fa o pm cd doc a us ns G Y _ _ _ hmg la hi hlen gens => ?_
  obtain ⟨e, he, hname⟩ := List.any_eq_true.mp hrec
  obtain ⟨ft, ot, ft0, c, T, h1, h2, h3, h4, h5, h6⟩ := G.T.tab e he
  rw [beq_iff_eq.mp hname] at h1
  have cd : PySem.W.CodeHd s1.heap c T := .of h5 h6
  obtain ⟨nT, fd, bd, F'⟩ := F w mg fa _ (hY w _ Y) G.T.g hmg ft c T ot ft0 h1 h2 h3 h4 cd
  exact law_callGT (hY w _ Y) G.T.g G.T.b G.T.builtins G.T.nolimit gens h6 cd nT G.T.bmain la hi (Nat.le_trans hlen hn2) hr F' bd fun H hH sq => hsp w T H a ns hlen hH sq
end RMT

namespace X
open PySem PySem.Spec PyProof.Rows L2 Evl TL RC RA RD RE RF RG RH RI RJ RL RS RP RQ RR RT RDI RU RV RX RY RZ1 RM RSU RPL RPI RLT RGU RSH RSD RMK RMT
def top (i : Nat) : Stmt := PySem.Challenge.pw_rimprints_k48_fewest_spoilt.main.body.getD i (.Pass ⟨0, 0, 0, 0⟩)
abbrev s_need_seen : Stmt := top 8
theorem sc_need_seen : FnScope ["thing", "sign"] ["thing"] (defScope s_need_seen) := ⟨rfl, rfl, rfl, by decide +kernel, rfl, by decide +kernel, by decide +kernel⟩
abbrev s_need_length : Stmt := top 9
theorem sc_need_length : FnScope ["thing"] ["thing"] (defScope s_need_length) := ⟨rfl, rfl, rfl, by decide +kernel, rfl, by decide +kernel, by decide +kernel⟩
abbrev s_seen_at : Stmt := top 10
theorem sc_seen_at : FnScope ["seen", "length", "place", "sign"] ["seen", "length", "place"] (defScope s_seen_at) := ⟨rfl, rfl, rfl, by decide +kernel, rfl, by decide +kernel, by decide +kernel⟩
abbrev s_rim_of : Stmt := top 11
theorem sc_rim_of : FnScope ["seen", "length", "rim", "place", "signs"] ["seen", "length"] (defScope s_rim_of) := ⟨rfl, rfl, rfl, by decide +kernel, rfl, by decide +kernel, by decide +kernel⟩
abbrev s_rim_for : Stmt := top 12
theorem sc_rim_for : FnScope ["seen", "length"] ["seen", "length"] (defScope s_rim_for) := ⟨rfl, rfl, rfl, by decide +kernel, rfl, by decide +kernel, by decide +kernel⟩
abbrev s_most_seen : Stmt := top 13
theorem sc_most_seen : FnScope ["signs", "best"] ["signs"] (defScope s_most_seen) := ⟨rfl, rfl, rfl, by decide +kernel, rfl, by decide +kernel, by decide +kernel⟩
abbrev s_spoilt_of : Stmt := top 14
theorem sc_spoilt_of : FnScope ["seen", "length", "places", "place", "sign", "spoilt"] ["seen", "length"] (defScope s_spoilt_of) := ⟨rfl, rfl, rfl, by decide +kernel, rfl, by decide +kernel, by decide +kernel⟩
abbrev s_spoilt_for : Stmt := top 15
theorem sc_spoilt_for : FnScope ["seen", "length"] ["seen", "length"] (defScope s_spoilt_for) := ⟨rfl, rfl, rfl, by decide +kernel, rfl, by decide +kernel, by decide +kernel⟩
abbrev s_least_spoilt : Stmt := top 16
theorem sc_least_spoilt : FnScope ["seen", "most", "best", "length", "spoilt", "rim"] ["seen", "most"] (defScope s_least_spoilt) := ⟨rfl, rfl, rfl, by decide +kernel, rfl, by decide +kernel, by decide +kernel⟩
abbrev s_law_bag : Stmt := top 18
theorem sc_law_bag : FnScope ["script", "total", "cell"] ["script"] (defScope s_law_bag) := ⟨rfl, rfl, rfl, by decide +kernel, rfl, by decide +kernel, by decide +kernel⟩
abbrev s_law_stir : Stmt := top 19
theorem sc_law_stir : FnScope ["number", "place", "one", "two"] ["number", "place"] (defScope s_law_stir) := ⟨rfl, rfl, rfl, by decide +kernel, rfl, by decide +kernel, by decide +kernel⟩
abbrev s_law_draw : Stmt := top 20
theorem sc_law_draw : FnScope ["bag", "many", "cell", "found"] ["bag", "many"] (defScope s_law_draw) := ⟨rfl, rfl, rfl, by decide +kernel, rfl, by decide +kernel, by decide +kernel⟩
abbrev s_law_rim : Stmt := top 22
theorem sc_law_rim : FnScope ["bag", "most", "size", "kind", "at", "signs", "k"] ["bag", "most"] (defScope s_law_rim) := ⟨rfl, rfl, rfl, by decide +kernel, rfl, by decide +kernel, by decide +kernel⟩
abbrev s_law_seen : Stmt := top 23
theorem sc_law_seen : FnScope ["bag", "most", "size", "rim", "hidden", "spoilt", "any_signs", "found", "place", "sign"] ["bag", "most"] (defScope s_law_seen) := ⟨rfl, rfl, rfl, by decide +kernel, rfl, by decide +kernel, by decide +kernel⟩
abbrev s_law_due : Stmt := top 24
theorem sc_law_due : FnScope ["seen", "length", "spoilt", "rim", "place", "best", "whole", "sign", "many", "at"] ["seen", "length"] (defScope s_law_due) := ⟨rfl, rfl, rfl, by decide +kernel, rfl, by decide +kernel, by decide +kernel⟩
abbrev s_law : Stmt := top 25
theorem sc_law : FnScope ["script", "bag", "turn", "seen", "most", "best", "length", "spoilt", "rim"] ["script"] (defScope s_law) := ⟨rfl, rfl, rfl, by decide +kernel, rfl, by decide +kernel, by decide +kernel⟩
/-- what the top leaves -/
structure Txt (K : PySem.W.Frag) (mg : Str → Option Value) : Prop where
  a_need_seen : At K mg "need_seen" s_need_seen ["thing"]
  a_need_length : At K mg "need_length" s_need_length ["thing"]
  a_seen_at : At K mg "seen_at" s_seen_at ["seen", "length", "place"]
  a_rim_of : At K mg "rim_of" s_rim_of ["seen", "length"]
  a_rim_for : At K mg "rim_for" s_rim_for ["seen", "length"]
  a_most_seen : At K mg "most_seen" s_most_seen ["signs"]
  a_spoilt_of : At K mg "spoilt_of" s_spoilt_of ["seen", "length"]
  a_spoilt_for : At K mg "spoilt_for" s_spoilt_for ["seen", "length"]
  a_least_spoilt : At K mg "least_spoilt" s_least_spoilt ["seen", "most"]
  a_law_bag : At K mg "_law_bag" s_law_bag ["script"]
  a_law_stir : At K mg "_law_stir" s_law_stir ["number", "place"]
  a_law_draw : At K mg "_law_draw" s_law_draw ["bag", "many"]
  a_law_rim : At K mg "_law_rim" s_law_rim ["bag", "most"]
  a_law_seen : At K mg "_law_seen" s_law_seen ["bag", "most"]
  a_law_due : At K mg "_law_due" s_law_due ["seen", "length"]
  c_LONGEST_RIM : ∃ t, mg "LONGEST_RIM" = some (.int (40) t)
  c_SEEN_SIGNS : ∃ t, mg "SEEN_SIGNS" = some (.str "abcdefghijklmnopqrstuvwxyz.?" t)
  c_UNSEEN : ∃ t, mg "UNSEEN" = some (.str "?" t)
  n_bool : mg "bool" = none
  n_int : mg "int" = none
  n_isinstance : mg "isinstance" = none
  n_len : mg "len" = none
  n_list : mg "list" = none
  n_min : mg "min" = none
  n_range : mg "range" = none
  n_repr : mg "repr" = none
  n_set : mg "set" = none
  n_sorted : mg "sorted" = none
  n_str : mg "str" = none
  n_sum : mg "sum" = none
end X

namespace X
open PySem PySem.Spec PyProof.Rows L2 Evl TL RC RA RD RE RF RG RH RI RJ RL RS RP RQ RR RT RDI RU RV RX RY RZ1 RM RSU RPL RPI RLT RGU RSH RSD RMK RMT
section
variable {P : Program} {w : World} {K : PySem.W.Frag} {mg : Str → Option Value} {base : Heap}
/-! ### need_seen, need_length -/
def sp_need_seen (K : PySem.W.Frag) : Sp := fun vs H Q _ => ∃ l, vs = [T l] ∧ Seen l ∧ RetV .non H Q
theorem ok_need_seen (TX : Txt K mg) : Has P w K mg base CX0 1 "need_seen" ["thing"] (sp_need_seen K) := by
  refine TX.a_need_seen.ok sc_need_seen (fun vs H Q E h => ?_) (fun f cdv A outer s H vs Q E hr h => ?_)
  · obtain ⟨l, rfl, _⟩ := h
    rfl
  obtain ⟨l, rfl, h⟩ := h
  refine ⟨_, (pss_one (ps_if (PW.pt (pw_or (pt_not (pt_val (pe_callB (r := rIsi K) call_isi (by rfl) TX.n_isinstance bt_isinstance (pa_cons (pv 0) (pa_cons (pe_bltn (v := .ty "str") (by rfl) TX.n_str bt_str rfl) pa_nil))))) (pw_or (pt_cmpR op_eq (pv 0) pe_str (nomark _)) (pw_or1 (pt_cmpR (op_neD hr.units) (pe_lc (own := [("sign", 1)]) (by rfl) sc_need_seen.nd (pi_str (pv 0)) (blkOk_by (N := ["thing", "sign"]) (sc := defScope s_need_seen) (by decide +kernel)) (fun _ _ _ _ _ => (pg_name (i := 1) sc_need_seen.nd rfl (Or.inl rfl))) (fun _ _ _ _ _ => (pts_one (pt_cmpR op_notInT (pv 1) (pe_gs TX.c_SEEN_SIGNS) rfl))) (fun _ _ _ _ _ => (pv 1))) (pe_lst pa_nil) (nomark _)))))) (pss_one ps_never) pss_nil)), ?_⟩
  obtain ⟨⟨h1, h2, h3⟩, h⟩ := h
  have e3 : l.filter (fun c => !decide (c ∈ SIGNS)) = [] := List.filter_eq_nil_iff.mpr fun c hc => by simp [h3 c hc]
  refine s_when (et_or (et_not (et_B (ev_isiT (ev_var rfl)))) fun _ => et_or (et_test (ev_eqT (ev_var rfl) (ev_s [] (by decide +kernel)))) fun _ => et_test
    (ev_neLL (zs := []) (el_to (el_lcStr (fun c => !decide (c ∈ SIGNS)) (fun c => T [c]) (ev_var rfl) (by omega) (fun _ => rfl) (fun c H1 _ _ => et_test (ev_notInT (ev_var rfl) (ev_s SIGNS (by decide +kernel)))) (fun c H1 _ _ _ => ev_var rfl)) (by rw [e3]; rfl : _ = ([] : List (List Nat)).map T))
      el_nil (fun y hy => by simp at hy) (fun y hy => by simp at hy))) (fun hb H1 e1 => ?_) (fun hb H1 e1 => h.go e1)
  simp [h1] at hb
def sp_need_length (K : PySem.W.Frag) : Sp := fun vs H Q _ => ∃ i : Int, vs = [.int i] ∧ (1 ≤ i ∧ i ≤ 40) ∧ RetV .non H Q
theorem ok_need_length (TX : Txt K mg) : Has P w K mg base CX0 1 "need_length" ["thing"] (sp_need_length K) := by
  refine TX.a_need_length.ok sc_need_length (fun vs H Q E h => ?_) (fun f cdv A outer s H vs Q E hr h => ?_)
  · obtain ⟨i, rfl, _⟩ := h
    rfl
  obtain ⟨i, rfl, h⟩ := h
  refine ⟨_, (pss_one (ps_if (PW.pt (pw_or (pt_not (pt_val (pe_callB (r := rIsi K) call_isi (by rfl) TX.n_isinstance bt_isinstance (pa_cons (pv 0) (pa_cons (pe_bltn (v := .ty "int") (by rfl) TX.n_int bt_int rfl) pa_nil))))) (pw_or (pt_val (pe_callB (r := rIsi K) call_isi (by rfl) TX.n_isinstance bt_isinstance (pa_cons (pv 0) (pa_cons (pe_bltn (v := .ty "bool") (by rfl) TX.n_bool bt_bool rfl) pa_nil)))) (pw_or1 (pt_not (pt_chain op_le op_le pe_int (pv 0) (pe_gi TX.c_LONGEST_RIM))))))) (pss_one ps_never) pss_nil)), ?_⟩
  obtain ⟨⟨h1, h2⟩, h⟩ := h
  refine s_when (et_or (et_not (et_B (ev_isiI (ev_var rfl)))) fun _ => et_or (et_B (ev_isiIb (ev_var rfl))) fun _ => et_not (et_test (ev_chain ev_c (ev_var rfl) rv_I0 (fun _ => ev_c) (fun _ => rv_I0)))) (fun hb H1 e1 => ?_) (fun hb H1 e1 => h.go e1)
  simp [h1, h2] at hb
/-! ### seen_at, rim_of -/
def sp_seen_at (K : PySem.W.Frag) : Sp := fun vs H Q _ => ∃ (l : List Nat) (k p : Nat), vs = [T l, .int k, .int p] ∧ (l.length ≤ 30000 ∧ 0 < k) ∧ RetL ((col l k p).map fun c => T [c]) H Q
theorem ok_seen_at (TX : Txt K mg) : Has P w K mg base CX0 1 "seen_at" ["seen", "length", "place"] (sp_seen_at K) := by
  refine TX.a_seen_at.ok sc_seen_at (fun vs H Q E h => ?_) (fun f cdv A outer s H vs Q E hr h => ?_)
  · obtain ⟨l, k, p, rfl, _⟩ := h
    rfl
  obtain ⟨l, k, p, rfl, h⟩ := h
  refine ⟨_, (pss_one (ps_ret (pe_lc (own := [("sign", 3)]) (by rfl) sc_seen_at.nd (pi_str (pe_sliceS (pv 0) (po_some (pv 2)) po_none (pv 1))) (blkOk_by (N := ["seen", "length", "place", "sign"]) (sc := defScope s_seen_at) (by decide +kernel)) (fun _ _ _ _ _ => (pg_name (i := 3) sc_seen_at.nd rfl (Or.inl rfl))) (fun _ _ _ _ _ => (pts_one (pt_cmpR op_ne (pv 3) (pe_gs TX.c_UNSEEN) (nomark _)))) (fun _ _ _ _ _ => (pv 3))))), ?_⟩
  obtain ⟨⟨h1, h2⟩, h⟩ := h
  have hl : (stepS (S l) (some (p : Int)) none (k : Int)).length ≤ 16777216 := by
    rw [stepS_eq l p k h2, S_len]
    exact Nat.le_trans (stepL_len l p k h2) (by omega)
  have hv : Ev (tSlS (tVar 0) (tPart (tVar 2)) tNoPart (tVar 1)) (L2.start ["seen", "length", "place", "sign"] [T l, .int k, .int p]) H (T (stepL l p k)) := by
    exact ev_is (ev_slS (ev_var rfl) (eo_some (ev_var rfl)) eo_none (ev_var rfl) (by omega) hl) (by rw [stepS_eq l p k h2])
  exact s_retL (el_lcStr (fun c => !decide (c = 63)) (fun c => T [c]) hv (Nat.le_trans (stepL_len l p k h2) (by omega)) (fun _ => rfl)
    (fun c H1 _ _ => et_is (et_test (ev_neT (ev_var rfl) (ev_s [63] (by decide +kernel)))) (by simp)) (fun c H1 _ _ _ => ev_var rfl)) h
def sp_rim_of (K : PySem.W.Frag) : Sp := fun vs H Q _ => ∃ (l : List Nat) (k : Nat), vs = [T l, .int k] ∧ ((∀ c ∈ l, c ∈ SIGNS) ∧ l.length ≤ 3900 ∧ 0 < k ∧ k ≤ 100) ∧ RetV (optT (rimOf l k)) H Q
theorem ok_rim_of (TX : Txt K mg) : Has P w K mg base CX0 2 "rim_of" ["seen", "length"] (sp_rim_of K) := by
  have h_seen_at := ok_seen_at (P := P) (w := w) (base := base) TX
  refine TX.a_rim_of.ok sc_rim_of (fun vs H Q E h => ?_) (fun f cdv A outer s H vs Q E hr h => ?_)
  · obtain ⟨l, k, rfl, _⟩ := h
    rfl
  obtain ⟨l, k, rfl, h⟩ := h
  refine ⟨_, (pss_cons (ps_set (i := 2) sc_rim_of.nd rfl (Or.inl rfl) pe_str)
        (pss_cons (ps_for PassesOwn.never rfl (pi_range1 (by rfl) TX.n_range (pa_cons (pv 1) pa_nil)) (pg_name (i := 3) sc_rim_of.nd rfl (Or.inl rfl)) (pss_cons (ps_set (i := 4) sc_rim_of.nd rfl (Or.inl rfl) (pe_callB (RB.cr_sortedO rfl) (by rfl) TX.n_sorted bt_sorted (pa_cons (pe_callTy (RB.cr_set rfl) (by rfl) TX.n_set bt_set (pa_cons (pe_has h_seen_at (hr.mono (by omega)) pass0 (pa_cons (pv 0) (pa_cons (pv 1) (pa_cons (pv 3) pa_nil)))) pa_nil)) pa_nil)))
        (pss_cons (ps_if (pt_cmpR op_gt (pe_callB (r := rLenL K) call_lenL (by rfl) TX.n_len bt_len (pa_cons (pv 4) pa_nil)) pe_int (nomark _)) (pss_one (ps_ret pe_non)) pss_nil)
        (pss_one (ps_aug (i := 2) sc_rim_of.nd rfl (Or.inl rfl) (pe_ifExp (pt_cmpR (op_neD hr.units) (pv 4) (pe_lst pa_nil) (nomark _)) (pe_ix ix_list (pv 4) pe_int (fun _ _ => rfl)) (pe_gs TX.c_UNSEEN)) ip_addT)))))
        (pss_one (ps_ret (pv 2))))), ?_⟩
  obtain ⟨⟨h1, h2, h3, h4⟩, h⟩ := h
  refine q_asg (ev_s [] (by decide +kernel)) fun H1 e1 => ?_
  refine q_forR1 (ea_cons (ev_var rfl) ea_nil) (by omega) (fun i σ' H' => ∃ v1 v2, σ' = [some (T l), some (.int k), some (T ((List.range i).map (rimAt l k))), v1, v2] ∧ Ex H H' ∧ ∀ p, p < i → oneSign l k p)
    (fun H2 e2 => ⟨_, _, rfl, e1.trans e2, fun p hp => absurd hp (Nat.not_lt_zero _)⟩) (fun i σ' H' hi hp => ?_) (fun σ' H' hp => ?_)
  · obtain ⟨v1, v2, rfl, e2, hone⟩ := hp
    have hik : i < k := by omega
    have hcs : ∀ c ∈ col l k i, c ∈ SIGNS := fun c hc => col_signs h3 h1 hc
    have hmet : (RB.metT ((col l k i).map fun c => S [c])).length < 64 := met_lt hcs
    have hcl : (col l k i).length < 4000 := Nat.lt_of_le_of_lt (col_len l i k h3) (by omega)
    have hcall : EvL (tCall (sp_seen_at K) [] E0 (tCons (tVar 0) (tCons (tVar 1) (tCons (tVar 3) tNil)))) [some (T l), some (.int k), some (T ((List.range i).map (rimAt l k))), some (.int (i : Int)), v2] H'
        ((((col l k i).map fun c => S [c]).map V.str)) :=
      el_call (ea_cons (ev_var rfl) (ea_cons (ev_var rfl) (ea_cons (ev_var rfl) ea_nil))) fun H1 _ Q q E => ⟨l, k, i, rfl, ⟨by omega, h3⟩, fun p H2 a b c => q p H2 a b (by rw [c, List.map_map]; rfl)⟩
    refine es_sortedSet hcall (by rw [List.length_map]; exact hcl) hmet H' (Ex.refl H') _ fun ys p H2 pm so hp e3 hp2 => ?_
    have hys : ∀ y, y ∈ ys ↔ y ∈ (col l k i).map fun c => S [c] := fun y => pm.mem_iff.trans RB.metT_mem
    have hnd : ys.Nodup := pm.nodup_iff.mpr (RB.metT_nodup _)
    refine q_when (et_test (ev_op (ev_lenL (ev_var rfl) (SqL.of hp2)) ev_c rv_I0)) (fun hb H3 e4 => ?_) (fun hb H3 e4 => ?_)
    · have hgt : 1 < ys.length := by
        rw [List.length_map] at hb
        have := of_decide_eq_true hb
        omega
      refine s_ret ev_c fun H4 e5 => ?_
      have hno : ¬ fitsOne l k := fun hf => by
        have hall := hf i hik
        match ys, hgt, hnd, hys with
        | a :: b :: r, _, nd, hy =>
          obtain ⟨c, hc, rfl⟩ := List.mem_map.mp ((hy a).mp List.mem_cons_self)
          obtain ⟨d, hd, rfl⟩ := List.mem_map.mp ((hy b).mp (List.mem_cons_of_mem _ List.mem_cons_self))
          have := hall c hc d hd
          subst this
          exact (List.nodup_cons.mp nd).1 List.mem_cons_self
      have hr : rimOf l k = none := if_neg hno
      rw [hr] at h
      exact h.go (((e2.trans e3).trans e4).trans e5)
    · have hle : ys.length ≤ 1 := by
        rw [List.length_map] at hb
        have := of_decide_eq_false hb
        omega
      have hone' : oneSign l k i := fun a ha b hb => by
        have h1 := (hys _).mpr (List.mem_map.mpr ⟨a, ha, rfl⟩)
        have h2 := (hys _).mpr (List.mem_map.mpr ⟨b, hb, rfl⟩)
        match ys, hle, h1, h2 with
        | [z], _, h1, h2 =>
          have e1 := List.mem_singleton.mp h1
          have e2 := List.mem_singleton.mp h2
          have e3 : S [a] = S [b] := e1.trans e2.symm
          have := S_inj.mp e3
          simpa using this
      have hnext : ∀ p, p < i + 1 → oneSign l k p := fun p hp => by
        by_cases hpi : p < i
        · exact hone p hpi
        · have : p = i := by omega
          rw [this]
          exact hone'
      have hrng : (List.range (i + 1)).map (rimAt l k) = (List.range i).map (rimAt l k) ++ [rimAt l k i] := by
        rw [List.range_succ, List.map_append]
        rfl
      have hkl : ((List.range i).map (rimAt l k)).length = i := by simp
      have fin : ∀ (b : Bool), (decide ((ys.map tl) = ([] : List (List Nat))) = !b) → True := fun _ _ => trivial
      match ys, hle, hys, hp2 with
      | [], _, hys, hp2 =>
        have hcol : col l k i = [] := by
          cases hc : col l k i with
          | nil => rfl
          | cons c r =>
            rw [hc] at hys
            exact absurd ((hys (S [c])).mpr List.mem_cons_self) (by simp)
        have hat : rimAt l k i = 63 := by
          unfold rimAt
          rw [hcol]
          rfl
        refine s_augT (a := (List.range i).map (rimAt l k)) (b := [63]) rfl (ev_if (et_test (ev_neKL (ys := []) (zs := []) (ev_var rfl) (SqL.of (e4 p _ hp2)) el_nil (fun y hy => by simp at hy) (fun y hy => by simp at hy)))
          (fun hb => by simp at hb) (fun _ => ev_s [63] (by decide +kernel))) (by simp; omega) fun H4 e5 => ?_
        exact ⟨_, _, by rw [hrng, hat]; rfl, ((e2.trans e3).trans e4).trans e5, hnext⟩
      | [z], _, hys, hp2 =>
        obtain ⟨c, hc, rfl⟩ := List.mem_map.mp ((hys z).mp List.mem_cons_self)
        have hat : rimAt l k i = c := by
          unfold rimAt
          cases hcc : col l k i with
          | nil =>
            rw [hcc] at hc
            cases hc
          | cons d r =>
            rw [hcc] at hc
            have hd : d ∈ col l k i := by
              rw [hcc]
              exact List.mem_cons_self
            rw [← hcc] at hc
            exact hone' d hd c hc
        have hcs' : c < 1114112 := Nat.lt_trans (signs_lt (hcs c hc)) (by decide)
        refine s_augT (a := (List.range i).map (rimAt l k)) (b := [c]) rfl (ev_if (et_test (ev_neKL (ys := [[c]]) (zs := []) (ev_var rfl) (SqL.of (e4 p _ hp2)) el_nil (fun y hy x hx => by
            rw [List.mem_singleton.mp hy] at hx
            rw [List.mem_singleton.mp hx]
            exact hcs') (fun y hy => by simp at hy)))
          (fun _ => ev_op (ev_var rfl) ev_c (rv_ixL (i := 0) (SqL.of (e4 p _ hp2)) rfl)) (fun hb => by simp at hb)) (by simp; omega) fun H4 e5 => ?_
        exact ⟨_, _, by rw [hrng, hat]; rfl, ((e2.trans e3).trans e4).trans e5, hnext⟩
  · obtain ⟨v1, v2, rfl, e2, hone⟩ := hp
    have hf : fitsOne l k := fun p hp => hone p (by simpa using hp)
    have hr : rimOf l k = some (rimL l k) := if_pos hf
    rw [hr] at h
    exact s_ret (ev_var rfl) fun H3 e3 => h.go (e2.trans e3)
/-! ### lengths_for, rim_for -/
def spv_ok : True := trivial
def sp_rim_for (K : PySem.W.Frag) : Sp := fun vs H Q _ => ∃ (l : List Nat) (k : Nat), vs = [T l, .int k] ∧ (Seen l ∧ l.length ≤ 3900 ∧ 1 ≤ k ∧ k ≤ 40) ∧ RetV (optT (rimOf l k)) H Q
theorem ok_rim_for (TX : Txt K mg) : Has P w K mg base CX0 3 "rim_for" ["seen", "length"] (sp_rim_for K) := by
  have h_need_seen := ok_need_seen (P := P) (w := w) (base := base) TX
  have h_need_length := ok_need_length (P := P) (w := w) (base := base) TX
  have h_rim_of := ok_rim_of (P := P) (w := w) (base := base) TX
  refine TX.a_rim_for.ok sc_rim_for (fun vs H Q E h => ?_) (fun f cdv A outer s H vs Q E hr h => ?_)
  · obtain ⟨l, k, rfl, _⟩ := h
    rfl
  obtain ⟨l, k, rfl, h⟩ := h
  refine ⟨_, (pss_cons (ps_expr (pe_has h_need_seen (hr.mono (by omega)) pass0 (pa_cons (pv 0) pa_nil)))
        (pss_cons (ps_expr (pe_has h_need_length (hr.mono (by omega)) pass0 (pa_cons (pv 1) pa_nil)))
        (pss_one (ps_ret (pe_has h_rim_of (hr.mono (by omega)) pass0 (pa_cons (pv 0) (pa_cons (pv 1) pa_nil))))))), ?_⟩
  obtain ⟨⟨h1, h2, h3, h4⟩, h⟩ := h
  refine q_drop (ev_call (ea_cons (ev_var rfl) ea_nil) fun H1 _ Q q E => ⟨l, rfl, h1, q⟩) fun H1 e1 => ?_
  refine q_drop (ev_call (ea_cons (ev_var rfl) ea_nil) fun H1 _ Q q E => ⟨k, rfl, by omega, q⟩) fun H2 e2 => ?_
  exact s_ret (ev_call (z := optT (rimOf l k)) (ea_cons (ev_var rfl) (ea_cons (ev_var rfl) ea_nil)) fun H1 _ Q q E => ⟨l, k, rfl, ⟨h1.2.2, h2, by omega, by omega⟩, q⟩) fun H3 e3 => h.go ((e1.trans e2).trans e3)
end
end X

namespace X
open PySem PySem.Spec PyProof.Rows L2 Evl TL RC RA RD RE RF RG RH RI RJ RL RS RP RQ RR RT RDI RU RV RX RY RZ1 RM RSU RPL RPI RLT RGU RSH RSD RMK RMT
section
variable {P : Program} {w : World} {K : PySem.W.Frag} {mg : Str → Option Value} {base : Heap}
def sp_law_bag (K : PySem.W.Frag) : Sp := fun vs H Q _ => ∃ (a : Addr) (ns : List Int), vs = [.ref a] ∧ (SqL K H a (ns.map V.int) ∧ ns.length ≤ 63) ∧ ∀ b q H', H b = none → Ex H H' → Bag H' b q 0 → Q (.ref b) H'
theorem ok_law_bag (TX : Txt K mg) : Has P w K mg base CX0 1 "_law_bag" ["script"] (sp_law_bag K) := by
  refine TX.a_law_bag.ok sc_law_bag (fun vs H Q E h => ?_) (fun f cdv A outer s H vs Q E hr h => ?_)
  · obtain ⟨a, ns, rfl, _⟩ := h
    rfl
  obtain ⟨a, ns, rfl, h⟩ := h
  refine ⟨_, (pss_cons (ps_set (i := 1) sc_law_bag.nd rfl (Or.inl rfl) pe_int)
        (pss_cons (ps_for PassesOwn.never rfl (pi_list (pv 0)) (pg_name (i := 2) sc_law_bag.nd rfl (Or.inl rfl)) (pss_one (ps_set (i := 1) sc_law_bag.nd rfl (Or.inl rfl) (pe_op op_mod (pe_op op_add (pe_op op_add (pe_op op_mul (pv 1) pe_int) (pe_op op_mod (pv 2) pe_int)) pe_int) pe_int))))
        (pss_one (ps_ret (pe_lst (pa_cons (pe_callTy call_list_of (by rfl) TX.n_list bt_list (pa_cons (pv 0) pa_nil)) (pa_cons pe_int (pa_cons pe_int (pa_cons pe_int (pa_cons (pv 1) pa_nil)))))))))), ?_⟩
  obtain ⟨⟨hs, hn⟩, h⟩ := h
  refine q_asg ev_c fun H1 e1 => ?_
  refine q_forLn (ev_var rfl) (ex_l e1 hs) (fun i σ' H' => ∃ (t : Int) (v : Option V), σ' = [some (.ref a), some (.int t), v] ∧ Ex H H' ∧ 0 ≤ t ∧ t < 2305843009213693951) (fun H2 e2 => ⟨_, _, rfl, e1.trans e2, by decide, by decide⟩)
    (fun i σ' H' _ hp => ?_) (fun i x σ' H' hi hp => ?_) (fun σ' H' hp => ?_)
  · obtain ⟨t, v, rfl, e2, _⟩ := hp
    exact ex_l e2 hs
  · obtain ⟨t, v, rfl, e2, t0, t1⟩ := hp
    obtain ⟨c, rfl⟩ : ∃ c, x = V.int c := by
      obtain ⟨c, _, rfl⟩ := List.mem_map.mp (List.mem_of_getElem? hi)
      exact ⟨c, rfl⟩
    refine s_asg (ev_mod (ev_i0 (ev_i0 (ev_mul (ev_var rfl) ev_c (.inr (by decide))) (ev_mod (ev_var rfl) ev_c (by decide))) ev_c) ev_c (by decide)) fun H3 e3 => ?_
    exact ⟨_, _, rfl, e2.trans e3, Int.emod_nonneg _ (by decide), Int.emod_lt_of_pos _ (by decide)⟩
  · obtain ⟨t, v, rfl, e2, t0, t1⟩ := hp
    refine ⟨_, rfl, a, _, rfl, .inl (ex_l e2 hs), fun q hq => ⟨_, rfl, by show 5 ≤ sizeLine; decide, fun b hb => ?_⟩⟩
    have hqb : q ≠ b := ne_of_none upd_same hb
    refine h b q _ (fresh_back (e2.trans (Ex.new hq)) hb) ((e2.trans (Ex.new hq)).trans (Ex.new hb)) ⟨ns, 0, 0, 0, t, upd_same, by rw [upd_ne hqb, upd_same], by decide, by omega, by decide, by decide⟩
def sp_law_stir (K : PySem.W.Frag) : Sp := fun vs H Q _ => ∃ (number place : Int), vs = [.int number, .int place] ∧ (0 ≤ place ∧ place < 2 ^ 62) ∧ RetV (.int (stirF number place)) H Q
theorem ok_law_stir (TX : Txt K mg) : Has P w K mg base CX0 1 "_law_stir" ["number", "place"] (sp_law_stir K) := by
  refine TX.a_law_stir.ok sc_law_stir (fun vs H Q E h => ?_) (fun f cdv A outer s H vs Q E hr h => ?_)
  · obtain ⟨number, place, rfl, _⟩ := h
    rfl
  obtain ⟨number, place, rfl, h⟩ := h
  refine ⟨_, (pss_cons (ps_set (i := 2) sc_law_stir.nd rfl (Or.inl rfl) (pe_op op_mod (pe_op op_add (pe_op op_add (pe_op op_mul (pv 0) pe_int) (pe_op op_mul (pv 1) pe_int)) pe_int) pe_int))
        (pss_cons (ps_set (i := 3) sc_law_stir.nd rfl (Or.inl rfl) (pe_op op_mod (pe_op op_mul (pv 2) (pv 2)) pe_int))
        (pss_one (ps_ret (pe_op op_fdiv (pe_op op_mod (pe_op op_add (pe_op op_add (pe_op op_mul (pv 3) pe_int) (pe_op op_mul (pe_op op_mul (pv 1) (pv 1)) pe_int)) (pe_op op_fdiv (pv 2) pe_int)) pe_int) pe_int))))), ?_⟩
  obtain ⟨⟨p0, p1⟩, h⟩ := h
  have e62 : (2 : Int) ^ 62 = 4611686018427387904 := by decide
  have e64 : (2 : Int) ^ 64 = 18446744073709551616 := by decide
  rw [e62] at p1
  have o1 : 0 ≤ (number * 998244353 + place * 1000000007 + 5) % 2305843009213693951 := Int.emod_nonneg _ (by decide)
  have o2 : (number * 998244353 + place * 1000000007 + 5) % 2305843009213693951 < 2305843009213693951 := Int.emod_lt_of_pos _ (by decide)
  refine q_asg (ev_mod (ev_i0 (ev_i0 (ev_mul (ev_var rfl) ev_c (.inr (by decide))) (ev_mul (ev_var rfl) ev_c (.inr (by decide)))) ev_c) ev_c (by decide)) fun H1 e1 => ?_
  refine q_asg (ev_mod (ev_mul (ev_var rfl) (ev_var rfl) (.inl (by rw [e64]; omega))) ev_c (by decide)) fun H2 e2 => ?_
  refine s_ret (ev_fdiv (ev_mod (ev_i0 (ev_i0 (ev_mul (ev_var rfl) ev_c (.inr (by decide))) (ev_mul (ev_mul (ev_var rfl) (ev_var rfl) (.inl (by rw [e64]; omega))) ev_c (.inr (by decide)))) (ev_fdiv (ev_var rfl) ev_c ⟨by decide, by decide⟩)) ev_c (by decide)) ev_c ⟨by decide, by decide⟩) fun H3 e3 => ?_
  exact h.go ((e1.trans e2).trans e3)
def sp_law_draw (K : PySem.W.Frag) : Sp := fun vs H Q _ => ∃ (b q : Addr) (k : Int) (n : Nat), vs = [.ref b, .int k] ∧ (Bag H b q n ∧ n < 2 ^ 60 ∧ 1 ≤ k ∧ k < 1073741824) ∧
  ∀ (d : Int) H', 0 ≤ d → d < k → But b H H' → Bag H' b q (n + 1) → Q (.int d) H'
theorem ok_law_draw (TX : Txt K mg) : Has P w K mg base CX0 2 "_law_draw" ["bag", "many"] (sp_law_draw K) := by
  have h_law_stir := ok_law_stir (P := P) (w := w) (base := base) TX
  refine TX.a_law_draw.ok sc_law_draw (fun vs H Q E h => ?_) (fun f cdv A outer s H vs Q E hr h => ?_)
  · obtain ⟨b, q, k, n, rfl, _⟩ := h
    rfl
  obtain ⟨b, q, k, n, rfl, h⟩ := h
  refine ⟨_, (pss_cons (ps_if (pt_cmpR op_eq (pv 1) pe_int (nomark _)) (pss_one (ps_ret pe_int)) pss_nil)
        (pss_cons (ps_asg (pe_op op_add (pe_ix ix_list (pv 0) pe_int (fun _ _ => rfl)) pe_int) (pg_sub (pv 0) pe_int set_list))
        (pss_cons (ps_if (PW.pt (pw_and (pt_cmpR op_lt (pe_ix ix_list (pv 0) pe_int (fun _ _ => rfl)) pe_int (nomark _)) (pw_and1 (pt_cmpR op_eq (pe_ix ix_list (pv 0) pe_int (fun _ _ => rfl)) (pe_callB (r := rLenL K) call_lenL (by rfl) TX.n_len bt_len (pa_cons (pe_ix ix_list (pv 0) pe_int (fun _ _ => rfl)) pa_nil)) (nomark _))))) (pss_one (ps_ret (pe_op op_mod (pe_has h_law_stir (hr.mono (by omega)) pass0 (pa_cons (pe_ix ix_list (pv 0) pe_int (fun _ _ => rfl)) (pa_cons (pe_ix ix_list (pv 0) pe_int (fun _ _ => rfl)) pa_nil))) (pv 1)))) pss_nil)
        (pss_cons (ps_if (pt_cmpR op_lt (pe_ix ix_list (pv 0) pe_int (fun _ _ => rfl)) pe_int (nomark _)) (pss_cons (ps_set (i := 2) sc_law_draw.nd rfl (Or.inl rfl) (pe_ix ix_list (pe_ix ix_list (pv 0) pe_int (fun _ _ => rfl)) (pe_ix ix_list (pv 0) pe_int (fun _ _ => rfl)) (fun _ _ => rfl)))
        (pss_cons (ps_asg (pe_op op_add (pe_ix ix_list (pv 0) pe_int (fun _ _ => rfl)) pe_int) (pg_sub (pv 0) pe_int set_list))
        (pss_cons (ps_if (pt_cmpR op_lt (pv 2) (pe_op op_pow pe_int pe_int) (nomark _)) (pss_one (ps_ret (pe_op op_mod (pe_has h_law_stir (hr.mono (by omega)) pass0 (pa_cons (pe_op op_mod (pv 2) pe_int) (pa_cons (pe_ix ix_list (pv 0) pe_int (fun _ _ => rfl)) pa_nil))) (pv 1)))) pss_nil)
        (pss_one (ps_asg (pe_op op_sub (pv 2) (pe_op op_pow pe_int pe_int)) (pg_sub (pv 0) pe_int set_list)))))) pss_nil)
        (pss_cons (ps_set (i := 3) sc_law_draw.nd rfl (Or.inl rfl) (pe_op op_mod (pe_ix ix_list (pv 0) pe_int (fun _ _ => rfl)) (pv 1)))
        (pss_cons (ps_asg (pe_op op_fdiv (pe_ix ix_list (pv 0) pe_int (fun _ _ => rfl)) (pv 1)) (pg_sub (pv 0) pe_int set_list))
        (pss_one (ps_ret (pv 3))))))))), ?_⟩
  obtain ⟨⟨hb, hn, k1, k2⟩, h⟩ := h
  have e60 : (2 : Nat) ^ 60 = 1152921504606846976 := by decide
  have e62 : (2 : Int) ^ 62 = 4611686018427387904 := by decide
  rw [e60] at hn
  have stir : ∀ (x y : Int) H1, 0 ≤ y → y ≤ n + 1 → SpV (sp_law_stir K) [.int x, .int y] H1 (.int (stirF x y)) := fun x y H1 y0 y1 H2 e Q q E => ⟨x, y, rfl, ⟨y0, by rw [e62]; omega⟩, q⟩
  refine q_when (et_test (ev_eqI (ev_var rfl) ev_c)) (fun hk H1 e1 => ?_) (fun hk H1 e1 => ?_)
  · refine s_ret ev_c fun H2 e2 => h 0 H2 (by decide) (by omega) (But.ex (e1.trans e2)) ((hb.ex (e1.trans e2)).mono (by omega))
  have hb1 := hb.ex e1
  obtain ⟨ns, i, j, c, t, h1, h2, i0, i1, c0, c1⟩ := hb1
  have hqb : q ≠ b := fun z => by
    rw [z, h1] at h2
    cases ns with
    | nil => cases h2
    | cons x r => cases h2
  refine q_setL (j := 3) h1 (ev_i0 (ev_op (ev_var rfl) ev_c (rv_ixL (SqL.of h1) (i := 3) rfl)) ev_c) (ev_var rfl) ev_c (by show 3 < 5; decide) fun H2 e2 => ?_
  have u2 : But b H (upd H2 b (.lst [.ref q, .int i, .int j, .int (c + 1), .int t])) := (But.ex (e1.trans e2)).put
  have hq2 : (upd H2 b (.lst [.ref q, .int i, .int j, .int (c + 1), .int t])) q = some (.lst (ns.map V.int)) := by
    rw [upd_ne hqb]
    exact e2 _ _ h2
  have hb2 : (upd H2 b (.lst [.ref q, .int i, .int j, .int (c + 1), .int t])) b = some (.lst [.ref q, .int i, .int j, .int (c + 1), .int t]) := upd_same
  clear e2 h1 h2 e1
  revert u2 hq2 hb2
  show But b H (upd H2 b (.lst [.ref q, .int i, .int j, .int (c + 1), .int t])) → _ → _ → _
  intro u2 hq2 hb2
  have g2 : ∃ H3, H3 = upd H2 b (.lst [.ref q, .int i, .int j, .int (c + 1), .int t]) := ⟨_, rfl⟩
  obtain ⟨H3, eH3⟩ := g2
  show tSeq _ _ _ _ (upd H2 b (.lst [.ref q, .int i, .int j, .int (c + 1), .int t]))
  rw [← eH3] at u2 hq2 hb2 ⊢
  have fin : ∀ (x : Int) H4, Ex H3 H4 → Q (.int (stirF x (c + 1) % k)) H4 := fun x H4 e4 =>
    h _ H4 (Int.emod_nonneg _ (by omega)) (Int.emod_lt_of_pos _ (by omega)) (u2.trans (But.ex e4)) ⟨ns, i, j, c + 1, t, e4 _ _ hb2, e4 _ _ hq2, i0, i1, by omega, by omega⟩
  -- nothing left: all cells mixed
  refine q_when (et_and (et_test (ev_i0 (ev_op (ev_var rfl) ev_c (rv_ixL (SqL.of hb2) (i := 2) rfl)) ev_c)) fun _ => et_test (ev_eqI (ev_op (ev_var rfl) ev_c (rv_ixL (SqL.of hb2) (i := 1) rfl))
    (ev_lenL (ev_op (ev_var rfl) ev_c (rv_ixL (SqL.of hb2) (i := 0) rfl)) (SqL.of hq2)))) (fun hc H4 e4 => ?_) (fun hc H4 e4 => ?_)
  · refine s_ret (ev_mod (ev_call (ea_cons (ev_op (ev_var rfl) ev_c (rv_ixL (SqL.of (e4 _ _ hb2)) (i := 4) rfl)) (ea_cons (ev_op (ev_var rfl) ev_c (rv_ixL (SqL.of (e4 _ _ hb2)) (i := 3) rfl)) ea_nil)) (stir _ _ _ (by omega) (by omega))) (ev_var rfl) (by omega)) fun H5 e5 => fin _ H5 (e4.trans e5)
  have hb4 := e4 _ _ hb2
  have hq4 := e4 _ _ hq2
  have u4 := u2.trans (But.ex (b := b) e4)
  have fin4 : ∀ (x : Int) H5, Ex H4 H5 → Q (.int (stirF x (c + 1) % k)) H5 := fun x H5 e5 => fin x H5 (e4.trans e5)
  -- a digit of what is left
  have last : ∀ (j' i' : Int) (σ' : L2.St) (H5 : Hp), But b H H5 → H5 b = some (.lst [.ref q, .int i', .int j', .int (c + 1), .int t]) → H5 q = some (.lst (ns.map V.int)) → 0 ≤ i' → i' ≤ ns.length →
      σ'[0]? = some (some (.ref b)) → σ'[1]? = some (some (.int k)) → σ'.length = 4 →
      tSeq (tAsg (tOp (rI (fun _ j => 0 < j) fun i j => .int (i % j)) (tOp (rIxL K) (tVar 0) (tC (.int 2))) (tVar 1)) (gName 3))
        (tSeq (tAsg (tOp (rI CDiv fun i j => .int (i / j)) (tOp (rIxL K) (tVar 0) (tC (.int 2))) (tVar 1)) (gSub (tVar 0) (tC (.int 2)) rSetL)) (tRet (tVar 3)))
        { nx := fun _ H' => Q .non H', rt := Q } σ' H5 := fun j' i' σ' H5 u5 hb5 hq5 a0 a1 s0 s1 sl => by
    have s0' : (σ'.set 3 (some (V.int (j' % k))))[0]? = some (some (.ref b)) := by rw [List.getElem?_set_ne (by decide)]; exact s0
    have s1' : (σ'.set 3 (some (V.int (j' % k))))[1]? = some (some (.int k)) := by rw [List.getElem?_set_ne (by decide)]; exact s1
    refine q_asg (ev_mod (ev_op (ev_var s0) ev_c (rv_ixL (SqL.of hb5) (i := 2) rfl)) (ev_var s1) (by omega)) fun H6 e6 => ?_
    refine q_setL (j := 2) (e6 _ _ hb5) (ev_fdiv (ev_op (ev_var s0') ev_c (rv_ixL (SqL.of (e6 _ _ hb5)) (i := 2) rfl)) (ev_var s1') ⟨by omega, by omega⟩) (ev_var s0') ev_c (by show 2 < 5; decide) fun H7 e7 => ?_
    refine s_ret (ev_var (v := .int (j' % k)) (by rw [List.getElem?_set_self (by omega)])) fun H8 e8 => ?_
    refine h _ H8 (Int.emod_nonneg _ (by omega)) (Int.emod_lt_of_pos _ (by omega)) ((u5.trans (But.ex (e6.trans e7))).put.trans (But.ex e8)) ⟨ns, i', j' / k, c + 1, t, e8 _ _ upd_same, e8 _ _ ?_, a0, a1, by omega, by omega⟩
    rw [upd_ne hqb]
    exact e7 _ _ (e6 _ _ hq5)
  refine q_when (et_test (ev_i0 (ev_op (ev_var rfl) ev_c (rv_ixL (SqL.of hb4) (i := 2) rfl)) ev_c)) (fun hj H5 e5 => ?_) (fun hj H5 e5 => ?_)
  · have hj2 : j < 2 := of_decide_eq_true hj
    have hi : i < ns.length := by
      have hne : ¬ i = (ns.length : Int) := fun z => by
        simp [hj2, z] at hc
      omega
    have hcell : ∃ x, ns[i.toNat]? = some x := ⟨_, List.getElem?_eq_getElem (by omega)⟩
    obtain ⟨x, hx⟩ := hcell
    have hxv : atI (ns.map V.int) i = some (.int x) := at_of (j := i.toNat) (by omega) (by rw [List.getElem?_map, hx]; rfl)
    refine q_asg (ev_op (ev_op (ev_var rfl) ev_c (rv_ixL (SqL.of (e5 _ _ hb4)) (i := 0) rfl)) (ev_op (ev_var rfl) ev_c (rv_ixL (SqL.of (e5 _ _ hb4)) (i := 1) rfl)) (rv_ixL (SqL.of (e5 _ _ hq4)) hxv)) fun H6 e6 => ?_
    have hb6 := (e5.trans e6) _ _ hb4
    refine q_setL (j := 1) hb6 (ev_i0 (ev_op (ev_var rfl) ev_c (rv_ixL (SqL.of hb6) (i := 1) rfl)) ev_c) (ev_var rfl) ev_c (by show 1 < 5; decide) fun H7 e7 => ?_
    have u7 : But b H (upd H7 b (.lst [.ref q, .int (i + 1), .int j, .int (c + 1), .int t])) := (u4.trans (But.ex ((e5.trans e6).trans e7))).put
    have hq7 : (upd H7 b (.lst [.ref q, .int (i + 1), .int j, .int (c + 1), .int t])) q = some (.lst (ns.map V.int)) := by
      rw [upd_ne hqb]
      exact e7 _ _ ((e5.trans e6) _ _ hq4)
    refine q_when (et_test (ev_i0 (ev_var rfl) (ev_op ev_c ev_c (rv_I (C := CPow) ⟨by decide, by decide, by decide⟩)))) (fun hs H8 e8 => ?_) (fun hs H8 e8 => ?_)
    · refine s_ret (ev_mod (ev_call (ea_cons (ev_mod (ev_var rfl) ev_c (by decide)) (ea_cons (ev_op (ev_var rfl) ev_c (rv_ixL (SqL.of (e8 _ _ upd_same)) (i := 3) rfl)) ea_nil)) (stir _ _ _ (by omega) (by omega))) (ev_var rfl) (by omega)) fun H9 e9 => ?_
      exact h _ H9 (Int.emod_nonneg _ (by omega)) (Int.emod_lt_of_pos _ (by omega)) (u7.trans (But.ex (e8.trans e9))) ⟨ns, i + 1, j, c + 1, t, (e8.trans e9) _ _ upd_same, (e8.trans e9) _ _ hq7, by omega, by omega, by omega, by omega⟩
    · refine s_setL (j := 2) (e8 _ _ upd_same) (ev_i0 (ev_var rfl) (ev_op ev_c ev_c (rv_I (C := CPow) ⟨by decide, by decide, by decide⟩))) (ev_var rfl) ev_c (by show 2 < 5; decide) fun H9 e9 => ?_
      refine last _ (i + 1) _ _ ((u7.trans (But.ex (e8.trans e9))).put) upd_same ?_ (by omega) (by omega) rfl rfl rfl
      rw [upd_ne hqb]
      exact (e8.trans e9) _ _ hq7
  · exact last j i _ H5 (u4.trans (But.ex e5)) (e5 _ _ hb4) (e5 _ _ hq4) i0 i1 rfl rfl rfl
end
end X

namespace X
open PySem PySem.Spec PyProof.Rows L2 Evl TL RC RA RD RE RF RG RH RI RJ RL RS RP RQ RR RT RDI RU RV RX RY RZ1 RM RSU RPL RPI RLT RGU RSH RSD RMK RMT
section
variable {P : Program} {w : World} {K : PySem.W.Frag} {mg : Str → Option Value} {base : Heap}
def sp_law_rim (K : PySem.W.Frag) : Sp := fun vs H Q _ => ∃ (b q : Addr) (most n : Nat), vs = [.ref b, .int (most : Int)] ∧ (Bag H b q n ∧ n < 2 ^ 59 ∧ 1 ≤ most ∧ most ≤ 1000) ∧
  ∀ (z : List Nat) H', RimOk most z → But b H H' → Bag H' b q (n + most + 3) → Q (T z) H'
theorem ok_law_rim (TX : Txt K mg) : Has P w K mg base CX0 3 "_law_rim" ["bag", "most"] (sp_law_rim K) := by
  have h_law_draw := ok_law_draw (P := P) (w := w) (base := base) TX
  refine TX.a_law_rim.ok sc_law_rim (fun vs H Q E h => ?_) (fun f cdv A outer s H vs Q E hr h => ?_)
  · obtain ⟨b, q, most, n, rfl, _⟩ := h
    rfl
  obtain ⟨b, q, most, n, rfl, h⟩ := h
  refine ⟨_, (pss_cons (ps_set (i := 2) sc_law_rim.nd rfl (Or.inl rfl) (pe_op op_add pe_int (pe_has h_law_draw (hr.mono (by omega)) pass0 (pa_cons (pv 0) (pa_cons (pv 1) pa_nil)))))
        (pss_cons (ps_set (i := 3) sc_law_rim.nd rfl (Or.inl rfl) (pe_has h_law_draw (hr.mono (by omega)) pass0 (pa_cons (pv 0) (pa_cons pe_int pa_nil))))
        (pss_cons (ps_if (pt_cmpR op_eq (pv 3) pe_int (nomark _)) (pss_cons (ps_set (i := 4) sc_law_rim.nd rfl (Or.inl rfl) (pe_has h_law_draw (hr.mono (by omega)) pass0 (pa_cons (pv 0) (pa_cons (pv 2) pa_nil))))
        (pss_one (ps_ret (pe_op op_addT (pe_op op_addT (pe_op RC.op_repT pe_str (pv 4)) (pe_ix ix_C pe_str (pe_has h_law_draw (hr.mono (by omega)) pass0 (pa_cons (pv 0) (pa_cons pe_int pa_nil))) (fun _ _ => rfl))) (pe_op RC.op_repT pe_str (pe_op op_sub (pe_op op_sub (pv 2) (pv 4)) pe_int)))))) pss_nil)
        (pss_cons (ps_if (pt_cmpR op_eq (pv 3) pe_int (nomark _)) (pss_one (ps_ret (pe_slice sl_str (pe_op RC.op_repT (pe_ix ix_list (pe_lst (pa_cons pe_str (pa_cons pe_str (pa_cons pe_str (pa_cons pe_str pa_nil))))) (pe_has h_law_draw (hr.mono (by omega)) pass0 (pa_cons (pv 0) (pa_cons pe_int pa_nil))) (fun _ _ => rfl)) (pv 2)) po_none (po_some (pv 2))))) pss_nil)
        (pss_cons (ps_set (i := 5) sc_law_rim.nd rfl (Or.inr rfl) (pe_ix ix_list (pe_lst (pa_cons pe_str (pa_cons pe_str (pa_cons pe_str (pa_cons pe_str pa_nil))))) (pv 3) (fun _ _ => rfl)))
        (pss_one (ps_ret (pe_join pe_str (pe_lc (own := [("k", 6)]) (by rfl) sc_law_rim.nd (pi_range1 (by rfl) TX.n_range (pa_cons (pv 2) pa_nil)) (blkOk_by (N := ["bag", "most", "size", "kind", "at", "signs", "k"]) (sc := defScope s_law_rim) (by decide +kernel)) (fun _ _ _ _ _ => (pg_name (i := 6) sc_law_rim.nd rfl (Or.inl rfl))) (fun _ _ _ _ _ => pts_nil) (fun _ _ _ _ _ => (pe_ix ix_C (pv 5) (pe_has h_law_draw (hr.mono (by omega)) pass0 (pa_cons (pv 0) (pa_cons (pe_callB call_lenT (by rfl) TX.n_len bt_len (pa_cons (pv 5) pa_nil)) pa_nil))) (fun _ _ => rfl)))))))))))), ?_⟩
  obtain ⟨⟨hb, hn, m1, m2⟩, h⟩ := h
  have e60 : (2 : Nat) ^ 60 = 1152921504606846976 := by decide
  have e59 : (2 : Nat) ^ 59 = 576460752303423488 := by decide
  rw [e59] at hn
  -- size = 1 + _law_draw(bag, most)
  refine ⟨_, rfl, _, rfl, b, q, _, n, rfl, ⟨hb, by rw [e60]; omega, by omega, by omega⟩, fun d H1 d0 d1 u1 B1 => ⟨_, _, rfl, rfl, ?_⟩⟩
  obtain ⟨dn, rfl⟩ : ∃ dn : Nat, d = (dn : Int) := ⟨d.toNat, by omega⟩
  have esz : (1 : Int) + (dn : Int) = ((dn + 1 : Nat) : Int) := by omega
  dsimp only
  rw [esz]
  have hdn : dn + 1 ≤ most := by omega
  -- kind = _law_draw(bag, 4)
  refine ⟨_, rfl, b, q, _, n + 1, rfl, ⟨B1, by rw [e60]; omega, by decide, by decide⟩, fun kd H2 k0 k1 u2 B2 => ?_⟩
  refine q_when (et_test (ev_eqI (ev_var rfl) ev_c)) (fun hk H3 e3 => ?_) (fun hk H3 e3 => ?_)
  · -- at = _law_draw(bag, size); dots, a mark, dots
    refine ⟨_, rfl, _, rfl, b, q, _, n + 2, rfl, ⟨B2.ex e3, by rw [e60]; omega, by omega, by omega⟩, fun at' H4 a0 a1 u4 B4 => ?_⟩
    refine ⟨_, rfl, [46], at', RG.cs [46] (by decide +kernel), rfl, by omega, by omega, by simp; omega, ?_⟩
    refine ⟨_, rfl, b, q, _, n + 3, rfl, ⟨B4, by rw [e60]; omega, by decide, by decide⟩, fun e H5 x0 x1 u5 B5 => ?_⟩
    refine ⟨[97, 98, 122], e, RG.cs _ (by decide +kernel), rfl, by decide, x0, x1, ?_⟩
    refine ⟨_, _, rfl, rfl, by rw [repT_len]; simp; omega, ?_⟩
    refine ⟨_, rfl, _, rfl, _, _, rfl, rfl, _, _, rfl, rfl, ?_⟩
    refine ⟨[46], _, RG.cs [46] (by decide +kernel), rfl, by omega, by omega, by simp; omega, ?_⟩
    refine ⟨_, _, rfl, rfl, by rw [List.length_append, repT_len, repT_len]; simp; omega, ?_⟩
    refine h _ H5 ⟨?_, ?_, ?_⟩ ((((u1.trans u2).trans (But.ex e3)).trans u4).trans u5) (B5.mono (by omega))
    · simp [repT_len]
      omega
    · simp [repT_len]
      omega
    · intro c hc
      rw [List.mem_append, List.mem_append] at hc
      rcases hc with (z | z) | z
      · rw [List.mem_singleton.mp (repT_mem z)]
        decide
      · rw [List.mem_singleton.mp z]
        have hm := getD_mem (l := [97, 98, 122]) (i := e.toNat) (by simp; omega)
        have : ∀ c ∈ [97, 98, 122], c ∈ MARKS := by decide
        exact this _ hm
      · rw [List.mem_singleton.mp (repT_mem z)]
        decide
  refine q_when (et_test (ev_eqI (ev_var rfl) ev_c)) (fun hk2 H4 e4 => ?_) (fun hk2 H4 e4 => ?_)
  · -- (["a", "ab", ".", "a."][..] * size)[:size]
    refine ⟨by show 4 ≤ sizeLine; decide, fun p hp => ?_⟩
    have B4 := (B2.ex (e3.trans e4))
    refine ⟨_, rfl, b, q, _, n + 2, rfl, ⟨B4.new hp, by rw [e60]; omega, by decide, by decide⟩, fun e H5 x0 x1 u5 B5 => ?_⟩
    have hpl := u5 p _ (B4.ne hp).1 upd_same
    have hit : ∃ l : List Nat, atI ([V.str "a", V.str "ab", V.str ".", V.str "a."] : List V) e = some (T l) ∧ 1 ≤ l.length ∧ l.length ≤ 2 ∧ ∀ c ∈ l, c ∈ MARKS := by
      rcases (show e = 0 ∨ e = 1 ∨ e = 2 ∨ e = 3 by omega) with z | z | z | z <;> subst z
      · exact ⟨[97], by decide +kernel, by decide, by decide, by decide⟩
      · exact ⟨[97, 98], by decide +kernel, by decide, by decide, by decide⟩
      · exact ⟨[46], by decide +kernel, by decide, by decide, by decide⟩
      · exact ⟨[97, 46], by decide +kernel, by decide, by decide, by decide⟩
    obtain ⟨l, hl, l1, l2, lm⟩ := hit
    refine ⟨p, _, e, _, rfl, rfl, SqL.of hpl, hl, ?_⟩
    have hlen : l.length * (dn + 1) ≤ 2 * 1000 := Nat.mul_le_mul l2 (by omega)
    refine ⟨_, rfl, l, _, rfl, rfl, by omega, by omega, by rw [Int.toNat_natCast]; omega, ?_⟩
    rw [Int.toNat_natCast]
    have hrl : (repT l (dn + 1)).length = (dn + 1) * l.length := repT_len _ _
    have hge : dn + 1 ≤ (dn + 1) * l.length := Nat.le_mul_of_pos_right _ (by omega)
    refine ⟨_, rfl, _, rfl, S (repT l (dn + 1)), rfl, by rw [S_len, big, hrl, Nat.mul_comm]; omega, ?_⟩
    rw [cutS_take]
    refine h _ H5 ⟨?_, ?_, ?_⟩ ((((u1.trans u2).trans (But.ex (e3.trans e4))).trans (But.new hp)).trans u5) (B5.mono (by omega))
    · rw [List.length_take]
      omega
    · rw [List.length_take]
      omega
    · exact fun c hc => lm c (repT_mem (List.mem_of_mem_take hc))
  · -- signs = [..][kind]; joined
    have B4 := (B2.ex (e3.trans e4))
    have hkd : kd = 0 ∨ kd = 3 := by
      have h1 := of_decide_eq_false hk
      have h2 := of_decide_eq_false hk2
      omega
    refine ⟨by show 4 ≤ sizeLine; decide, fun p hp => ?_⟩
    have hit : ∃ l : List Nat, atI ([V.str "ab.", V.str "", V.str "", V.str "abcdefghijklmnopqrstuvwxyz."] : List V) kd = some (T l) ∧ 1 ≤ l.length ∧ l.length ≤ 27 ∧ ∀ c ∈ l, c ∈ MARKS := by
      rcases hkd with z | z <;> subst z
      · exact ⟨[97, 98, 46], by decide +kernel, by decide, by decide, by decide⟩
      · exact ⟨MARKS, by decide +kernel, by decide, by decide, by decide⟩
    obtain ⟨l, hl, l1, l2, lm⟩ := hit
    refine ⟨_, rfl, p, _, kd, _, rfl, rfl, SqL.of upd_same, hl, ?_⟩
    refine ⟨⟨_, rfl⟩, lcB (n := n + 2) (dn := 1) (size := dn + 1) (bagRes b q) (fun v => ∃ l, v = T l ∧ (l.length = 1 ∧ ∀ c ∈ l, c ∈ MARKS)) (B4.new hp) (ea_cons (ev_var rfl) ea_nil) (by omega) (fun _ => rfl)
      (fun i H5 hi u5 B5 Q' hQ => ?_) (fun xs p2 H5 hxl hxs hp2 u5 B5 hp3 => ?_)⟩
    · refine ⟨_, rfl, _, rfl, _, rfl, l, rfl, by omega, b, q, _, _, rfl, ⟨B5, by rw [e60]; omega, by omega, by omega⟩, fun e H6 x0 x1 u6 B6 => ?_⟩
      refine ⟨l, e, rfl, rfl, by omega, x0, x1, hQ _ H6 ⟨_, rfl, rfl, fun c hc => ?_⟩ u6 B6⟩
      rw [List.mem_singleton.mp hc]
      exact lm _ (getD_mem (by omega))
    · obtain ⟨ys, rfl, hys⟩ := texts_of hxs
      rw [List.length_map] at hxl
      have hfl : ys.flatten.length = ys.length := flat_one fun y hy => (hys y hy).1
      refine ⟨S [], p2, ys.map S, RG.cs [] (by decide +kernel), rfl, .inl (SqL.of (by rw [hp3, List.map_map]; rfl)), by rw [sum_lens, S_len, List.length_nil, Nat.mul_zero, hfl]; omega, ?_⟩
      rw [RE.join_nil]
      refine h _ H5 ⟨?_, ?_, ?_⟩ ((((u1.trans u2).trans (But.ex (e3.trans e4))).trans (But.new hp)).trans u5) (B5.mono (by omega))
      · omega
      · omega
      · intro c hc
        obtain ⟨y, hy, hcy⟩ := List.mem_flatten.mp hc
        exact (hys y hy).2 c hcy
end
end X

namespace X
open PySem PySem.Spec PyProof.Rows L2 Evl TL RC RA RD RE RF RG RH RI RJ RL RS RP RQ RR RT RDI RU RV RX RY RZ1 RM RSU RPL RPI RLT RGU RSH RSD RMK RMT
section
variable {P : Program} {w : World} {K : PySem.W.Frag} {mg : Str → Option Value} {base : Heap}
def sp_law_seen (K : PySem.W.Frag) : Sp := fun vs H Q _ => ∃ (b q : Addr) (most n : Nat), vs = [.ref b, .int (most : Int)] ∧ (Bag H b q n ∧ n < 2 ^ 58 ∧ 1 ≤ most ∧ most ≤ 2000) ∧
  ∀ (z : List Nat) H', z ≠ [] → z.length ≤ most → (∀ c ∈ z, c ∈ SIGNS) → But b H H' → Bag H' b q (n + 3 * most + 40) → Q (T z) H'
theorem ok_law_seen (TX : Txt K mg) : Has P w K mg base CX0 4 "_law_seen" ["bag", "most"] (sp_law_seen K) := by
  have h_law_draw := ok_law_draw (P := P) (w := w) (base := base) TX
  have h_law_rim := ok_law_rim (P := P) (w := w) (base := base) TX
  refine TX.a_law_seen.ok sc_law_seen (fun vs H Q E h => ?_) (fun f cdv A outer s H vs Q E hr h => ?_)
  · obtain ⟨b, q, most, n, rfl, _⟩ := h
    rfl
  obtain ⟨b, q, most, n, rfl, h⟩ := h
  refine ⟨_, (pss_cons (ps_set (i := 2) sc_law_seen.nd rfl (Or.inl rfl) (pe_op op_add pe_int (pe_has h_law_draw (hr.mono (by omega)) pass0 (pa_cons (pv 0) (pa_cons (pv 1) pa_nil)))))
        (pss_cons (ps_set (i := 3) sc_law_seen.nd rfl (Or.inl rfl) (pe_has h_law_rim (hr.mono (by omega)) pass0 (pa_cons (pv 0) (pa_cons pe_int pa_nil))))
        (pss_cons (ps_set (i := 4) sc_law_seen.nd rfl (Or.inl rfl) (pe_ix ix_list (pe_lst (pa_cons pe_int (pa_cons pe_int (pa_cons pe_int (pa_cons pe_int pa_nil))))) (pe_has h_law_draw (hr.mono (by omega)) pass0 (pa_cons (pv 0) (pa_cons pe_int pa_nil))) (fun _ _ => rfl)))
        (pss_cons (ps_set (i := 5) sc_law_seen.nd rfl (Or.inl rfl) (pe_ix ix_list (pe_lst (pa_cons pe_int (pa_cons pe_int (pa_cons pe_int pa_nil)))) (pe_has h_law_draw (hr.mono (by omega)) pass0 (pa_cons (pv 0) (pa_cons pe_int pa_nil))) (fun _ _ => rfl)))
        (pss_cons (ps_set (i := 6) sc_law_seen.nd rfl (Or.inl rfl) (pe_cmpR op_eq (pe_has h_law_draw (hr.mono (by omega)) pass0 (pa_cons (pv 0) (pa_cons pe_int pa_nil))) pe_int (nomark _)))
        (pss_cons (ps_set (i := 7) sc_law_seen.nd rfl (Or.inl rfl) pe_str)
        (pss_cons (ps_for PassesOwn.never rfl (pi_range1 (by rfl) TX.n_range (pa_cons (pv 2) pa_nil)) (pg_name (i := 8) sc_law_seen.nd rfl (Or.inl rfl)) (pss_cons (ps_set (i := 9) sc_law_seen.nd rfl (Or.inl rfl) (pe_ix ix_C (pv 3) (pe_op op_mod (pv 8) (pe_callB call_lenT (by rfl) TX.n_len bt_len (pa_cons (pv 3) pa_nil))) (fun _ _ => rfl)))
        (pss_cut (ps_if (PW.pt (pw_or (pt_val (pv 6)) (pw_or1 (PW.pt (pw_and (pt_cmpR op_gt (pv 5) pe_int (nomark _)) (pw_and1 (pt_cmpR op_eq (pe_has h_law_draw (hr.mono (by omega)) pass0 (pa_cons (pv 0) (pa_cons (pe_op op_add pe_int (pv 5)) pa_nil))) pe_int (nomark _)))))))) (pss_one (ps_set (i := 9) sc_law_seen.nd rfl (Or.inl rfl) (pe_ix ix_C pe_str (pe_has h_law_draw (hr.mono (by omega)) pass0 (pa_cons (pv 0) (pa_cons pe_int pa_nil))) (fun _ _ => rfl)))) pss_nil)
        (pss_one (ps_set (i := 7) sc_law_seen.nd rfl (Or.inl rfl) (pe_op op_addT (pv 7) (pe_ifExp (pt_cmpR op_gt (pe_has h_law_draw (hr.mono (by omega)) pass0 (pa_cons (pv 0) (pa_cons (pe_op op_add (pv 4) pe_int) pa_nil))) pe_int (nomark _)) (pv 9) pe_str)))))))
        (pss_one (ps_ret (pv 7)))))))))), ?_⟩
  obtain ⟨⟨hb, hn, m1, m2⟩, h⟩ := h
  have e60 : (2 : Nat) ^ 60 = 1152921504606846976 := by decide
  have e59 : (2 : Nat) ^ 59 = 576460752303423488 := by decide
  have e58 : (2 : Nat) ^ 58 = 288230376151711744 := by decide
  rw [e58] at hn
  have marks : ∀ c ∈ MARKS, c ∈ SIGNS := by decide
  refine ⟨_, rfl, _, rfl, b, q, _, n, rfl, ⟨hb, by rw [e60]; omega, by omega, by omega⟩, fun d H1 d0 d1 u1 B1 => ⟨_, _, rfl, rfl, ?_⟩⟩
  obtain ⟨dn, rfl⟩ : ∃ dn : Nat, d = (dn : Int) := ⟨d.toNat, by omega⟩
  have esz : (1 : Int) + (dn : Int) = ((dn + 1 : Nat) : Int) := by omega
  dsimp only
  rw [esz]
  have hdn : dn + 1 ≤ most := by omega
  refine ⟨_, rfl, b, q, 12, n + 1, rfl, ⟨B1, by rw [e59]; omega, by decide, by decide⟩, fun rim H2 hrim u2 B2 => ?_⟩
  obtain ⟨r1, r2, r3⟩ := hrim
  -- hidden
  refine ⟨by show 4 ≤ sizeLine; decide, fun p3 hp3 => ⟨_, rfl, b, q, _, n + 16, rfl, ⟨B2.new hp3, by rw [e60]; omega, by decide, by decide⟩, fun x3 H3 x30 x31 u3 B3 => ?_⟩⟩
  have hhid : ∃ hid : Int, atI ([V.int 1, V.int 2, V.int 5, V.int 40] : List V) x3 = some (.int hid) ∧ 1 ≤ hid ∧ hid ≤ 40 := by
    rcases (show x3 = 0 ∨ x3 = 1 ∨ x3 = 2 ∨ x3 = 3 by omega) with z | z | z | z <;> subst z
    · exact ⟨1, rfl, by decide, by decide⟩
    · exact ⟨2, rfl, by decide, by decide⟩
    · exact ⟨5, rfl, by decide, by decide⟩
    · exact ⟨40, rfl, by decide, by decide⟩
  obtain ⟨hid, ahid, hid0, hid1⟩ := hhid
  refine ⟨p3, _, x3, _, rfl, rfl, SqL.of (u3 p3 _ (B2.ne hp3).1 upd_same), ahid, ?_⟩
  -- spoilt
  refine ⟨by show 3 ≤ sizeLine; decide, fun p4 hp4 => ⟨_, rfl, b, q, _, n + 17, rfl, ⟨B3.new hp4, by rw [e60]; omega, by decide, by decide⟩, fun x4 H4 x40 x41 u4 B4 => ?_⟩⟩
  have hspo : ∃ spo : Int, atI ([V.int 0, V.int 1, V.int 30] : List V) x4 = some (.int spo) ∧ 0 ≤ spo ∧ spo ≤ 40 := by
    rcases (show x4 = 0 ∨ x4 = 1 ∨ x4 = 2 by omega) with z | z | z <;> subst z
    · exact ⟨0, rfl, by decide, by decide⟩
    · exact ⟨1, rfl, by decide, by decide⟩
    · exact ⟨30, rfl, by decide, by decide⟩
  obtain ⟨spo, aspo, spo0, spo1⟩ := hspo
  refine ⟨p4, _, x4, _, rfl, rfl, SqL.of (u4 p4 _ (B3.ne hp4).1 upd_same), aspo, ?_⟩
  -- any signs
  refine ⟨_, rfl, b, q, _, n + 18, rfl, ⟨B4, by rw [e60]; omega, by decide, by decide⟩, fun x5 H5 x50 x51 u5 B5 => ⟨rfl, ?_⟩⟩
  have uu : But b H H5 := ((((u1.trans u2).trans (But.new hp3)).trans u3).trans ((But.new hp4).trans u4)).trans u5
  clear u1 u2 u3 u4 u5 B1 B2 B3 B4
  generalize hany : decide (V.int x5 = V.int 0) = any
  refine q_asg (ev_s [] (by decide +kernel)) fun H6 e6 => ?_
  refine q_forR1 (n := ((dn + 1 : Nat) : Int)) (ea_cons (ev_var rfl) ea_nil) (by omega) (fun i σ' H' => ∃ (z : List Nat) (v8 v9 : Option V), σ' = [some (.ref b), some (.int most), some (.int ((dn + 1 : Nat) : Int)), some (T rim), some (.int hid), some (.int spo), some (.bl any), some (T z), v8, v9] ∧
    z.length = i ∧ (∀ c ∈ z, c ∈ SIGNS) ∧ But b H H' ∧ Bag H' b q (n + 19 + 3 * i)) (fun H7 e7 => ⟨[], none, none, rfl, rfl, (fun c hc => by cases hc), uu.trans (But.ex (e6.trans e7)), B5.ex (e6.trans e7)⟩) (fun i σ' H' hi hp => ?_) (fun σ' H' hp => ?_)
  · obtain ⟨z, v8, v9, rfl, hz, hzs, u7, B7⟩ := hp
    have hi' : i < dn + 1 := by omega
    have hmod : (i : Int) % (rim.length : Int) < rim.length := Int.emod_lt_of_pos _ (by omega)
    have hmod0 : 0 ≤ (i : Int) % (rim.length : Int) := Int.emod_nonneg _ (by omega)
    have hsg : rim.getD ((i : Int) % (rim.length : Int)).toNat 0 ∈ SIGNS := marks _ (r3 _ (getD_mem (by omega)))
    refine q_asg (ev_ixC (ev_var rfl) (ev_mod (ev_var rfl) (ev_lenT (ev_var rfl) (by omega)) (by omega)) (by omega) hmod0 hmod) fun H8 e8 => ?_
    revert hsg
    generalize rim.getD ((i : Int) % (rim.length : Int)).toNat 0 = sg
    intro hsg
    refine q_cut (M := fun σ' H' => ∃ c : Nat, σ' = [some (.ref b), some (.int most), some (.int ((dn + 1 : Nat) : Int)), some (T rim), some (.int hid), some (.int spo), some (.bl any), some (T z), some (.int (i : Int)), some (T [c])] ∧
      c ∈ SIGNS ∧ But b H H' ∧ Bag H' b q (n + 19 + 3 * i + 2)) ?_ (fun σ' H' hp => ?_)
    · have spoil : ∀ H9 m, But b H H9 → Bag H9 b q m → m + 1 ≤ n + 19 + 3 * i + 2 → ∀ D : Ends, (∀ σ' H', (∃ c : Nat, σ' = [some (.ref b), some (.int most), some (.int ((dn + 1 : Nat) : Int)), some (T rim), some (.int hid), some (.int spo), some (.bl any), some (T z), some (.int (i : Int)), some (T [c])] ∧
          c ∈ SIGNS ∧ But b H H' ∧ Bag H' b q (n + 19 + 3 * i + 2)) → D.nx σ' H') →
          tAsg (tOp rIxC (tC (.str "ab.c")) (tCall (sp_law_draw K) [] E0 (tCons (tVar 0) (tCons (tC (.int 4)) tNil)))) (gName 9) D
            [some (.ref b), some (.int most), some (.int ((dn + 1 : Nat) : Int)), some (T rim), some (.int hid), some (.int spo), some (.bl any), some (T z), some (.int (i : Int)), some (T [sg])] H9 := fun H9 m u9 B9 hm D hD =>
        ⟨_, rfl, b, q, _, m, rfl, ⟨B9, by rw [e60]; omega, by decide, by decide⟩, fun y H10 y0 y1 u10 B10 => ⟨[97, 98, 46, 99], y, cs _ (by decide +kernel), rfl, by decide, y0, y1, hD _ _ ⟨_, rfl, by
          have hm := getD_mem (l := [97, 98, 46, 99]) (i := y.toNat) (by simp; omega)
          have : ∀ c ∈ [97, 98, 46, 99], c ∈ SIGNS := by decide
          exact this _ hm, u9.trans u10, B10.mono hm⟩⟩⟩
      have B8 := B7.ex e8
      have u8 := u7.trans (But.ex (b := b) e8)
      refine ⟨_, rfl, any, rfl, ?_⟩
      cases any with
      | true => exact iteT (spoil H8 _ u8 B8 (by omega) _ fun _ _ q => q)
      | false =>
        refine iteF ?_
        refine ⟨_, rfl, spo, 0, rfl, rfl, _, rfl, ?_⟩
        by_cases hs : (0 : Int) < spo
        · rw [decide_eq_true hs]
          refine iteT ⟨_, rfl, _, rfl, _, _, rfl, rfl, b, q, _, _, rfl, ⟨B8, by rw [e60]; omega, by omega, by omega⟩, fun y H10 y0 y1 u10 B10 => ⟨rfl, _, rfl, ?_⟩⟩
          cases decide (V.int y = V.int 0) with
          | true => exact spoil H10 _ (u8.trans u10) B10 (by omega) _ fun _ _ q => q
          | false => exact ⟨sg, rfl, hsg, u8.trans u10, B10.mono (by omega)⟩
        · rw [decide_eq_false hs]
          exact ⟨sg, rfl, hsg, u8, B8.mono (by omega)⟩
    · obtain ⟨c, rfl, hc, u9, B9⟩ := hp
      refine ⟨_, rfl, _, rfl, _, rfl, _, _, rfl, rfl, b, q, _, _, rfl, ⟨B9, by rw [e60]; omega, by omega, by omega⟩, fun y H10 y0 y1 u10 B10 => ⟨_, _, rfl, rfl, _, rfl, ?_⟩⟩
      have fin : ∀ c', c' ∈ SIGNS → ∃ (z' : List Nat) (v8 v9 : Option V), [some (.ref b), some (.int most), some (.int ((dn + 1 : Nat) : Int)), some (T rim), some (.int hid), some (.int spo), some (.bl any), some (T (z ++ [c'])), some (.int (i : Int)), some (T [c])] =
          [some (.ref b), some (.int most), some (.int ((dn + 1 : Nat) : Int)), some (T rim), some (.int hid), some (.int spo), some (.bl any), some (T z'), v8, v9] ∧
          z'.length = i + 1 ∧ (∀ c ∈ z', c ∈ SIGNS) ∧ But b H H10 ∧ Bag H10 b q (n + 19 + 3 * (i + 1)) := fun c' hc' =>
        ⟨z ++ [c'], _, _, rfl, by rw [List.length_append, hz]; rfl, fun x hx => (List.mem_append.mp hx).elim (hzs x) fun q => by rw [List.mem_singleton.mp q]; exact hc', u9.trans u10, B10.mono (by omega)⟩
      cases decide ((0 : Int) < y) with
      | true => exact ⟨_, rfl, z, [c], rfl, rfl, by simp; omega, fin c hc⟩
      | false => exact ⟨z, [63], rfl, cs _ (by decide +kernel), by simp; omega, fin 63 (by decide)⟩
  · obtain ⟨z, v8, v9, rfl, hz, hzs, u7, B7⟩ := hp
    have hz' : z.length = dn + 1 := by omega
    refine s_ret (ev_var rfl) fun H8 e8 => h z H8 (fun e => by rw [e] at hz'; cases hz') (by omega) hzs (u7.trans (But.ex e8)) ((B7.ex e8).mono (by omega))
end
end X

namespace X
open PySem PySem.Spec PyProof.Rows L2 Evl TL RC RA RD RE RF RG RH RI RJ RL RS RP RQ RR RT RDI RU RV RX RY RZ1 RM RSU RPL RPI RLT RGU RSH RSD RMK RMT
section
variable {P : Program} {w : World} {K : PySem.W.Frag} {mg : Str → Option Value} {base : Heap}
open LamX
variable {c Pt : Addr}
/-! ### the table of most_seen's lambda -/
def TLs (Pt : Addr) : List (Addr × Str) := [(Pt, ("most_seen" : Str) ++ ".<locals>." ++ "<lambda>")]
theorem tls_mem (Pt : Addr) : (Pt, ("most_seen" : Str) ++ ".<locals>." ++ "<lambda>") ∈ TLs Pt := List.mem_singleton.mpr rfl
theorem tls_uniq (Pt : Addr) : ∀ p ∈ TLs Pt, p.1 = Pt → p.2 = ("most_seen" : Str) ++ ".<locals>." ++ "<lambda>" := fun p hp _ => by rw [List.mem_singleton.mp hp]
theorem te_count (y : List Nat) (g : Addr) (xs : List (List Nat)) (H : Hp) (Q : VK) (hg : H g = some (.lst (xs.map T))) (q : Q (.int (-((xs.count y : Nat) : Int))) H) :
    tUn (rU fun i => .int (-i)) (tBM K "list" (RMK.rCntT K) (tVar 1) (tCons (tVar 0) tNil)) (NdefX.startF ["sign", "signs"] [T y] [some (.ref g)]) H Q :=
  ⟨.ref g, rfl, Or.inl ⟨rfl, _, SqL.of hg⟩, T y, rfl, g, xs, y, rfl, rfl, SqL.of hg, _, rfl, q⟩
/-! ### what is seen most often: plain -/
/-- of those met most often the first one in order -/
def Best (xs : List Nat) (b : Nat) : Prop := b ∈ xs ∧ ∀ d ∈ xs, xs.count d ≤ xs.count b ∧ (d < b → xs.count d < xs.count b)
theorem Best.uniq {xs : List Nat} {b d : Nat} (h : Best xs b) (g : Best xs d) : b = d := by
  have h1 := h.2 d g.1
  have h2 := g.2 b h.1
  rcases Nat.lt_trichotomy b d with c | c | c
  · have := h2.2 c
    omega
  · exact c
  · have := h1.2 c
    omega
def Most (xs : List Nat) (b n : Nat) : Prop := (xs = [] ∧ b = 63 ∧ n = 0) ∨ (Best xs b ∧ n = xs.length - xs.count b)
theorem Most.uniq {xs : List Nat} {b n d m : Nat} (h : Most xs b n) (g : Most xs d m) : b = d ∧ n = m := by
  rcases h with ⟨h1, h2, h3⟩ | ⟨h1, h2⟩
  · rcases g with ⟨_, g2, g3⟩ | ⟨g1, _⟩
    · exact ⟨by omega, by omega⟩
    · rw [h1] at g1
      exact absurd g1.1 (by simp)
  · rcases g with ⟨g1, _⟩ | ⟨g1, g2⟩
    · rw [g1] at h1
      exact absurd h1.1 (by simp)
    · obtain rfl := h1.uniq g1
      exact ⟨rfl, by omega⟩
theorem lt_one {a b : Nat} : ltCps (S [b]).cps.toList (S [a]).cps.toList = decide (b < a) := by
  rw [ltCps_eq]
  show decide ([b] < [a]) = decide (b < a)
  rw [decide_eq_decide, List.cons_lt_cons_iff]
  simp
theorem sorted_letters : ∀ {ys : List Nat}, sortedS (ys.map fun c => S [c]) = true → ys.Pairwise (· ≤ ·)
  | [], _ => List.Pairwise.nil
  | x :: r, h => by
    have all : ∀ (r : List Nat) (x : Nat), risingS (S [x]) (r.map fun c => S [c]) = true → (x :: r).Pairwise (· ≤ ·) := fun r => by
      induction r with
      | nil => exact fun x _ => List.pairwise_singleton _ _
      | cons y t ih =>
        intro x h
        have h2 : (!ltCps (S [y]).cps.toList (S [x]).cps.toList && risingS (S [y]) (t.map fun c => S [c])) = true := h
        rw [Bool.and_eq_true, lt_one] at h2
        have h3 := ih y h2.2
        have h4 : x ≤ y := by simpa using h2.1
        refine List.pairwise_cons.mpr ⟨fun z hz => ?_, h3⟩
        rcases List.mem_cons.mp hz with rfl | hz
        · exact h4
        · exact Nat.le_trans h4 ((List.pairwise_cons.mp h3).1 z hz)
    exact all r x h
theorem count_letters (xs : List Nat) (d : Nat) : (xs.map fun c => [c]).count [d] = xs.count d := by
  induction xs with
  | nil => rfl
  | cons x r ih =>
    rw [List.map_cons, List.count_cons, List.count_cons, ih]
    congr 1
    by_cases h : x = d
    · simp [h]
    · simp [h]
theorem best_of {xs ys : List Nat} {y : List Nat} (hp : ys.Pairwise (· ≤ ·)) (hm : ∀ d, d ∈ ys ↔ d ∈ xs) (h : RMK.First (fun z => -(((xs.map fun c => [c]).count z : Nat) : Int)) (ys.map fun c => [c]) y) : ∃ b, y = [b] ∧ Best xs b := by
  obtain ⟨j, hj, hall⟩ := h
  rw [List.getElem?_map] at hj
  cases e : ys[j]? with
  | none =>
    rw [e] at hj
    cases hj
  | some b =>
    rw [e] at hj
    obtain rfl := Option.some.inj hj
    refine ⟨b, rfl, (hm b).mp (List.mem_of_getElem? e), fun d hd => ?_⟩
    obtain ⟨m, hm1⟩ := List.getElem?_of_mem ((hm d).mpr hd)
    have h1 := hall m [d] (by rw [List.getElem?_map, hm1]; rfl)
    dsimp only at h1
    rw [count_letters, count_letters] at h1
    refine ⟨by omega, fun c => ?_⟩
    have hmj : m < j := by
      rcases Nat.lt_trichotomy m j with z | z | z
      · exact z
      · subst z
        rw [hm1] at e
        have := Option.some.inj e
        omega
      · obtain ⟨l1, e1⟩ := List.getElem?_eq_some_iff.mp e
        obtain ⟨l2, e2⟩ := List.getElem?_eq_some_iff.mp hm1
        have := List.pairwise_iff_getElem.mp hp j m l1 l2 z
        omega
    have := h1.2 hmj
    omega
theorem letters_of : ∀ {ys : List Str}, (∀ y ∈ ys, ∃ c : Nat, y = S [c]) → ∃ zs : List Nat, ys = zs.map fun c => S [c]
  | [], _ => ⟨[], rfl⟩
  | y :: r, h => by
    obtain ⟨c, rfl⟩ := h y List.mem_cons_self
    obtain ⟨zs, rfl⟩ := letters_of fun z hz => h z (List.mem_cons_of_mem _ hz)
    exact ⟨c :: zs, rfl⟩
/-! ### most_seen -/
theorem ev_cntT {σ : L2.St} {H : Hp} {ta tb : TE} {g : Addr} {xs : List (List Nat)} {y : List Nat} (ha : Ev ta σ H (.ref g)) (hg : H g = some (.lst (xs.map T))) (hb : Ev tb σ H (T y)) : Ev (tBM K "list" (RMK.rCntT K) ta (tCons tb tNil)) σ H (.int ((xs.count y : Nat) : Int)) := fun H1 e Q q =>
  ha H1 e _ fun H2 e2 => ⟨Or.inl ⟨rfl, _, SqL.of ((e.trans e2) _ _ hg)⟩, hb H2 (e.trans e2) _ fun H3 e3 => ⟨g, xs, y, rfl, rfl, SqL.of (((e.trans e2).trans e3) _ _ hg), q H3 (e2.trans e3)⟩⟩
theorem es_sortedV {σ : L2.St} {H : Hp} {te : TE} {w : World} {g : Addr} {xs : List Str} (h : Ev te σ H (.ref g)) (hg : H g = some (.lst (xs.map V.str))) (h1 : xs.length < 4000) (h2 : (RB.metT xs).length < 64) : EvSet (tCB (RB.rSortedO w) (tCons (tCB (RB.rSet K w) (tCons te tNil)) tNil)) σ H xs := fun H1 e Q q =>
  h H1 e _ fun H2 e2 => ⟨g, xs, rfl, SqL.of ((e.trans e2) _ _ hg), by unfold scanBound; omega, fun s hs => ⟨s, RB.metT xs, rfl, upd_same, h2, fun ys m pm so hm => by
    have ha : Ex H1 (upd H2 s (RB.SetO w s (RB.metT xs))) := e2.trans (Ex.new hs)
    exact q ys m _ pm so (fresh_back ha hm) (ha.trans (Ex.new hm)) upd_same⟩⟩
/-- all but tables stays, the tables hold what they may -/
structure Tb (Pt : Addr) (H H' : Hp) : Prop where
  ext : ExtN H H'
  tab : Tabs (TLs Pt) H'
theorem Tb.get {H H' : Hp} (t : Tb Pt H H') {a : Addr} {o : HO} (h : H a = some o) (n : ∀ ps, o ≠ .tbl ps) : H' a = some o := t.ext a o h n
theorem Tb.lst {H H' : Hp} (t : Tb Pt H H') {a : Addr} {xs : List V} (h : H a = some (.lst xs)) : H' a = some (.lst xs) := t.ext a _ h fun ps z => by cases z
theorem Tb.tup {H H' : Hp} (t : Tb Pt H H') {a : Addr} {xs : List V} (h : H a = some (.tup xs)) : H' a = some (.tup xs) := t.ext a _ h fun ps z => by cases z
theorem Tb.ex {H H' H2 : Hp} (t : Tb Pt H H') (e : Ex H' H2) : Tb Pt H H2 := ⟨t.ext.trans (.of e), t.tab.ext e⟩
theorem Tb.trans {H H' H2 : Hp} (t : Tb Pt H H') (u : Tb Pt H' H2) : Tb Pt H H2 := ⟨t.ext.trans u.ext, u.tab⟩
theorem Tb.of {H H' : Hp} (t : Tabs (TLs Pt) H) (e : Ex H H') : Tb Pt H H' := ⟨.of e, t.ext e⟩
def sp_most_seen (K : PySem.W.Frag) (Pt : Addr) : Sp := fun vs H Q _ => ∃ (g : Addr) (xs : List Nat), vs = [.ref g] ∧ (H g = some (.lst ((xs.map fun c => [c]).map T)) ∧ (∀ c ∈ xs, c ∈ SIGNS) ∧ xs.length < 4000 ∧ Tabs (TLs Pt) H) ∧ ∀ (b n : Nat) q H', Most xs b n → Tb Pt H H' → H' q = some (.tup [T [b], .int (n : Int)]) → Q (.ref q) H'
theorem ok_most_seen (TX : Txt K mg) (TB : RMT.TabX K mg base "most_seen" c Pt) : Has P w K mg base CX0 20 "most_seen" ["signs"] (sp_most_seen K Pt) := by
  refine RMT.okC TX.a_most_seen sc_most_seen (fun vs H Q E h => ?_) (fun f cdv A outer s H vs Q E hf hcc hr h => ?_)
  · obtain ⟨_, _, rfl, _⟩ := h
    rfl
  obtain ⟨g, xs, rfl, ⟨hg, hx, h4, hT⟩, h⟩ := h
  have hcd : cdv = .ref c := TB.code f cdv hf hcc
  refine ⟨_, (pss_cons (ps_if (pt_cmpR (op_eqD hr.units) (pv 0) (pe_lst pa_nil) (nomark _)) (pss_one (ps_ret (pe_tup (pa_cons (pe_gs TX.c_UNSEEN) (pa_cons pe_int pa_nil))))) pss_nil)
        (pss_cons (ps_set (i := 1) sc_most_seen.nd rfl (Or.inl rfl) (RMK.pe_minKey (TL := TLs Pt) (c := c) (P := Pt) (a := "sign") (b := "signs") (i := 0) (k := 0) (by rfl) TX.n_min bt_min (pa_cons (pe_callB (RB.cr_sortedO rfl) (by rfl) TX.n_sorted bt_sorted (pa_cons (pe_callTy (RB.cr_set rfl) (by rfl) TX.n_set bt_set (pa_cons (pv 0) pa_nil)) pa_nil)) pa_nil) TB.tb hcd (tls_mem Pt) (tls_uniq Pt) (hr.mono (by omega)) (NdefX.nscope_by (by decide +kernel)) (NdefX.ndef_free (sc := defScope s_most_seen) (fr := ["signs"]) (by decide +kernel)) (NdefX.ndef_fr (sc := defScope s_most_seen) (fr := ["signs"]) (by decide +kernel) _ (by simp)) rfl rfl (fun _ _ _ _ _ _ => rfl) (fun _ _ _ _ _ _ _ _ _ => (pe_un un_neg (pe_bm PySem.F.plainAttrs_list PySem.F.slot_list_count PySem.F.type_list_count (r := RMK.rCntT K) RMK.mt_cntT (pv 1) (pa_cons (pv 0) pa_nil)))) te_count))
        (pss_one (ps_ret (pe_tup (pa_cons (pv 1) (pa_cons (pe_op op_sub (pe_callB (r := rLenL K) call_lenL (by rfl) TX.n_len bt_len (pa_cons (pv 0) pa_nil)) (pe_bm PySem.F.plainAttrs_list PySem.F.slot_list_count PySem.F.type_list_count (r := RMK.rCntT K) RMK.mt_cntT (pv 0) (pa_cons (pv 1) pa_nil))) pa_nil))))))), ?_⟩
  have lay : ∀ zs : List Nat, (∀ c ∈ zs, c ∈ SIGNS) → SeqAt.shaped (.list ((zs.map fun c => [c]).map fun l => PyData.str (S l))) = true := fun zs hz => (RSD.lay_list (RSD.lay_all fun d hd => by
    obtain ⟨l, hl, rfl⟩ := List.mem_map.mp hd
    obtain ⟨c, hc, rfl⟩ := List.mem_map.mp hl
    exact RSD.lay_str fun e he => by
      rw [List.mem_singleton.mp he]
      have := signs_lt (hz c hc)
      omega)).ok (by decide)
  have dpg : ∀ {H1 : Hp}, Ex H H1 → Dp K H1 (.ref g) (.list ((xs.map fun c => [c]).map fun l => PyData.str (S l))) := fun e => .lst (SqL.of (e _ _ hg)) (RSD.dpAll_T _)
  refine q_when (b := decide (xs = [])) (et_test (ev_is (RSD.ev_eqX (e := .list []) (lay xs hx) (by decide +kernel) (RSD.dpp_ev (ev_var rfl) (dpg (Ex.refl _))) (RSD.dpp_el el_nil .nil)) ?_)) (fun hb H1 e1 => ?_) (fun hb H1 e1 => ?_)
  · cases xs <;> rfl
  · have hz := of_decide_eq_true hb
    exact s_retU (eu_tup (vs := [T [63], .int ((0 : Nat) : Int)]) (ea_cons (ev_s [63] (by decide +kernel)) (ea_cons ev_c ea_nil)) (by show 2 ≤ 100000; decide)) fun q H2 hq e2 h2 => h 63 0 q H2 (.inl ⟨hz, rfl, rfl⟩) (.of hT (e1.trans e2)) h2
  · have hz := of_decide_eq_false hb
    have hg1 := e1 _ _ hg
    have hgS : H1 g = some (.lst ((xs.map fun c => S [c]).map V.str)) := by
      rw [hg1, List.map_map, List.map_map]
      rfl
    refine es_sortedV (ev_var rfl) hgS (by rw [List.length_map]; exact h4) (met_lt hx) H1 (Ex.refl H1) _ fun ys m H2 pm so hm e2 hm2 => ?_
    have mem : ∀ y, y ∈ ys ↔ y ∈ xs.map fun c => S [c] := fun y => pm.mem_iff.trans RB.metT_mem
    obtain ⟨zs, rfl⟩ := letters_of fun y hy => by
      obtain ⟨d, _, rfl⟩ := List.mem_map.mp ((mem y).mp hy)
      exact ⟨d, rfl⟩
    have mem2 : ∀ d, d ∈ zs ↔ d ∈ xs := fun d => by
      refine ⟨fun hd => ?_, fun hd => ?_⟩
      · obtain ⟨d', h1, h2⟩ := List.mem_map.mp ((mem (S [d])).mp (List.mem_map.mpr ⟨d, hd, rfl⟩))
        have := S_inj.mp h2
        cases this
        exact h1
      · obtain ⟨d', h1, h2⟩ := List.mem_map.mp ((mem (S [d])).mpr (List.mem_map.mpr ⟨d, hd, rfl⟩))
        have := S_inj.mp h2
        cases this
        exact h1
    have hne : 0 < (zs.map fun c => [c]).length := by
      rw [List.length_map]
      obtain ⟨x, hx0⟩ := List.exists_mem_of_ne_nil _ hz
      exact List.length_pos_of_mem ((mem2 x).mpr hx0)
    have hm3 : H2 m = some (.lst ((zs.map fun c => [c]).map T)) := by
      rw [hm2, List.map_map, List.map_map]
      rfl
    refine ⟨hT.ext (e1.trans e2), m, g, zs.map fun c => [c], xs.map fun c => [c], rfl, hm3, hne, rfl, e2 _ _ hg1, fun H3 y eN T3 hF => ?_⟩
    obtain ⟨b, rfl, hb2⟩ := best_of (sorted_letters so) mem2 hF
    have tb : Tb Pt H H3 := (Tb.of hT (e1.trans e2)).trans ⟨eN, T3⟩
    have hg3 := tb.lst hg
    have hle : xs.count b ≤ xs.length := List.count_le_length
    exact s_retU (eu_tup (vs := [T [b], .int ((xs.length - xs.count b : Nat) : Int)]) (ea_cons (ev_var rfl) (ea_cons (ev_is (ev_i0 (ev_lenL (ev_var rfl) (SqL.of hg3)) (ev_cntT (ev_var rfl) hg3 (ev_var rfl))) (by rw [List.length_map, List.length_map, count_letters]; congr 1; omega)) ea_nil)) (by show 2 ≤ 100000; decide)) fun q H4 hq e4 h4' => h b _ q H4 (.inr ⟨hb2, rfl⟩) (tb.ex e4) h4'
theorem q_raw {te : TE} {g : TG} {tz : TS} {D : Ends} {σ : L2.St} {H : Hp} (h : te σ H (fun v H1 => g v σ H1 (tz D))) : tSeq (tAsg te g) tz D σ H := h
theorem lcr1 {ta : TA} {g : TG} {tt : TT} {te : TE} {vs : List Nat} {σ : L2.St} {H : Hp} {Q : VK} {n : Nat} (h : EvA ta σ H [.int (n : Int)]) (hn : n ≤ 1000) (Pv : Addr → Nat → Hp → Prop) (h0 : ∀ H1 Dl, Ex H H1 → H1 Dl = none → Pv Dl 0 (upd H1 Dl (.lst [])))
    (hs : ∀ Dl, H Dl = none → ∀ (i : Nat) H', i < n → Pv Dl i H' → g (.int (i : Int)) (wipe σ vs) H' fun σ2 H2 => wipe σ2 vs = wipe σ vs ∧ tt σ2 H2 fun b H3 => if b = true then te σ2 H3 fun y H4 => ∃ acc, H4 Dl = some (.lst acc) ∧ acc.length < sizeLine ∧ Pv Dl (i + 1) (upd H4 Dl (.lst (acc ++ [y]))) else Pv Dl (i + 1) H3)
    (hd : ∀ Dl H', H Dl = none → Pv Dl n H' → Q (.ref Dl) H') : tLc (iRng1 ta) g tt te vs σ H Q := h H (Ex.refl H) _ fun H1 e1 => ⟨(n : Int), rfl, by omega, by omega, fun Dl hD => lc_range (lo := 0) (n := ((n : Int)).toNat) (Pv Dl) (h0 H1 Dl e1 hD) (fun i H' hi p => by
      rw [Int.zero_add]
      exact hs Dl (fresh_back e1 hD) i H' (by omega) p) (fun H' p => hd Dl H' (fresh_back e1 hD) (by rwa [Int.toNat_natCast] at p))⟩
theorem tabs_put {H : Hp} {a : Addr} {xs ys : List V} (t : Tabs (TLs Pt) H) (h : H a = some (.lst xs)) : Tabs (TLs Pt) (upd H a (.lst ys)) := fun p hp => by
  obtain ⟨ps, h1, h2, h3⟩ := t p hp
  have n1 : p.1 ≠ a := fun z => by
    rw [z, h] at h1
    cases h1
  refine ⟨ps, by rw [upd_ne n1]; exact h1, h2, fun pos cv hc => ?_⟩
  obtain ⟨d, e1, e2⟩ := h3 pos cv hc
  have n2 : d ≠ a := fun z => by
    rw [z, h] at e2
    unfold CodeO at e2
    cases e2
  exact ⟨d, e1, by rw [upd_ne n2]; exact e2⟩
theorem Tb.put {H H' : Hp} {a : Addr} {xs ys : List V} (t : Tb Pt H H') (n : H a = none) (h : H' a = some (.lst xs)) : Tb Pt H (upd H' a (.lst ys)) := ⟨fun b o e k => by
  rw [upd_ne fun z => by rw [z, n] at e; cases e]
  exact t.ext b o e k, tabs_put t.tab h⟩
theorem sum_cast : ∀ ns : List Nat, (ns.map fun (n : Nat) => (n : Int)).sum = ((ns.sum : Nat) : Int)
  | [] => rfl
  | n :: r => by
    rw [List.map_cons, List.sum_cons, List.sum_cons, sum_cast r, Int.natCast_add]
/-- one of two, for each of a list of pairs -/
theorem el_lcPair {σ : L2.St} {H : Hp} {te : TE} {Dl : Addr} {qs : List Addr} {zs : List V} {j k m : Nat} {vs : List Nat} (h : Ev te σ H (.ref Dl)) (hl : H Dl = some (.lst (qs.map V.ref))) (hz : zs.length = qs.length) (h1 : qs.length ≤ 1000)
    (hp : ∀ (p : Nat) q z, qs[p]? = some q → zs[p]? = some z → ∃ x y, H q = some (.tup [x, y]) ∧ (((wipe σ vs).set j (some x)).set k (some y))[m]? = some (some z)) (hw : ∀ x y, wipe (((wipe σ vs).set j (some x)).set k (some y)) vs = wipe σ vs) :
    EvL (tLc (iList K te) (gTup K 2 (gCons (gName j) (gCons (gName k) gNil))) tYes (tVar m) vs) σ H zs := fun H1 e Q q =>
  h H1 e _ fun H2 e2 => ⟨Dl, rfl, ⟨_, SqL.of ((e.trans e2) _ _ hl)⟩, fun Al hA => by
    refine lc_it (walk_list (a := Dl) (xs := qs.map V.ref)) (fun i H' => Ex H2 H' ∧ H' Al = some (.lst (zs.take i))) ⟨Ex.new hA, upd_same⟩ (fun i H' _ hp' => ex_l hp'.1 (SqL.of ((e.trans e2) _ _ hl))) (fun i x H' H'' hi hp' y => ?_) (fun H' hp' => ?_)
    · obtain ⟨e3, hAl⟩ := hp'
      obtain ⟨rfl, hx⟩ := y
      rw [List.getElem?_map] at hx
      have hi' : i < qs.length := by simpa using hi
      rw [List.getElem?_eq_getElem hi'] at hx
      obtain rfl := Option.some.inj hx
      have hiz : i < zs.length := by omega
      obtain ⟨x, y, g1, g2⟩ := hp i _ _ (List.getElem?_eq_getElem hi') (List.getElem?_eq_getElem hiz)
      refine ⟨_, _, rfl, SqT.of (((e.trans e2).trans e3) _ _ g1), rfl, _, _, rfl, _, _, rfl, rfl, hw _ _, ?_⟩
      simp only [tYes, ↓reduceIte]
      refine ⟨_, g2, zs.take i, hAl, by rw [List.length_take, big]; omega, e3.mut hA, ?_⟩
      rw [upd_same, ← List.take_append_getElem hiz]
    · obtain ⟨e3, hAl⟩ := hp'
      have : (qs.map V.ref).length = zs.length := by rw [List.length_map]; exact hz.symm
      rw [this, List.take_length] at hAl
      exact q Al H' (fresh_back e2 hA) (e2.trans e3) hAl⟩
/-! ### spoilt_of -/
def Spoilt (l : List Nat) (k N : Nat) (R : List Nat) : Prop := ∃ ns : List Nat, R.length = k ∧ ns.length = k ∧ (∀ (p : Nat) b n, R[p]? = some b → ns[p]? = some n → Most (col l k p) b n) ∧ N = ns.sum
theorem Spoilt.uniq {l : List Nat} {k N M : Nat} {R S : List Nat} (h : Spoilt l k N R) (g : Spoilt l k M S) : N = M ∧ R = S := by
  obtain ⟨ns, h1, h2, h3, h4⟩ := h
  obtain ⟨ms, g1, g2, g3, g4⟩ := g
  have key : ∀ p, p < k → R[p]? = S[p]? ∧ ns[p]? = ms[p]? := fun p hp => by
    have r1 := List.getElem?_eq_getElem (l := R) (i := p) (by omega)
    have r2 := List.getElem?_eq_getElem (l := S) (i := p) (by omega)
    have r3 := List.getElem?_eq_getElem (l := ns) (i := p) (by omega)
    have r4 := List.getElem?_eq_getElem (l := ms) (i := p) (by omega)
    obtain ⟨e1, e2⟩ := (h3 p _ _ r1 r3).uniq (g3 p _ _ r2 r4)
    rw [r1, r2, r3, r4, e1, e2]
    exact ⟨rfl, rfl⟩
  have e1 : R = S := List.ext_getElem? fun p => by
    rcases Nat.lt_or_ge p k with c | c
    · exact (key p c).1
    · rw [List.getElem?_eq_none (by omega), List.getElem?_eq_none (by omega)]
  have e2 : ns = ms := List.ext_getElem? fun p => by
    rcases Nat.lt_or_ge p k with c | c
    · exact (key p c).2
    · rw [List.getElem?_eq_none (by omega), List.getElem?_eq_none (by omega)]
  exact ⟨by rw [h4, g4, e2], e1⟩
theorem get_snoc {α : Type} {xs : List α} {x y : α} {p : Nat} (h : (xs ++ [x])[p]? = some y) : (p < xs.length ∧ xs[p]? = some y) ∨ (p = xs.length ∧ y = x) := by
  rcases Nat.lt_or_ge p xs.length with c | c
  · rw [List.getElem?_append_left c] at h
    exact .inl ⟨c, h⟩
  · rw [List.getElem?_append_right c] at h
    cases e : p - xs.length with
    | zero =>
      rw [e] at h
      exact .inr ⟨by omega, (Option.some.inj h).symm⟩
    | succ n =>
      rw [e] at h
      simp at h
def sp_spoilt_of (K : PySem.W.Frag) (Pt : Addr) : Sp := fun vs H Q _ => ∃ (l : List Nat) (k : Nat), vs = [T l, .int (k : Int)] ∧ ((∀ c ∈ l, c ∈ SIGNS) ∧ l.length < 4000 ∧ 0 < k ∧ k ≤ 100 ∧ Tabs (TLs Pt) H) ∧ ∀ (N : Nat) (R : List Nat) q H', Spoilt l k N R → Tb Pt H H' → H' q = some (.tup [.int (N : Int), T R]) → Q (.ref q) H'
theorem ok_spoilt_of (TX : Txt K mg) (TB : RMT.TabX K mg base "most_seen" c Pt) : Has P w K mg base CX0 22 "spoilt_of" ["seen", "length"] (sp_spoilt_of K Pt) := by
  have h_most_seen := ok_most_seen (P := P) (w := w) (base := base) TX TB
  have h_seen_at := ok_seen_at (P := P) (w := w) (base := base) TX
  refine TX.a_spoilt_of.ok sc_spoilt_of (fun vs H Q E h => ?_) (fun f cdv A outer s H vs Q E hr h => ?_)
  · obtain ⟨_, _, rfl, _⟩ := h
    rfl
  obtain ⟨l, k, rfl, ⟨hs, hl, k0, k1, hT⟩, h⟩ := h
  refine ⟨_, (pss_cons (ps_setLc (i := 2) (own := [("place", 3)]) (by rfl) sc_spoilt_of.nd rfl rfl (sw_true rfl rfl rfl (by decide +kernel)) (pi_range1 (by rfl) TX.n_range (pa_cons (pv 1) pa_nil)) (blkOk_by (N := ["seen", "length", "places", "place", "sign", "spoilt"]) (sc := defScope s_spoilt_of) (by decide +kernel)) (fun _ _ _ _ _ => (pg_name (i := 3) sc_spoilt_of.nd rfl (Or.inl rfl))) (fun _ _ _ _ _ => pts_nil) (fun _ _ _ _ _ => (pe_has h_most_seen (hr.mono (by omega)) pass0 (pa_cons (pe_has h_seen_at (hr.mono (by omega)) pass0 (pa_cons (pv 0) (pa_cons (pv 1) (pa_cons (pv 3) pa_nil)))) pa_nil))))
        (pss_one (ps_ret (pe_tup (pa_cons (pe_callB (cr_sum rfl) (by rfl) TX.n_sum bt_sum (pa_cons (pe_lc (own := [("sign", 4), ("spoilt", 5)]) (g := gTup K 2 (gCons (gName 4) (gCons (gName 5) gNil))) (by rfl) sc_spoilt_of.nd (pi_list (pv 2)) (blkOk_by (N := ["seen", "length", "places", "place", "sign", "spoilt"]) (sc := defScope s_spoilt_of) (by decide +kernel)) (fun _ _ _ _ _ => (pg_tup rfl (pgs_cons (pg_name (i := 4) sc_spoilt_of.nd rfl (Or.inl rfl) (hf := Or.inr rfl)) (pgs_cons (pg_name (i := 5) sc_spoilt_of.nd rfl (Or.inl rfl) (hf := Or.inr rfl)) pgs_nil)))) (fun _ _ _ _ _ => pts_nil) (fun _ _ _ _ _ => (pv 5))) pa_nil)) (pa_cons (pe_join pe_str (pe_lc (own := [("sign", 4), ("spoilt", 5)]) (g := gTup K 2 (gCons (gName 4) (gCons (gName 5) gNil))) (by rfl) sc_spoilt_of.nd (pi_list (pv 2)) (blkOk_by (N := ["seen", "length", "places", "place", "sign", "spoilt"]) (sc := defScope s_spoilt_of) (by decide +kernel)) (fun _ _ _ _ _ => (pg_tup rfl (pgs_cons (pg_name (i := 4) sc_spoilt_of.nd rfl (Or.inl rfl) (hf := Or.inr rfl)) (pgs_cons (pg_name (i := 5) sc_spoilt_of.nd rfl (Or.inl rfl) (hf := Or.inr rfl)) pgs_nil)))) (fun _ _ _ _ _ => pts_nil) (fun _ _ _ _ _ => (pv 4)))) pa_nil)))))), ?_⟩
  refine q_raw ?_
  refine lcr1 (n := k) (ea_cons (ev_var rfl) ea_nil) (by omega) (fun Dl i H' => ∃ (bs ns : List Nat) (qs : List Addr), bs.length = i ∧ ns.length = i ∧ qs.length = i ∧ (∀ (p : Nat) b n, bs[p]? = some b → ns[p]? = some n → Most (col l k p) b n) ∧ (∀ (p : Nat) q b n, qs[p]? = some q → bs[p]? = some b → ns[p]? = some n → H' q = some (.tup [T [b], .int (n : Int)])) ∧ Tb Pt H H' ∧ H' Dl = some (.lst (qs.map V.ref)))
    (fun H1 Dl e1 hD => ⟨[], [], [], rfl, rfl, rfl, fun p b n hb => (by simp at hb), fun p q b n hq => (by simp at hq), .of hT (e1.trans (Ex.new hD)), upd_same⟩) (fun Dl nD i H' hi hp => ?_) (fun Dl H' nD hp => ?_)
  · obtain ⟨bs, ns, qs, l1, l2, l3, hm, hq, tb, hDl⟩ := hp
    refine ⟨rfl, ?_⟩
    simp only [tYes, ↓reduceIte]
    have hcall : EvL (tCall (sp_seen_at K) [] E0 (tCons (tVar 0) (tCons (tVar 1) (tCons (tVar 3) tNil)))) ((wipe (start ["seen", "length", "places", "place", "sign", "spoilt"] [T l, .int (k : Int)]) [3]).set 3 (some (.int (i : Int)))) H' ((col l k i).map fun c => T [c]) :=
      el_call (ea_cons (ev_var rfl) (ea_cons (ev_var rfl) (ea_cons (ev_var rfl) ea_nil))) fun H1 _ Q q E => ⟨l, k, i, rfl, ⟨by omega, k0⟩, q⟩
    refine hcall H' (Ex.refl H') _ fun g H2 hg e2 h2 => ?_
    refine ⟨g, col l k i, rfl, ⟨by rw [h2, List.map_map]; rfl, fun c hc => col_signs k0 hs hc, Nat.lt_of_le_of_lt (col_len l i k k0) hl, tb.tab.ext e2⟩, fun b n q H3 hmb t3 hq3 => ?_⟩
    have hDl3 := t3.lst (e2 _ _ hDl)
    have nq : q ≠ Dl := fun z => by
      rw [z, hDl3] at hq3
      cases hq3
    refine ⟨qs.map V.ref, hDl3, by rw [List.length_map, big]; omega, bs ++ [b], ns ++ [n], qs ++ [q], by rw [List.length_append, l1]; rfl, by rw [List.length_append, l2]; rfl, by rw [List.length_append, l3]; rfl, fun p b' n' hb' hn' => ?_, fun p q' b' n' hq' hb' hn' => ?_, (((tb.ex e2).trans t3).put nD hDl3), by rw [upd_same, List.map_append]; rfl⟩
    · rcases get_snoc hb' with ⟨c1, hb1⟩ | ⟨c1, rfl⟩
      · rcases get_snoc hn' with ⟨c2, hn1⟩ | ⟨c2, rfl⟩
        · exact hm p b' n' hb1 hn1
        · omega
      · rcases get_snoc hn' with ⟨c2, hn1⟩ | ⟨c2, rfl⟩
        · omega
        · have : p = i := by omega
          rw [this]
          exact hmb
    · rcases get_snoc hb' with ⟨c1, hb1⟩ | ⟨c1, rfl⟩
      · rcases get_snoc hn' with ⟨c2, hn1⟩ | ⟨c2, rfl⟩
        · rcases get_snoc hq' with ⟨c3, hq1⟩ | ⟨c3, rfl⟩
          · have h5 := t3.tup (e2 _ _ (hq p q' b' n' hq1 hb1 hn1))
            rw [upd_ne fun z => by rw [z, hDl3] at h5; cases h5]
            exact h5
          · omega
        · omega
      · rcases get_snoc hn' with ⟨c2, hn1⟩ | ⟨c2, rfl⟩
        · omega
        · rcases get_snoc hq' with ⟨c3, hq1⟩ | ⟨c3, rfl⟩
          · omega
          · rw [upd_ne nq]
            exact hq3
  · obtain ⟨bs, ns, qs, l1, l2, l3, hm, hq, tb, hDl⟩ := hp
    have pr : ∀ (p : Nat) q, qs[p]? = some q → ∃ b n, bs[p]? = some b ∧ ns[p]? = some n ∧ H' q = some (.tup [T [b], .int (n : Int)]) := fun p q hq1 => by
      have hp := (List.getElem?_eq_some_iff.mp hq1).1
      exact ⟨_, _, List.getElem?_eq_getElem (by omega), List.getElem?_eq_getElem (by omega), hq p q _ _ hq1 (List.getElem?_eq_getElem (by omega)) (List.getElem?_eq_getElem (by omega))⟩
    refine s_retU (eu_tup (vs := [.int ((ns.sum : Nat) : Int), T bs]) (ea_cons (ev_is (ev_sumL (ns := ns.map fun (n : Nat) => (n : Int)) (el_lcPair (zs := (ns.map fun (n : Nat) => (n : Int)).map V.int) (ev_var rfl) hDl (by rw [List.length_map, List.length_map, l2, l3]) (by omega) (fun p q z hq1 hz1 => ?_) fun _ _ => rfl)) ?_) (ea_cons (ev_is (ev_join (ys := bs.map fun b => [b]) (by decide +kernel) (el_lcPair (zs := (bs.map fun b => [b]).map T) (ev_var rfl) hDl (by rw [List.length_map, List.length_map, l1, l3]) (by omega) (fun p q z hq1 hz1 => ?_) fun _ _ => rfl) (by rw [flat_signs]; omega)) (by rw [flat_signs])) ea_nil)) (by show 2 ≤ 100000; decide)) fun q H4 hq4 e4 h4 => h _ _ q H4 ⟨ns, l1, l2, hm, rfl⟩ (tb.ex e4) h4
    · obtain ⟨b, n, g1, g2, g3⟩ := pr p q hq1
      rw [List.getElem?_map, List.getElem?_map, g2] at hz1
      obtain rfl := Option.some.inj hz1
      exact ⟨_, _, g3, rfl⟩
    · rw [sum_cast]
    · obtain ⟨b, n, g1, g2, g3⟩ := pr p q hq1
      rw [List.getElem?_map, List.getElem?_map, g1] at hz1
      obtain rfl := Option.some.inj hz1
      exact ⟨_, _, g3, rfl⟩
/-! ### spoilt_for, least_spoilt -/
theorem t_call {ta : TA} {sp : Sp} {dvs vs : List V} {E : XK} {σ : L2.St} {H : Hp} {Q : VK} (h : EvA ta σ H vs) (k : ∀ H1, Ex H H1 → sp (vs ++ dvs) H1 Q E) : tCall sp dvs E ta σ H Q := h H (Ex.refl H) _ k
theorem s_retC {ta : TA} {sp : Sp} {dvs vs : List V} {E : XK} {σ : L2.St} {H : Hp} {D : Ends} (h : EvA ta σ H vs) (k : ∀ H1, Ex H H1 → sp (vs ++ dvs) H1 D.rt E) : tRet (tCall sp dvs E ta) D σ H := t_call h k
def sp_spoilt_for (K : PySem.W.Frag) (Pt : Addr) : Sp := fun vs H Q _ => ∃ (l : List Nat) (k : Nat), vs = [T l, .int (k : Int)] ∧ (Seen l ∧ l.length < 4000 ∧ 1 ≤ k ∧ k ≤ 40 ∧ Tabs (TLs Pt) H) ∧ ∀ (N : Nat) (R : List Nat) q H', Spoilt l k N R → Tb Pt H H' → H' q = some (.tup [.int (N : Int), T R]) → Q (.ref q) H'
theorem ok_spoilt_for (TX : Txt K mg) (TB : RMT.TabX K mg base "most_seen" c Pt) : Has P w K mg base CX0 24 "spoilt_for" ["seen", "length"] (sp_spoilt_for K Pt) := by
  have h_spoilt_of := ok_spoilt_of (P := P) (w := w) (base := base) TX TB
  have h_need_seen := ok_need_seen (P := P) (w := w) (base := base) TX
  have h_need_length := ok_need_length (P := P) (w := w) (base := base) TX
  refine TX.a_spoilt_for.ok sc_spoilt_for (fun vs H Q E h => ?_) (fun f cdv A outer s H vs Q E hr h => ?_)
  · obtain ⟨_, _, rfl, _⟩ := h
    rfl
  obtain ⟨l, k, rfl, ⟨hS, hl, k0, k1, hT⟩, h⟩ := h
  refine ⟨_, (pss_cons (ps_expr (pe_has h_need_seen (hr.mono (by omega)) pass0 (pa_cons (pv 0) pa_nil)))
        (pss_cons (ps_expr (pe_has h_need_length (hr.mono (by omega)) pass0 (pa_cons (pv 1) pa_nil)))
        (pss_one (ps_ret (pe_has h_spoilt_of (hr.mono (by omega)) pass0 (pa_cons (pv 0) (pa_cons (pv 1) pa_nil))))))), ?_⟩
  refine q_drop (ev_call (z := .non) (ea_cons (ev_var rfl) ea_nil) fun H1 e1 Q q E => ⟨l, rfl, hS, q⟩) fun H1 e1 => ?_
  refine q_drop (ev_call (z := .non) (ea_cons (ev_var rfl) ea_nil) fun H2 e2 Q q E => ⟨(k : Int), rfl, ⟨by omega, by omega⟩, q⟩) fun H2 e2 => ?_
  exact s_retC (ea_cons (ev_var rfl) (ea_cons (ev_var rfl) ea_nil)) fun H3 e3 => ⟨l, k, rfl, ⟨hS.2.2, hl, by omega, by omega, hT.ext ((e1.trans e2).trans e3)⟩, fun N R q H4 hs tb hq => h N R q H4 hs ((Tb.of hT ((e1.trans e2).trans e3)).trans tb) hq⟩
/-- of all lengths to a most the least one with the fewest spoilt -/
def Least (l : List Nat) (m N k : Nat) (R : List Nat) : Prop := 1 ≤ k ∧ k ≤ m ∧ Spoilt l k N R ∧ ∀ k' N' R', 1 ≤ k' → k' ≤ m → Spoilt l k' N' R' → N ≤ N' ∧ (k' < k → N < N')
theorem Least.uniq {l : List Nat} {m N k N2 k2 : Nat} {R R2 : List Nat} (h : Least l m N k R) (g : Least l m N2 k2 R2) : N = N2 ∧ k = k2 ∧ R = R2 := by
  have h1 := h.2.2.2 k2 N2 R2 g.1 g.2.1 g.2.2.1
  have g1 := g.2.2.2 k N R h.1 h.2.1 h.2.2.1
  have hk : k = k2 := by
    rcases Nat.lt_trichotomy k k2 with c | c | c
    · have := g1.2 c
      omega
    · exact c
    · have := h1.2 c
      omega
  subst hk
  obtain ⟨e1, e2⟩ := h.2.2.1.uniq g.2.2.1
  exact ⟨e1, rfl, e2⟩
theorem Least.more {l : List Nat} {m N k N2 : Nat} {R R2 : List Nat} (h : Least l m N k R) (hs : Spoilt l (m + 1) N2 R2) : if N2 < N then Least l (m + 1) N2 (m + 1) R2 else Least l (m + 1) N k R := by
  split
  · rename_i hlt
    refine ⟨by omega, Nat.le_refl _, hs, fun k' N' R' a1 a2 a3 => ?_⟩
    rcases Nat.lt_or_ge k' (m + 1) with c | c
    · have := (h.2.2.2 k' N' R' a1 (by omega) a3).1
      exact ⟨by omega, fun _ => by omega⟩
    · have : k' = m + 1 := by omega
      subst this
      have := (hs.uniq a3).1
      exact ⟨by omega, fun z => by omega⟩
  · rename_i hlt
    refine ⟨h.1, by have := h.2.1; omega, h.2.2.1, fun k' N' R' a1 a2 a3 => ?_⟩
    rcases Nat.lt_or_ge k' (m + 1) with c | c
    · exact h.2.2.2 k' N' R' a1 (by omega) a3
    · have : k' = m + 1 := by omega
      subst this
      have := (hs.uniq a3).1
      have := h.2.1
      exact ⟨by omega, fun z => by omega⟩
theorem least_one {l : List Nat} {N : Nat} {R : List Nat} (hs : Spoilt l 1 N R) : Least l 1 N 1 R := ⟨Nat.le_refl _, Nat.le_refl _, hs, fun k' N' R' a1 a2 a3 => by
  have : k' = 1 := by omega
  subst this
  have := (hs.uniq a3).1
  exact ⟨by omega, fun z => by omega⟩⟩
/-- the best so far -/
def SoFar (l : List Nat) (i : Nat) (v : V) (H : Hp) : Prop := (i = 0 ∧ v = .non) ∨ (0 < i ∧ ∃ q N k R, v = .ref q ∧ H q = some (.tup [.int ((N : Nat) : Int), .int ((k : Nat) : Int), T R]) ∧ Least l i N k R)
theorem SoFar.ex {l : List Nat} {i : Nat} {v : V} {H H' : Hp} (e : Ex H H') (h : SoFar l i v H) : SoFar l i v H' := by
  rcases h with h | ⟨h0, q, N, k, R, h1, h2, h3⟩
  · exact .inl h
  · exact .inr ⟨h0, q, N, k, R, h1, e _ _ h2, h3⟩
theorem SoFar.tb {l : List Nat} {i : Nat} {v : V} {H H' : Hp} (t : Tb Pt H H') (h : SoFar l i v H) : SoFar l i v H' := by
  rcases h with h | ⟨h0, q, N, k, R, h1, h2, h3⟩
  · exact .inl h
  · exact .inr ⟨h0, q, N, k, R, h1, t.tup h2, h3⟩
def sp_least_spoilt (K : PySem.W.Frag) (Pt : Addr) : Sp := fun vs H Q _ => ∃ (l : List Nat) (m : Nat), vs = [T l, .int (m : Int)] ∧ (Seen l ∧ l.length < 4000 ∧ 1 ≤ m ∧ m ≤ 40 ∧ Tabs (TLs Pt) H) ∧ ∀ (N k : Nat) (R : List Nat) q H', Least l m N k R → Tb Pt H H' → H' q = some (.tup [.int (N : Int), .int (k : Int), T R]) → Q (.ref q) H'
theorem ok_least_spoilt (TX : Txt K mg) (TB : RMT.TabX K mg base "most_seen" c Pt) : Has P w K mg base CX0 24 "least_spoilt" ["seen", "most"] (sp_least_spoilt K Pt) := by
  have h_spoilt_of := ok_spoilt_of (P := P) (w := w) (base := base) TX TB
  have h_need_seen := ok_need_seen (P := P) (w := w) (base := base) TX
  have h_need_length := ok_need_length (P := P) (w := w) (base := base) TX
  refine TX.a_least_spoilt.ok sc_least_spoilt (fun vs H Q E h => ?_) (fun f cdv A outer s H vs Q E hr h => ?_)
  · obtain ⟨_, _, rfl, _⟩ := h
    rfl
  obtain ⟨l, m, rfl, ⟨hS, hl, m0, m1, hT⟩, h⟩ := h
  refine ⟨_, (pss_cons (ps_expr (pe_has h_need_seen (hr.mono (by omega)) pass0 (pa_cons (pv 0) pa_nil)))
        (pss_cons (ps_expr (pe_has h_need_length (hr.mono (by omega)) pass0 (pa_cons (pv 1) pa_nil)))
        (pss_cons (ps_set (i := 2) sc_least_spoilt.nd rfl (Or.inl rfl) pe_non)
        (pss_cons (ps_for PassesOwn.never rfl (pi_range2 (by rfl) TX.n_range (pa_cons pe_int (pa_cons (pe_op op_add (pv 1) pe_int) pa_nil))) (pg_name (i := 3) sc_least_spoilt.nd rfl (Or.inl rfl)) (pss_cons (ps_asg (pe_has h_spoilt_of (hr.mono (by omega)) pass0 (pa_cons (pv 0) (pa_cons (pv 3) pa_nil))) (pg_tup rfl (pgs_cons (pg_name (i := 4) sc_least_spoilt.nd rfl (Or.inl rfl)) (pgs_cons (pg_name (i := 5) sc_least_spoilt.nd rfl (Or.inl rfl)) pgs_nil))))
        (pss_one (ps_if (PW.pt (pw_or (pt_cmpR op_isN (pv 2) pe_non (nomark _)) (pw_or1 (pt_cmpR op_lt (pv 4) (pe_ix ix_tup (pv 2) pe_int (fun _ _ => rfl)) (nomark _))))) (pss_one (ps_set (i := 2) sc_least_spoilt.nd rfl (Or.inl rfl) (pe_tup (pa_cons (pv 4) (pa_cons (pv 3) (pa_cons (pv 5) pa_nil)))))) pss_nil))))
        (pss_one (ps_ret (pv 2))))))), ?_⟩
  refine q_drop (ev_call (z := .non) (ea_cons (ev_var rfl) ea_nil) fun H1 e1 Q q E => ⟨l, rfl, hS, q⟩) fun H1 e1 => ?_
  refine q_drop (ev_call (z := .non) (ea_cons (ev_var rfl) ea_nil) fun H2 e2 Q q E => ⟨(m : Int), rfl, ⟨by omega, by omega⟩, q⟩) fun H2 e2 => ?_
  refine q_asg (v := .non) ev_c fun H3 e3 => ?_
  have e13 := (e1.trans e2).trans e3
  refine q_forR2 (lo := 1) (n := (m : Int) + 1) (ea_cons ev_c (ea_cons (ev_i0 (ev_var rfl) ev_c) ea_nil)) (by omega) (fun i σ' H' => ∃ (v3 v4 v5 : Option V) (bv : V), σ' = [some (T l), some (.int (m : Int)), some bv, v3, v4, v5] ∧ Tb Pt H H' ∧ SoFar l i bv H')
    (fun H4 e4 => ⟨_, _, _, _, rfl, .of hT (e13.trans e4), .inl ⟨rfl, rfl⟩⟩) (fun i σ' H' hi hp => ?_) (fun σ' H' hp => ?_)
  · obtain ⟨v3, v4, v5, bv, rfl, tb, hb⟩ := hp
    refine q_raw (t_call (ea_cons (ev_var rfl) (ea_cons (ev_var rfl) ea_nil)) fun H4 e4 => ⟨l, i + 1, by rw [show (1 : Int) + (i : Int) = ((i + 1 : Nat) : Int) by omega]; rfl, ⟨hS.2.2, hl, by omega, by omega, tb.tab.ext e4⟩, fun N R q H5 hs t5 hq => ⟨q, _, rfl, SqT.of hq, rfl, _, _, rfl, _, _, rfl, rfl, ?_⟩⟩)
    have tb5 := (tb.ex e4).trans t5
    have hb5 := (hb.ex e4).tb t5
    rcases hb5 with ⟨rfl, rfl⟩ | ⟨i0, q0, N0, k0, R0, rfl, hq0, hL⟩
    · refine s_when (b := true) (et_or (a := true) (b := true) (et_is (et_test (ev_isN (x := .non) (ev_var rfl) ev_c)) (by simp)) fun z => by cases z) (fun _ H6 e6 => ?_) (fun z => by cases z)
      refine (eu_tup (vs := [.int (N : Int), .int ((1 : Nat) : Int), T R]) (ea_cons (ev_var rfl) (ea_cons (ev_var rfl) (ea_cons (ev_var rfl) ea_nil))) (by show 3 ≤ 100000; decide)) H6 (Ex.refl H6) _ fun q6 H7 hq6 e7 h7 => ⟨_, _, _, _, rfl, tb5.ex (e6.trans e7), .inr ⟨by omega, q6, N, 1, R, rfl, h7, least_one hs⟩⟩
    · have hM := hL.more hs
      refine s_when (b := decide (N < N0)) (et_is (et_or (a := false) (b := decide ((N : Int) < (N0 : Int))) (et_is (et_test (ev_isN (x := .ref q0) (ev_var rfl) ev_c)) (by simp)) fun _ => et_test (ev_i0 (ev_var rfl) (ev_ixU (i := 0) (ev_var rfl) (SqT.of hq0) ev_c rfl))) (by simp)) (fun hb H6 e6 => ?_) (fun hb H6 e6 => ?_)
      · rw [if_pos (of_decide_eq_true hb)] at hM
        refine (eu_tup (vs := [.int (N : Int), .int ((i + 1 : Nat) : Int), T R]) (ea_cons (ev_var rfl) (ea_cons (ev_is (ev_var rfl) (by congr 1; omega)) (ea_cons (ev_var rfl) ea_nil))) (by show 3 ≤ 100000; decide)) H6 (Ex.refl H6) _ fun q6 H7 hq6 e7 h7 => ⟨_, _, _, _, rfl, tb5.ex (e6.trans e7), .inr ⟨by omega, q6, N, i + 1, R, rfl, h7, hM⟩⟩
      · rw [if_neg (of_decide_eq_false hb)] at hM
        exact ⟨_, _, _, _, rfl, tb5.ex e6, .inr ⟨by omega, q0, N0, k0, R0, rfl, e6 _ _ hq0, hM⟩⟩
  · obtain ⟨v3, v4, v5, bv, rfl, tb, hb⟩ := hp
    rw [show ((m : Int) + 1 - 1).toNat = m by omega] at hb
    rcases hb with ⟨z, _⟩ | ⟨_, q0, N0, k0, R0, rfl, hq0, hL⟩
    · omega
    · exact s_ret (ev_var rfl) fun H6 e6 => h N0 k0 R0 q0 H6 hL (tb.ex e6) (e6 _ _ hq0)
end
end X

namespace X
open PySem PySem.Spec PyProof.Rows L2 Evl TL RC RA RD RE RF RG RH RI RJ RL RS RP RQ RR RT RDI RU RV RX RY RZ1 RM RSU RPL RPI RLT RGU RSH RSD RMK RMT
section
variable {P : Program} {w : World} {K : PySem.W.Frag} {mg : Str → Option Value} {base : Heap}
open LamX
variable {c Pt : Addr}
/-! ### counted sign by sign: plain -/
def SG : List Nat := [46, 97, 98, 99, 100, 101, 102, 103, 104, 105, 106, 107, 108, 109, 110, 111, 112, 113, 114, 115, 116, 117, 118, 119, 120, 121, 122]
theorem sg_up : ∀ i j, i < j → j < 27 → SG.getD i 0 < SG.getD j 0 := by
  have : ∀ j, j < 27 → ∀ i, i < j → SG.getD i 0 < SG.getD j 0 := by decide
  exact fun i j h1 h2 => this j h2 i h1
theorem sg_mem : ∀ c ∈ SIGNS, c ≠ 63 → c ∈ SG := by decide
theorem sum_more (x : Nat) (r : List Nat) : ∀ L : List Nat, L.Nodup → (L.map fun s => (x :: r).count s).sum = (L.map fun s => r.count s).sum + if x ∈ L then 1 else 0
  | [], _ => rfl
  | y :: L, h => by
    obtain ⟨h1, h2⟩ := List.nodup_cons.mp h
    rw [List.map_cons, List.map_cons, List.sum_cons, List.sum_cons, sum_more x r L h2, List.count_cons]
    by_cases e : x = y
    · subst e
      rw [if_neg h1, if_pos (by simp), if_pos List.mem_cons_self]
      omega
    · rw [if_neg (by simpa using e)]
      by_cases m : x ∈ L
      · rw [if_pos m, if_pos (List.mem_cons_of_mem _ m)]
        omega
      · rw [if_neg m, if_neg (fun z => (List.mem_cons.mp z).elim e m)]
        omega
theorem sum_all : ∀ {xs : List Nat}, (∀ c ∈ xs, c ∈ SG) → (SG.map fun s => xs.count s).sum = xs.length
  | [], _ => by decide
  | x :: r, h => by
    rw [sum_more x r SG (by decide), sum_all fun c hc => h c (List.mem_cons_of_mem _ hc), if_pos (h x List.mem_cons_self), List.length_cons]
/-- behind j signs -/
def InP (xs : List Nat) (j b m w : Nat) : Prop := w = ((SG.take j).map fun s => xs.count s).sum ∧ ((m = 0 ∧ b = 63 ∧ ∀ s ∈ SG.take j, xs.count s = 0) ∨ (0 < m ∧ m = xs.count b ∧ b ∈ SG.take j ∧ ∀ s ∈ SG.take j, xs.count s ≤ m ∧ (s < b → xs.count s < m)))
theorem inp0 (xs : List Nat) : InP xs 0 63 0 0 := ⟨rfl, .inl ⟨rfl, rfl, fun s hs => by cases hs⟩⟩
theorem take_snoc {j : Nat} (h : j < 27) : SG.take (j + 1) = SG.take j ++ [SG.getD j 0] := by
  have : ∀ j, j < 27 → SG.take (j + 1) = SG.take j ++ [SG.getD j 0] := by decide
  exact this j h
theorem InP.more {xs : List Nat} {j b m w : Nat} (h : InP xs j b m w) (hj : j < 27) : if m < xs.count (SG.getD j 0) then InP xs (j + 1) (SG.getD j 0) (xs.count (SG.getD j 0)) (w + xs.count (SG.getD j 0)) else InP xs (j + 1) b m (w + xs.count (SG.getD j 0)) := by
  obtain ⟨h1, h2⟩ := h
  have hw : w + xs.count (SG.getD j 0) = ((SG.take (j + 1)).map fun s => xs.count s).sum := by
    rw [take_snoc hj, List.map_append, List.sum_append, h1]
    simp
  have lo : ∀ s ∈ SG.take j, s < SG.getD j 0 := fun s hs => by
    obtain ⟨i, hi⟩ := List.getElem?_of_mem hs
    have hij : i < j := by
      have := (List.getElem?_eq_some_iff.mp hi).1
      rw [List.length_take] at this
      omega
    have e : SG.getD i 0 = s := by
      rw [List.getElem?_take_of_lt hij] at hi
      rw [List.getD, hi]
      rfl
    rw [← e]
    exact sg_up i j hij hj
  split
  · rename_i hlt
    refine ⟨hw, .inr ⟨by omega, rfl, by rw [take_snoc hj]; simp, fun s hs => ?_⟩⟩
    rw [take_snoc hj] at hs
    rcases List.mem_append.mp hs with z | z
    · rcases h2 with ⟨a1, a2, a3⟩ | ⟨a1, a2, a3, a4⟩
      · have := a3 s z
        omega
      · have := (a4 s z).1
        omega
    · rw [List.mem_singleton.mp z]
      exact ⟨Nat.le_refl _, fun z => absurd z (Nat.lt_irrefl _)⟩
  · rename_i hlt
    refine ⟨hw, ?_⟩
    rcases h2 with ⟨a1, a2, a3⟩ | ⟨a1, a2, a3, a4⟩
    · refine .inl ⟨a1, a2, fun s hs => ?_⟩
      rw [take_snoc hj] at hs
      rcases List.mem_append.mp hs with z | z
      · exact a3 s z
      · rw [List.mem_singleton.mp z]
        omega
    · refine .inr ⟨a1, a2, by rw [take_snoc hj]; exact List.mem_append_left _ a3, fun s hs => ?_⟩
      rw [take_snoc hj] at hs
      rcases List.mem_append.mp hs with z | z
      · exact a4 s z
      · rw [List.mem_singleton.mp z]
        have := lo b a3
        exact ⟨by omega, fun z => by omega⟩
theorem InP.most {xs : List Nat} {b m w : Nat} (h : InP xs 27 b m w) (hx : ∀ c ∈ xs, c ∈ SG) : w = xs.length ∧ m ≤ w ∧ Most xs b (w - m) := by
  obtain ⟨h1, h2⟩ := h
  have e : SG.take 27 = SG := by decide
  rw [e, sum_all hx] at h1
  rw [e] at h2
  refine ⟨h1, ?_, ?_⟩
  · rcases h2 with ⟨a1, _⟩ | ⟨_, a2, _⟩
    · omega
    · rw [a2, h1]
      exact List.count_le_length
  · rcases h2 with ⟨a1, a2, a3⟩ | ⟨a1, a2, a3, a4⟩
    · have hn : xs = [] := by
        cases hx0 : xs with
        | nil => rfl
        | cons x r =>
          have h5 : x ∈ xs := by rw [hx0]; exact List.mem_cons_self
          have := a3 x (hx x h5)
          have := List.count_pos_iff.mpr h5
          omega
      refine .inl ⟨hn, a2, ?_⟩
      rw [hn] at h1
      rw [h1, a1]
      rfl
    · refine .inr ⟨⟨List.count_pos_iff.mp (by omega), fun d hd => ?_⟩, by rw [h1, a2]⟩
      have := a4 d (hx d hd)
      rw [← a2]
      exact this
/-- a comprehension over a range with a step, empty or not -/
theorem el_lcR3N {ta : TA} {jx : Nat} {vs : List Nat} {σ : L2.St} {H : Hp} {lo hi st : Nat} {tt : TT} {tel : TE} (f : Nat → Bool) (v : Nat → V) (h : EvA ta σ H [.int (lo : Int), .int (hi : Int), .int (st : Int)]) (h0 : 0 < st) (hs : st ≤ 40000) (hl : lo ≤ 40000) (hh : hi ≤ 40000) (hn : rgN lo hi st ≤ 40000) (hw : ∀ x, wipe ((wipe σ vs).set jx (some x)) vs = wipe σ vs)
    (ht : ∀ (i : Nat) H1, Ex H H1 → i < rgN lo hi st → EvT tt ((wipe σ vs).set jx (some (.int ((lo + i * st : Nat) : Int)))) H1 (f i)) (he : ∀ (i : Nat) H1, Ex H H1 → i < rgN lo hi st → f i = true → Ev tel ((wipe σ vs).set jx (some (.int ((lo + i * st : Nat) : Int)))) H1 (v i)) :
    EvL (tLc (iRng3 ta) (gName jx) tt tel vs) σ H (given (rgN lo hi st) f v) := fun H0 e Q q => h H0 e _ fun H1 e1 => ⟨(lo : Int), (hi : Int), (st : Int), rgN lo hi st, rfl, rgC_pos (by omega) (by omega) (by omega) (by omega) (by omega) (by omega), fun Dl hD =>
  lc_it walk_rangeC (Cw H1 f v Dl) ⟨hD, Ex.new hD, upd_same⟩ (fun _ _ _ _ => trivial) (fun i x H2 H3 hi' p y => by
    obtain ⟨rfl, rfl⟩ := y
    have e0 : (lo : Int) + (i : Nat) * (st : Int) = ((lo + i * st : Nat) : Int) := by rw [Int.natCast_add, Int.natCast_mul]
    show gName jx (V.int ((lo : Int) + (i : Nat) * (st : Int))) (wipe σ vs) H3 _
    rw [e0]
    exact ⟨hw _, cw_turn p (by omega) (ht i H1 (e.trans e1) hi') (he i H1 (e.trans e1) hi')⟩) (fun H' p => q Dl H' (fresh_back e1 p.1) (e1.trans p.2.1) p.2.2)⟩
theorem count_filter_range (g : Nat → Nat) (s : Nat) : ∀ n, ((List.range n).filter fun i => decide (g i = s)).length = ((List.range n).map g).count s
  | 0 => rfl
  | n + 1 => by
    rw [List.range_succ, List.filter_append, List.length_append, List.map_append, List.count_append, count_filter_range g s n]
    congr 1
    by_cases h : g n = s
    · simp [h]
    · simp [h]
theorem col_count {l : List Nat} {k p s : Nat} (h : s ≠ 63) : (stepL l p k).count s = (col l k p).count s := by
  unfold col
  rw [List.count_filter (by simpa using h)]
theorem ev_lenNL {σ : L2.St} {H : Hp} {ta : TE} {xs : List V} (ha : EvL ta σ H xs) : Ev (tCB (rLenL K) (tCons ta tNil)) σ H (.int ((xs.length : Nat) : Int)) := fun H1 e Q q =>
  ha H1 e _ fun p H2 _ e2 h2 => ⟨p, xs, rfl, .inl (SqL.of h2), q H2 e2⟩
theorem q_asgUp {te : TE} {i : Nat} {xs : List V} {tz : TS} {D : Ends} {σ : L2.St} {H : Hp} (h : EvU te σ H xs) (k : ∀ q H1, Ex H H1 → H1 q = some (.tup xs) → tz D (σ.set i (some (.ref q))) H1) : tSeq (tAsg te (gName i)) tz D σ H := h H (Ex.refl H) _ fun q H1 _ e h1 => k q H1 e h1
/-! ### _law_due -/
def sp_law_due (K : PySem.W.Frag) : Sp := fun vs H Q _ => ∃ (l : List Nat) (k : Nat), vs = [T l, .int (k : Int)] ∧ ((∀ c ∈ l, c ∈ SIGNS) ∧ l.length < 4000 ∧ 0 < k ∧ k ≤ 100) ∧ ∀ (N : Nat) (R : List Nat) q H', Spoilt l k N R → Ex H H' → H' q = some (.tup [.int (N : Int), T R]) → Q (.ref q) H'
theorem ok_law_due (TX : Txt K mg) : Has P w K mg base CX0 1 "_law_due" ["seen", "length"] (sp_law_due K) := by
  refine TX.a_law_due.ok sc_law_due (fun vs H Q E h => ?_) (fun f cdv A outer s H vs Q E hr h => ?_)
  · obtain ⟨l, k, rfl, _⟩ := h
    rfl
  obtain ⟨l, k, rfl, h⟩ := h
  refine ⟨_, (pss_cons (ps_set (i := 2) sc_law_due.nd rfl (Or.inl rfl) pe_int)
        (pss_cons (ps_set (i := 3) sc_law_due.nd rfl (Or.inl rfl) pe_str)
        (pss_cons (ps_for PassesOwn.never rfl (pi_range1 (by rfl) TX.n_range (pa_cons (pv 1) pa_nil)) (pg_name (i := 4) sc_law_due.nd rfl (Or.inl rfl)) (pss_cons (ps_set (i := 5) sc_law_due.nd rfl (Or.inl rfl) (pe_tup (pa_cons pe_str (pa_cons pe_int pa_nil))))
        (pss_cons (ps_set (i := 6) sc_law_due.nd rfl (Or.inl rfl) pe_int)
        (pss_cons (ps_for PassesOwn.never rfl (pi_str pe_str) (pg_name (i := 7) sc_law_due.nd rfl (Or.inr rfl)) (pss_cons (ps_set (i := 8) sc_law_due.nd rfl (Or.inl rfl) (pe_callB (r := rLenL K) call_lenL (by rfl) TX.n_len bt_len (pa_cons (pe_lc (own := [("at", 9)]) (by rfl) sc_law_due.nd (pi_range3 (by rfl) TX.n_range (pa_cons (pv 4) (pa_cons (pe_callB call_lenT (by rfl) TX.n_len bt_len (pa_cons (pv 0) pa_nil)) (pa_cons (pv 1) pa_nil)))) (blkOk_by (N := ["seen", "length", "spoilt", "rim", "place", "best", "whole", "sign", "many", "at"]) (sc := defScope s_law_due) (by decide +kernel)) (fun _ _ _ _ _ => (pg_name (i := 9) sc_law_due.nd rfl (Or.inl rfl))) (fun _ _ _ _ _ => (pts_one (pt_cmpR op_eq (pe_ix ix_C (pv 0) (pv 9) (fun _ _ => rfl)) (pv 7) (nomark _)))) (fun _ _ _ _ _ => pe_int)) pa_nil)))
        (pss_cons (ps_set (i := 6) sc_law_due.nd rfl (Or.inl rfl) (pe_op op_add (pv 6) (pv 8)))
        (pss_one (ps_if (pt_cmpR op_gt (pv 8) (pe_ix ix_tup (pv 5) pe_int (fun _ _ => rfl)) (nomark _)) (pss_one (ps_set (i := 5) sc_law_due.nd rfl (Or.inl rfl) (pe_tup (pa_cons (pv 7) (pa_cons (pv 8) pa_nil))))) pss_nil)))))
        (pss_cons (ps_set (i := 3) sc_law_due.nd rfl (Or.inl rfl) (pe_op op_addT (pv 3) (pe_ix ix_tup (pv 5) pe_int (fun _ _ => rfl))))
        (pss_one (ps_set (i := 2) sc_law_due.nd rfl (Or.inl rfl) (pe_op op_sub (pe_op op_add (pv 2) (pv 6)) (pe_ix ix_tup (pv 5) pe_int (fun _ _ => rfl))))))))))
        (pss_one (ps_ret (pe_tup (pa_cons (pv 2) (pa_cons (pv 3) pa_nil)))))))), ?_⟩
  obtain ⟨⟨hs, hl, k0, k1⟩, h⟩ := h
  have sg63 : ∀ j, j < 27 → SG.getD j 0 ≠ 63 := by decide
  refine q_asg (v := .int 0) ev_c fun H1 e1 => ?_
  refine q_asg (ev_s [] (by decide +kernel)) fun H2 e2 => ?_
  refine q_forR1 (n := (k : Int)) (ea_cons (ev_var rfl) ea_nil) (by omega) (fun i σ' H' => ∃ (v4 v5 v6 v7 v8 v9 : Option V) (R ns : List Nat), σ' = [some (T l), some (.int (k : Int)), some (.int ((ns.sum : Nat) : Int)), some (T R), v4, v5, v6, v7, v8, v9] ∧ Ex H H' ∧ R.length = i ∧ ns.length = i ∧ ∀ (p : Nat) b n, R[p]? = some b → ns[p]? = some n → Most (col l k p) b n)
    (fun H3 e3 => ⟨_, _, _, _, _, _, [], [], rfl, (e1.trans e2).trans e3, rfl, rfl, fun p b n hb => by simp at hb⟩) (fun i σ' H' hi hp => ?_) (fun σ' H' hp => ?_)
  · obtain ⟨v4, v5, v6, v7, v8, v9, R, ns, rfl, eH, l1, l2, hm⟩ := hp
    have hik : i < k := by omega
    have hcol : ∀ c ∈ col l k i, c ∈ SG := fun c hc => sg_mem c (col_signs k0 hs hc) (col_ne hc)
    have clen := col_len l i k k0
    refine q_asgUp (eu_tup (vs := [T [63], .int ((0 : Nat) : Int)]) (ea_cons (ev_s [63] (by decide +kernel)) (ea_cons ev_c ea_nil)) (by show 2 ≤ 100000; decide)) fun q1 H3 e3 h3 => ?_
    refine q_asg (v := .int ((0 : Nat) : Int)) ev_c fun H4 e4 => ?_
    refine q_forStr (l := SG) (ev_s SG (by decide +kernel)) (fun j σ2 H2' => ∃ (q b m w : Nat) (w7 w8 w9 : Option V), σ2 = [some (T l), some (.int (k : Int)), some (.int ((ns.sum : Nat) : Int)), some (T R), some (.int (i : Int)), some (.ref q), some (.int (w : Int)), w7, w8, w9] ∧ Ex H H2' ∧ H2' q = some (.tup [T [b], .int (m : Int)]) ∧ InP (col l k i) j b m w)
      (fun H5 e5 => ⟨q1, 63, 0, 0, _, _, _, rfl, ((eH.trans e3).trans e4).trans e5, (e4.trans e5) _ _ h3, inp0 _⟩) (fun j σ2 H5 hj hp => ?_) (fun σ2 H5 hp => ?_)
    · obtain ⟨q, b, m, w, w7, w8, w9, rfl, e5, hq, hI⟩ := hp
      have hj27 : j < 27 := hj
      have esj : ∀ h : j < SG.length, SG[j]'h = SG.getD j 0 := fun h => by rw [List.getD, List.getElem?_eq_getElem h]; rfl
      simp only [esj]
      have hM := hI.more hj27
      have hne := sg63 j hj27
      generalize SG.getD j 0 = sgn at *
      have rgl : rgN (i : Int) (l.length : Int) (k : Int) ≤ l.length := by
        have := stepL_len l i k k0
        unfold stepL at this
        rwa [List.length_map, List.length_range] at this
      refine q_asg (v := .int (((col l k i).count sgn : Nat) : Int)) (ev_is (ev_lenNL (xs := given (rgN (i : Int) (l.length : Int) (k : Int)) (fun x => decide (l.getD (i + x * k) 0 = sgn)) (fun _ => V.int 1)) (el_lcR3N (lo := i) (hi := l.length) (st := k) (fun x => decide (l.getD (i + x * k) 0 = sgn)) (fun _ => V.int 1) (ea_cons (ev_var rfl) (ea_cons (ev_lenT (ev_var rfl) (by omega)) (ea_cons (ev_var rfl) ea_nil))) k0 (by omega) (by omega) (by omega) (by omega) (fun _ => rfl) (fun x H6 e6 hx => ?_) fun x H6 e6 hx _ => ev_c)) ?_) fun H6 e6 => ?_
      · have hlt := rgN_lt k0 hx
        exact et_is (et_test (ev_eqT (ev_ixC (a := l) (i := ((i + x * k : Nat) : Int)) (ev_var rfl) (ev_var rfl) (by omega) (by omega) (by omega)) (ev_var rfl))) (by rw [Int.toNat_natCast]; simp)
      · rw [RPL.given_filter, List.length_map, count_filter_range, ← col_count hne]
        rfl
      refine q_asg (v := .int ((w + (col l k i).count sgn : Nat) : Int)) (ev_is (ev_i0 (ev_var rfl) (ev_var rfl)) (by rw [Int.natCast_add])) fun H7 e7 => ?_
      have hq7 := (e6.trans e7) _ _ hq
      refine s_when (b := decide (m < (col l k i).count sgn)) (et_is (et_test (ev_i0 (ev_var rfl) (ev_ixU (i := 1) (ev_var rfl) (SqT.of hq7) ev_c rfl))) (by simp)) (fun hb H8 e8 => ?_) (fun hb H8 e8 => ?_)
      · rw [if_pos (of_decide_eq_true hb)] at hM
        exact (eu_tup (vs := [T [sgn], .int (((col l k i).count sgn : Nat) : Int)]) (ea_cons (ev_var rfl) (ea_cons (ev_var rfl) ea_nil)) (by show 2 ≤ 100000; decide)) H8 (Ex.refl H8) _ fun q9 H9 hq9 e9 h9 => ⟨q9, sgn, _, _, _, _, _, rfl, (((e5.trans e6).trans e7).trans e8).trans e9, h9, hM⟩
      · rw [if_neg (of_decide_eq_false hb)] at hM
        exact ⟨q, b, m, _, _, _, _, rfl, ((e5.trans e6).trans e7).trans e8, e8 _ _ hq7, hM⟩
    · obtain ⟨q, b, m, w, w7, w8, w9, rfl, e5, hq, hI⟩ := hp
      obtain ⟨hw, hmw, hmost⟩ := hI.most hcol
      refine q_asg (v := T (R ++ [b])) (ev_addT (ev_var rfl) (ev_ixU (i := 0) (ev_var rfl) (SqT.of hq) ev_c rfl) (by simp; omega)) fun H6 e6 => ?_
      refine s_asg (v := .int (((ns ++ [w - m]).sum : Nat) : Int)) (ev_is (ev_i0 (ev_i0 (ev_var rfl) (ev_var rfl)) (ev_ixU (i := 1) (ev_var rfl) (SqT.of (e6 _ _ hq)) ev_c rfl)) (by rw [List.sum_append]; simp; omega)) fun H7 e7 => ?_
      refine ⟨_, _, _, _, _, _, R ++ [b], ns ++ [w - m], rfl, (e5.trans e6).trans e7, by rw [List.length_append, l1]; rfl, by rw [List.length_append, l2]; rfl, fun p b' n' hb' hn' => ?_⟩
      rcases get_snoc hb' with ⟨c1, hb1⟩ | ⟨c1, rfl⟩
      · rcases get_snoc hn' with ⟨c2, hn1⟩ | ⟨c2, rfl⟩
        · exact hm p b' n' hb1 hn1
        · omega
      · rcases get_snoc hn' with ⟨c2, hn1⟩ | ⟨c2, rfl⟩
        · omega
        · have : p = i := by omega
          rw [this]
          exact hmost
  · obtain ⟨v4, v5, v6, v7, v8, v9, R, ns, rfl, eH, l1, l2, hm⟩ := hp
    rw [Int.toNat_natCast] at l1 l2
    exact s_retU (eu_tup (vs := [.int ((ns.sum : Nat) : Int), T R]) (ea_cons (ev_var rfl) (ea_cons (ev_var rfl) ea_nil)) (by show 2 ≤ 100000; decide)) fun q H6 hq e6 h6 => h _ R q H6 ⟨ns, l1, l2, hm, rfl⟩ (eH.trans e6) h6
end
end X

namespace X
open PySem PySem.Spec PyProof.Rows L2 Evl TL RC RA RD RE RF RG RH RI RJ RL RS RP RQ RR RT RDI RU RV RX RY RZ1 RM RSU RPL RPI RLT RGU RSH RSD RMK RMT
section
variable {P : Program} {w : World} {K : PySem.W.Frag} {mg : Str → Option Value} {base : Heap}
open LamX
variable {c Pt : Addr}
/-! ### how great, how shown -/
theorem sum_le {B : Nat} : ∀ {ns : List Nat}, (∀ n ∈ ns, n ≤ B) → ns.sum ≤ ns.length * B
  | [], _ => Nat.zero_le _
  | n :: r, h => by
    have h1 := h n List.mem_cons_self
    have h2 := sum_le fun m hm => h m (List.mem_cons_of_mem _ hm)
    rw [List.sum_cons, List.length_cons, Nat.succ_mul]
    omega
theorem Most.le {xs : List Nat} {b n : Nat} (h : Most xs b n) : n ≤ xs.length := by
  rcases h with ⟨_, _, h⟩ | ⟨_, h⟩
  · omega
  · omega
theorem spoilt_b {l : List Nat} {k N : Nat} {R : List Nat} (h : Spoilt l k N R) (hs : ∀ c ∈ l, c ∈ SIGNS) (hl : l.length < 4000) (k0 : 0 < k) (k1 : k ≤ 100) : N ≤ 400000 ∧ R.length = k ∧ ∀ c ∈ R, c < 4096 := by
  obtain ⟨ns, h1, h2, h3, h4⟩ := h
  have h63 : ∀ c ∈ SIGNS, c < 4096 := by decide
  refine ⟨?_, h1, fun c hc => ?_⟩
  · have := sum_le (B := 4000) (ns := ns) fun n hn => by
      obtain ⟨p, hp⟩ := List.getElem?_of_mem hn
      have hlt := (List.getElem?_eq_some_iff.mp hp).1
      have := (h3 p _ n (List.getElem?_eq_getElem (by omega)) hp).le
      have := col_len l p k k0
      omega
    rw [h4]
    rw [h2] at this
    have : k * 4000 ≤ 100 * 4000 := Nat.mul_le_mul_right _ k1
    omega
  · obtain ⟨p, hp⟩ := List.getElem?_of_mem hc
    have hlt := (List.getElem?_eq_some_iff.mp hp).1
    rcases h3 p c _ hp (List.getElem?_eq_getElem (by omega)) with ⟨_, h5, _⟩ | ⟨h5, _⟩
    · rw [h5]
      decide
    · exact h63 c (col_signs k0 hs h5.1)
theorem count_all {xs : List Nat} {b : Nat} (h : xs.length ≤ xs.count b) : ∀ a ∈ xs, a = b := fun a ha => by
  have : xs.count b = xs.length := Nat.le_antisymm List.count_le_length h
  exact (List.count_eq_length.mp this a ha).symm
theorem sum_zero : ∀ {ns : List Nat}, ns.sum = 0 → ∀ n ∈ ns, n = 0
  | [], _, n, h => by cases h
  | m :: r, h, n, hn => by
    rw [List.sum_cons] at h
    rcases List.mem_cons.mp hn with z | z
    · omega
    · exact sum_zero (by omega) n z
theorem fits_zero {l : List Nat} {k N : Nat} {R : List Nat} (h : Spoilt l k N R) : fitsOne l k ↔ N = 0 := by
  obtain ⟨ns, h1, h2, h3, h4⟩ := h
  constructor
  · intro hf
    have : ∀ n ∈ ns, n ≤ 0 := fun n hn => by
      obtain ⟨p, hp⟩ := List.getElem?_of_mem hn
      have hlt := (List.getElem?_eq_some_iff.mp hp).1
      have hone := hf p (by omega)
      rcases h3 p _ n (List.getElem?_eq_getElem (by omega)) hp with ⟨_, _, h5⟩ | ⟨h5, h6⟩
      · omega
      · have : (col l k p).count R[p] = (col l k p).length := List.count_eq_length.mpr fun a ha => hone _ h5.1 a ha
        omega
    have := sum_le this
    omega
  · intro hz p hp
    rw [h4] at hz
    have hlt : p < ns.length := by omega
    have hn := sum_zero hz _ (List.getElem_mem hlt)
    rcases h3 p _ _ (List.getElem?_eq_getElem (by omega : p < R.length)) (List.getElem?_eq_getElem hlt) with ⟨h5, _, _⟩ | ⟨h5, h6⟩
    · intro a ha
      rw [h5] at ha
      cases ha
    · rw [hn] at h6
      have all := count_all (xs := col l k p) (b := R[p]) (by omega)
      exact fun a ha b hb => (all a ha).trans (all b hb).symm
theorem rep_of {v : V} {d : PyData} {n m : Nat} {H : Hp} {Q : VK} (hd : Dp K H v d) (ok : RSH.Sh d n m) (hn : n ≤ 100) (hm : m ≤ 130000) (q : Q (.str d.shown) H) : RGU.rRep K [v] H Q := by
  have h1 := PyData.shown_le 121 (by decide) d ok.lv
  have h2 := ok.wt
  have h3 := ok.dep
  refine ⟨v, d, rfl, hd, ok.sh, ok.nd, by omega, ?_, q⟩
  rw [big]
  have : (121 + 2) * d.weight ≤ (121 + 2) * 130000 := Nat.mul_le_mul_left _ (by omega)
  omega
theorem tabs_but {H H' : Hp} {b q : Addr} {n : Nat} (t : Tabs (TLs Pt) H) (B : Bag H b q n) (u : But b H H') : Tabs (TLs Pt) H' := fun p hp => by
  obtain ⟨ns, i, j, cc, tt, hb, _⟩ := B
  obtain ⟨ps, h1, h2, h3⟩ := t p hp
  refine ⟨ps, u _ _ (fun z => by rw [z, hb] at h1; cases h1) h1, h2, fun pos cv hc => ?_⟩
  obtain ⟨d, e1, e2⟩ := h3 pos cv hc
  exact ⟨d, e1, u _ _ (fun z => by rw [z, hb] at e2; unfold CodeO at e2; cases e2) e2⟩
theorem bag_tb {H H' : Hp} {b q : Addr} {n : Nat} (B : Bag H b q n) (t : Tb Pt H H') : Bag H' b q n := by
  obtain ⟨ns, i, j, cc, tt, h1, h2, h3⟩ := B
  exact ⟨ns, i, j, cc, tt, t.lst h1, t.lst h2, h3⟩
theorem s_asgUp {te : TE} {i : Nat} {xs : List V} {D : Ends} {σ : L2.St} {H : Hp} (h : EvU te σ H xs) (k : ∀ q H1, Ex H H1 → H1 q = some (.tup xs) → D.nx (σ.set i (some (.ref q))) H1) : tAsg te (gName i) D σ H := h H (Ex.refl H) _ fun q H1 _ e h1 => k q H1 e h1
theorem q_best {t : TT} {tu tz : TS} {D : Ends} {σ : L2.St} {H : Hp} {l R : List Nat} {i N : Nat} {v : V} {Pz : L2.St → Hp → Prop} (hb : SoFar l i v H) (hs : Spoilt l (i + 1) N R) (ht0 : v = .non → EvT t σ H true) (ht1 : ∀ (q0 : Addr) (N0 k0 : Nat) (R0 : List Nat), v = .ref q0 → H q0 = some (.tup [.int (N0 : Int), .int (k0 : Int), T R0]) → EvT t σ H (decide (N < N0)))
    (hu : (∀ σ' H', Pz σ' H' → tz D σ' H') → Least l (i + 1) N (i + 1) R → ∀ H1, Ex H H1 → tu { D with nx := tz D } σ H1) (hk : ∀ H1, Ex H H1 → SoFar l (i + 1) v H1 → Pz σ H1) (rest : ∀ σ' H', Pz σ' H' → tz D σ' H') : tSeq (tIfS t tu tNext) tz D σ H := by
  rcases hb with ⟨rfl, rfl⟩ | ⟨i0, q0, N0, k0, R0, rfl, hq0, hL⟩
  · exact q_when (ht0 rfl) (fun _ H1 e1 => hu rest (least_one hs) H1 e1) (fun z => by cases z)
  · have hM := hL.more hs
    refine q_when (ht1 q0 N0 k0 R0 rfl hq0) (fun hb H1 e1 => hu rest ?_ H1 e1) (fun hb H1 e1 => rest _ _ (hk H1 e1 (.inr ⟨by omega, q0, N0, k0, R0, rfl, e1 _ _ hq0, ?_⟩)))
    · rwa [if_pos (of_decide_eq_true hb)] at hM
    · rwa [if_neg (of_decide_eq_false hb)] at hM
theorem tnil_of {σ : L2.St} {H : Hp} {Q : List V → Hp → Prop} (h : Q [] H) : tNil σ H Q := h
/-- two that are shown alike: the first one's call may make code objects -/
theorem s_neRep {ta : TA} {sp : Sp} {dvs vs : List V} {E : XK} {tb : TE} {tu : TS} {D : Ends} {σ : L2.St} {H : Hp} {d : PyData} {n m : Nat} (hv : EvA ta σ H vs) (k : ∀ H1, Ex H H1 → ∀ Q : VK, (∀ v H2, Tb Pt H H2 → Dp K H2 v d → Q v H2) → sp (vs ++ dvs) H1 Q E) (ok : RSH.Sh d n m) (hn : n ≤ 100) (hm : m ≤ 130000)
    (hb : ∀ H2, Tb Pt H H2 → EvP tb σ H2 (RSH.ShP K d)) (rest : ∀ H2, Tb Pt H H2 → D.nx σ H2) : tIfS (tTest (tOp rNe (tCB (RGU.rRep K) (tCons (tCall sp dvs E ta) tNil)) (tCB (RGU.rRep K) (tCons tb tNil)))) tu tNext D σ H :=
  t_call hv fun H1 e1 => k H1 e1 _ fun v H2 t2 hd => by
    refine tnil_of ?_
    dsimp only
    refine rep_of hd ok hn hm ?_
    refine (RSH.ev_rep ok hn hm (hb H2 t2)) H2 (Ex.refl H2) _ fun H3 e3 => ?_
    exact ⟨rfl, false, by simp, rest H3 (t2.ex e3)⟩
theorem q_neRep {ta : TA} {sp : Sp} {dvs vs : List V} {E : XK} {tb : TE} {tu tz : TS} {D : Ends} {σ : L2.St} {H : Hp} {d : PyData} {n m : Nat} (hv : EvA ta σ H vs) (k : ∀ H1, Ex H H1 → ∀ Q : VK, (∀ v H2, Tb Pt H H2 → Dp K H2 v d → Q v H2) → sp (vs ++ dvs) H1 Q E) (ok : RSH.Sh d n m) (hn : n ≤ 100) (hm : m ≤ 130000)
    (hb : ∀ H2, Tb Pt H H2 → EvP tb σ H2 (RSH.ShP K d)) (rest : ∀ H2, Tb Pt H H2 → tz D σ H2) : tSeq (tIfS (tTest (tOp rNe (tCB (RGU.rRep K) (tCons (tCall sp dvs E ta) tNil)) (tCB (RGU.rRep K) (tCons tb tNil)))) tu tNext) tz D σ H := s_neRep (D := { D with nx := tz D }) hv k ok hn hm hb rest
/-! ### the law -/
def sp_law (K : PySem.W.Frag) (Pt : Addr) : Sp := fun vs H Q _ => ∃ (a : Addr) (ns : List Int), vs = [.ref a] ∧ (SqL K H a (ns.map V.int) ∧ ns.length ≤ 63 ∧ H Pt = some (.tbl #[])) ∧ ∀ H', Q (.bl true) H'
theorem sp_law_start {a : Addr} {ns : List Int} {H : Hp} (hl : ns.length ≤ 63) (hP : H Pt = some (.tbl #[])) (hS : SqL K H a (ns.map V.int)) : sp_law K Pt [.ref a] H (fun v _ => v = .bl true) fun _ _ _ => False :=
  ⟨a, ns, rfl, ⟨hS, hl, hP⟩, fun _ => rfl⟩
theorem ok_law {f : Addr} {fd : FuncData} (F : Fun K "law" "law" s_law f fd) (TX : Txt K mg) (TB : RMT.TabX K mg base "most_seen" c Pt) : RGU.LawOk P w K mg base 40 f fd ["script"] (sp_law K Pt) := by
  have h_law_bag := ok_law_bag (P := P) (w := w) (base := base) TX
  have h_law_draw := ok_law_draw (P := P) (w := w) (base := base) TX
  have h_law_seen := ok_law_seen (P := P) (w := w) (base := base) TX
  have h_law_due := ok_law_due (P := P) (w := w) (base := base) TX
  have h_rim_for := ok_rim_for (P := P) (w := w) (base := base) TX
  have h_spoilt_for := ok_spoilt_for (P := P) (w := w) (base := base) TX TB
  have h_least_spoilt := ok_least_spoilt (P := P) (w := w) (base := base) TX TB
  refine RGU.lawOk F sc_law (fun vs H Q E h => ?_) (fun cdv s H vs Q E hr h => ?_)
  · obtain ⟨_, _, rfl, _⟩ := h
    rfl
  obtain ⟨a, ns, rfl, ⟨hs, hl, hP⟩, h⟩ := h
  refine ⟨_, (pss_cons (ps_set (i := 1) sc_law.nd rfl (Or.inl rfl) (pe_has h_law_bag (hr.mono (by omega)) pass0 (pa_cons (pv 0) pa_nil)))
        (pss_cons (ps_for PassesOwn.never rfl (pi_range1 (by rfl) TX.n_range (pa_cons (pe_op op_add pe_int (pe_callB (call_min2 rfl) (by rfl) TX.n_min bt_min (pa_cons pe_int (pa_cons (pe_callB (r := rLenL K) call_lenL (by rfl) TX.n_len bt_len (pa_cons (pv 0) pa_nil)) pa_nil)))) pa_nil)) (pg_name (i := 2) sc_law.nd rfl (Or.inl rfl)) (pss_cons (ps_set (i := 3) sc_law.nd rfl (Or.inl rfl) (pe_has h_law_seen (hr.mono (by omega)) pass0 (pa_cons (pv 1) (pa_cons (pe_ix ix_list (pe_lst (pa_cons pe_int (pa_cons pe_int (pa_cons pe_int pa_nil)))) (pe_has h_law_draw (hr.mono (by omega)) pass0 (pa_cons (pv 1) (pa_cons pe_int pa_nil))) (fun _ _ => rfl)) pa_nil))))
        (pss_cons (ps_set (i := 4) sc_law.nd rfl (Or.inl rfl) (pe_ix ix_list (pe_lst (pa_cons (pe_op op_add pe_int (pe_has h_law_draw (hr.mono (by omega)) pass0 (pa_cons (pv 1) (pa_cons pe_int pa_nil)))) (pa_cons (pe_op op_add pe_int (pe_has h_law_draw (hr.mono (by omega)) pass0 (pa_cons (pv 1) (pa_cons pe_int pa_nil)))) pa_nil))) (pe_has h_law_draw (hr.mono (by omega)) pass0 (pa_cons (pv 1) (pa_cons pe_int pa_nil))) (fun _ _ => rfl)))
        (pss_cons (ps_set (i := 5) sc_law.nd rfl (Or.inl rfl) pe_non)
        (pss_cons (ps_for PassesOwn.never rfl (pi_range2 (by rfl) TX.n_range (pa_cons pe_int (pa_cons (pe_op op_add (pv 4) pe_int) pa_nil))) (pg_name (i := 6) sc_law.nd rfl (Or.inl rfl)) (pss_cons (ps_asg (pe_has h_law_due (hr.mono (by omega)) pass0 (pa_cons (pv 3) (pa_cons (pv 6) pa_nil))) (pg_tup rfl (pgs_cons (pg_name (i := 7) sc_law.nd rfl (Or.inl rfl)) (pgs_cons (pg_name (i := 8) sc_law.nd rfl (Or.inl rfl)) pgs_nil))))
        (pss_cons (ps_if (PW.pt (pw_or (pt_cmpR op_isN (pv 5) pe_non (nomark _)) (pw_or1 (pt_cmpR op_lt (pv 7) (pe_ix ix_tup (pv 5) pe_int (fun _ _ => rfl)) (nomark _))))) (pss_one (ps_set (i := 5) sc_law.nd rfl (Or.inl rfl) (pe_tup (pa_cons (pv 7) (pa_cons (pv 6) (pa_cons (pv 8) pa_nil)))))) pss_nil)
        (pss_cons (ps_if (pt_cmpR op_ne (RGU.pe_rep rfl hr (by rfl) TX.n_repr (pa_cons (pe_has h_spoilt_for (hr.mono (by omega)) pass0 (pa_cons (pv 3) (pa_cons (pv 6) pa_nil))) pa_nil)) (RGU.pe_rep rfl hr (by rfl) TX.n_repr (pa_cons (pe_tup (pa_cons (pv 7) (pa_cons (pv 8) pa_nil))) pa_nil)) (nomark _)) (pss_one (ps_ret pe_bl)) pss_nil)
        (pss_one (ps_if (pt_cmpR op_ne (pe_cmpR op_isN (pe_has h_rim_for (hr.mono (by omega)) pass0 (pa_cons (pv 3) (pa_cons (pv 6) pa_nil))) pe_non (nomark _)) (pe_cmpR op_gt (pv 7) pe_int (nomark _)) (nomark _)) (pss_one (ps_ret pe_bl)) pss_nil))))))
        (pss_one (ps_if (pt_cmpR op_ne (RGU.pe_rep rfl hr (by rfl) TX.n_repr (pa_cons (pe_has h_least_spoilt (hr.mono (by omega)) pass0 (pa_cons (pv 3) (pa_cons (pv 4) pa_nil))) pa_nil)) (RGU.pe_rep rfl hr (by rfl) TX.n_repr (pa_cons (pv 5) pa_nil)) (nomark _)) (pss_one (ps_ret pe_bl)) pss_nil)))))))
        (pss_one (ps_ret pe_bl)))), ?_⟩
  have e60 : (2 : Nat) ^ 60 = 1152921504606846976 := by decide
  have e58 : (2 : Nat) ^ 58 = 288230376151711744 := by decide
  have hT : Tabs (TLs Pt) H := fun p hp => by
    rw [List.mem_singleton.mp hp]
    exact TabS.nil hP
  refine ⟨_, rfl, a, ns, rfl, ⟨hs, hl⟩, fun b q H1 hb0 e1 B1 => ?_⟩
  have hs1 := ex_l e1 hs
  refine q_forR1 (n := 2 + (if (ns.length : Int) < 3 then (ns.length : Int) else 3)) (ea_cons (ev_is (ev_i0 ev_c (ev_min2 ev_c (ev_lenL (ev_var rfl) hs1))) (by rw [List.length_map])) ea_nil) (by split <;> omega)
    (fun i σ' H' => ∃ v2 v3 v4 v5 v6 v7 v8 : Option V, σ' = [some (.ref a), some (.ref b), v2, v3, v4, v5, v6, v7, v8] ∧ Bag H' b q (2000 * i) ∧ Tabs (TLs Pt) H')
    (fun H2 e2 => ⟨_, _, _, _, _, _, _, rfl, B1.ex e2, hT.ext (e1.trans e2)⟩) (fun i σ' H' hi hp => ?_) (fun σ' H' hp => ?_)
  · obtain ⟨v2, v3, v4, v5, v6, v7, v8, rfl, B2, hT2⟩ := hp
    have hi6 : i < 7 := by
      split at hi <;> omega
    refine ⟨_, rfl, by show 3 ≤ sizeLine; decide, fun p hp => ⟨_, rfl, b, q, _, _, rfl, ⟨B2.new hp, by rw [e60]; omega, by decide, by decide⟩, fun x H3 x0 x1 u3 B3 => ?_⟩⟩
    have hmost : ∃ m : Nat, atI ([V.int 12, V.int 60, V.int 300] : List V) x = some (.int (m : Int)) ∧ 1 ≤ m ∧ m ≤ 300 := by
      rcases (show x = 0 ∨ x = 1 ∨ x = 2 by omega) with z | z | z <;> subst z
      · exact ⟨12, rfl, by decide, by decide⟩
      · exact ⟨60, rfl, by decide, by decide⟩
      · exact ⟨300, rfl, by decide, by decide⟩
    obtain ⟨m, hm, m0, m1⟩ := hmost
    refine ⟨p, _, x, _, rfl, rfl, SqL.of (u3 p _ (B2.ne hp).1 upd_same), hm, ?_⟩
    refine ⟨b, q, m, _, rfl, ⟨B3, by rw [e58]; omega, m0, by omega⟩, fun z H4 z1 z2 z3 u4 B4 => ?_⟩
    have hseen : Seen z := ⟨z1, by omega, z3⟩
    refine ⟨_, rfl, b, q, _, _, rfl, ⟨B4, by rw [e60]; omega, by decide, by decide⟩, fun y H5 y0 y1 u5 B5 => ⟨_, _, rfl, rfl, _, rfl, b, q, _, _, rfl, ⟨B5, by rw [e60]; omega, by decide, by decide⟩, fun y2 H6 a0 a1 u6 B6 => ⟨_, _, rfl, rfl, by show 2 ≤ sizeLine; decide, fun p2 hp2 => ⟨_, rfl, b, q, _, _, rfl, ⟨B6.new hp2, by rw [e60]; omega, by decide, by decide⟩, fun y3 H7 c0 c1 u7 B7 => ?_⟩⟩⟩⟩
    have hmo : ∃ mo : Nat, atI ([V.int (1 + y), V.int (1 + y2)] : List V) y3 = some (.int (mo : Int)) ∧ 1 ≤ mo ∧ mo ≤ 40 := by
      rcases (show y3 = 0 ∨ y3 = 1 by omega) with z | z <;> subst z
      · exact ⟨(1 + y).toNat, by rw [Int.toNat_of_nonneg (by omega)]; rfl, by omega, by omega⟩
      · exact ⟨(1 + y2).toNat, by rw [Int.toNat_of_nonneg (by omega)]; rfl, by omega, by omega⟩
    obtain ⟨mo, hmo, mo0, mo1⟩ := hmo
    refine ⟨p2, _, y3, _, rfl, rfl, SqL.of (u7 p2 _ (B6.ne hp2).1 upd_same), hmo, ?_⟩
    have uu : But b H' H7 := ((((((But.new hp).trans u3).trans u4).trans u5).trans u6).trans (But.new hp2)).trans u7
    have hT7 := tabs_but hT2 B2 uu
    have B7' := B7.mono (show _ ≤ 2000 * (i + 1) by omega)
    clear u3 u4 u5 u6 u7 B3 B4 B5 B6 B7
    refine q_asg (v := .non) ev_c fun H8 e8 => ?_
    have hT8 := hT7.ext e8
    have shS : ∀ {k N : Nat} {R : List Nat}, Spoilt z k N R → 0 < k → k ≤ 40 → RSH.Sh (.tuple [.int (N : Int), .str (S R)]) 1 1000 := fun {k N R} hS k0 k1 => by
      obtain ⟨b1, b2, b3⟩ := spoilt_b hS z3 (by omega) k0 (by omega)
      exact (RSH.sh_tup (RSH.sh_cons (RSH.sh_int (by rw [Int.natAbs_natCast]; exact Nat.lt_of_le_of_lt b1 (by decide))) (RSH.sh_cons (RSH.sh_str b3) RSH.sh_nil))).mono (by decide) (by omega)
    have shL : ∀ {k N : Nat} {R : List Nat}, Least z mo N k R → RSH.Sh (.tuple [.int (N : Int), .int (k : Int), .str (S R)]) 1 1000 := fun {k N R} hL => by
      obtain ⟨b1, b2, b3⟩ := spoilt_b hL.2.2.1 z3 (by omega) hL.1 (by have := hL.2.1; omega)
      have k1 := hL.2.1
      exact (RSH.sh_tup (RSH.sh_cons (RSH.sh_int (by rw [Int.natAbs_natCast]; exact Nat.lt_of_le_of_lt b1 (by decide))) (RSH.sh_cons (RSH.sh_int (by rw [Int.natAbs_natCast]; exact Nat.lt_of_le_of_lt (show k ≤ 40 by omega) (by decide))) (RSH.sh_cons (RSH.sh_str b3) RSH.sh_nil)))).mono (by decide) (by omega)
    refine q_forR2 (lo := 1) (n := (mo : Int) + 1) (ea_cons ev_c (ea_cons (ev_op (ev_var rfl) ev_c rv_I0) ea_nil)) (by omega) (fun j σ2 H2' => ∃ (w6 w7 w8 : Option V) (bv : V), σ2 = [some (.ref a), some (.ref b), some (.int (i : Int)), some (T z), some (.int (mo : Int)), some bv, w6, w7, w8] ∧ Tb Pt H8 H2' ∧ SoFar z j bv H2')
      (fun H9 e9 => ⟨_, _, _, _, rfl, .of hT8 e9, .inl ⟨rfl, rfl⟩⟩) (fun j σ2 H9 hj hp => ?_) (fun σ2 H9 hp => ?_)
    · obtain ⟨w6, w7, w8, bv, rfl, tb, hb⟩ := hp
      have ej : (1 : Int) + (j : Int) = ((j + 1 : Nat) : Int) := by omega
      rw [ej]
      refine q_raw (t_call (ea_cons (ev_var rfl) (ea_cons (ev_var rfl) ea_nil)) fun H10 e10 => ⟨z, j + 1, rfl, ⟨z3, by omega, by omega, by omega⟩, fun N R q1 H11 hS e11 hq1 => ⟨q1, _, rfl, SqT.of hq1, rfl, _, _, rfl, _, _, rfl, rfl, ?_⟩⟩)
      have tb11 := (tb.ex e10).ex e11
      have hb11 := (hb.ex e10).ex e11
      refine q_best (Pz := fun σ' H' => ∃ bv', σ' = [some (.ref a), some (.ref b), some (.int (i : Int)), some (T z), some (.int (mo : Int)), some bv', some (.int ((j + 1 : Nat) : Int)), some (.int (N : Int)), some (T R)] ∧ Tb Pt H8 H' ∧ SoFar z (j + 1) bv' H') hb11 hS (fun hv => ?_) (fun q0 N0 k0 R0 hv hq0 => ?_) (fun rest hL H12 e12 => ?_) (fun H12 e12 hb12 => ⟨_, rfl, tb11.ex e12, hb12⟩) (fun σ' H' hp => ?_)
      · subst hv
        exact et_or (a := true) (b := true) (et_is (et_test (ev_isN (x := .non) (ev_var rfl) ev_c)) (by simp)) fun z => by cases z
      · subst hv
        exact et_is (et_or (a := false) (b := decide ((N : Int) < (N0 : Int))) (et_is (et_test (ev_isN (x := .ref q0) (ev_var rfl) ev_c)) (by simp)) fun _ => et_test (ev_i0 (ev_var rfl) (ev_ixU (i := 0) (ev_var rfl) (SqT.of hq0) ev_c rfl))) (by simp)
      · exact s_asgUp (eu_tup (vs := [.int (N : Int), .int ((j + 1 : Nat) : Int), T R]) (ea_cons (ev_var rfl) (ea_cons (ev_var rfl) (ea_cons (ev_var rfl) ea_nil))) (by show 3 ≤ 100000; decide)) fun q6 H13 e13 h13 => rest _ _ ⟨_, rfl, tb11.ex (e12.trans e13), .inr ⟨by omega, q6, N, j + 1, R, rfl, h13, hL⟩⟩
      obtain ⟨bv', rfl, tb', hb'⟩ := hp
      refine q_neRep (Pt := Pt) (d := .tuple [.int (N : Int), .str (S R)]) (ea_cons (ev_var rfl) (ea_cons (ev_var rfl) ea_nil)) (fun H12 e12 Q k => ⟨z, j + 1, rfl, ⟨hseen, by omega, by omega, by omega, tb'.tab.ext e12⟩, fun N2 R2 q2 H13 hs2 t13 hq2 => ?_⟩) (shS hS (by omega) (by omega)) (by decide) (by decide) (fun H12 t12 => RSH.shp_eu (eu_tup (vs := [.int (N : Int), T R]) (ea_cons (ev_var rfl) (ea_cons (ev_var rfl) ea_nil)) (by show 2 ≤ 100000; decide)) (.cons (.int _) (.cons (.str _) .nil))) fun H12 t12 => ?_
      · obtain ⟨rfl, rfl⟩ := hs2.uniq hS
        exact k _ H13 ((Tb.of tb'.tab e12).trans t13) (.tup (SqT.of hq2) (.cons (.int _) (.cons (.str _) .nil)))
      have hfz := fits_zero hS
      refine s_when (b := false) (et_is (et_test (ev_op (ev_isN (x := optT (rimOf z (j + 1))) (ev_call (ea_cons (ev_var rfl) (ea_cons (ev_var rfl) ea_nil)) fun H13 e13 Q q E => ⟨z, j + 1, rfl, ⟨hseen, by omega, by omega, by omega⟩, q⟩) ev_c) (ev_i0 (ev_var rfl) ev_c) (rv_ne rfl))) ?_) (fun z => by cases z) (fun _ H13 e13 => ⟨_, _, _, _, rfl, (tb'.trans t12).ex e13, (hb'.tb t12).ex e13⟩)
      unfold rimOf
      by_cases hf : fitsOne z (j + 1)
      · have := hfz.mp hf
        subst this
        rw [if_pos hf]
        simp [optT, T]
      · have hN : ¬ N = 0 := fun e => hf (hfz.mpr e)
        rw [if_neg hf]
        have : (N : Int) > 0 := by omega
        simp [optT, this]
        omega
    · obtain ⟨w6, w7, w8, bv, rfl, tb, hb⟩ := hp
      rw [show ((mo : Int) + 1 - 1).toNat = mo by omega] at hb
      rcases hb with ⟨z0, _⟩ | ⟨_, q0, N0, k0, R0, rfl, hq0, hL⟩
      · omega
      · refine s_neRep (Pt := Pt) (d := .tuple [.int (N0 : Int), .int (k0 : Int), .str (S R0)]) (ea_cons (ev_var rfl) (ea_cons (ev_var rfl) ea_nil)) (fun H12 e12 Q k => ⟨z, mo, rfl, ⟨hseen, by omega, by omega, by omega, tb.tab.ext e12⟩, fun N2 k2 R2 q2 H13 hs2 t13 hq2 => ?_⟩) (shL hL) (by decide) (by decide) (fun H12 t12 => RSH.shp_ev (ev_var rfl) (.tup (SqT.of (t12.tup hq0)) (.cons (.int _) (.cons (.int _) (.cons (.str _) .nil))))) fun H12 t12 => ?_
        · obtain ⟨rfl, rfl, rfl⟩ := hs2.uniq hL
          exact k _ H13 ((Tb.of tb.tab e12).trans t13) (.tup (SqT.of hq2) (.cons (.int _) (.cons (.int _) (.cons (.str _) .nil))))
        · exact ⟨_, _, _, _, _, _, _, rfl, bag_tb (B7'.ex e8) (tb.trans t12), t12.tab⟩
  · obtain ⟨v2, v3, v4, v5, v6, v7, v8, rfl, B2, hT2⟩ := hp
    exact s_ret ev_c fun H3 e3 => h H3
end
end X

namespace X
open PySem PySem.Spec PyProof.Rows L2 Evl TL RC RA RD RE RF RG RH RI RJ RL RS RP RQ RR RT RDI RU RV RX RY RZ1 RM RSU RPL RPI RLT RGU RSH RSD RMK RMT
theorem all_mk {l : PySem.W.OpenLaw} {w : World} {K : PySem.W.Frag} {h : Heap} {mg : Str → Option Value} {fa : Addr} (X : K.In h) (G : h.Ns mainGlobals mg) (hfa : mg "law" = some (.ref fa))
    {ft cT T : Addr} {o0 : Obj} {ft0 : FuncData} (hft : mg "most_seen" = some (.ref ft)) (hto : h.get? ft = some o0) (htd : o0.data = .func ft0) (htc : ft0.code = .ref cT) (hcd : PySem.W.CodeHd h cT T)
    {f0 : Addr}
    {od0 an0 : Option Addr} {sl0 : Array (Option Value)} {oc0 kV0 dc0 pm0 cd0 ct0 : Value}
    {f1 : Addr}
    {od1 an1 : Option Addr} {sl1 : Array (Option Value)} {oc1 kV1 dc1 pm1 cd1 ct1 : Value}
    {f2 : Addr}
    {od2 an2 : Option Addr} {sl2 : Array (Option Value)} {oc2 kV2 dc2 pm2 cd2 ct2 : Value}
    {f3 : Addr}
    {od3 an3 : Option Addr} {sl3 : Array (Option Value)} {oc3 kV3 dc3 pm3 cd3 ct3 : Value}
    {f4 : Addr}
    {od4 an4 : Option Addr} {sl4 : Array (Option Value)} {oc4 kV4 dc4 pm4 cd4 ct4 : Value}
    {f5 : Addr}
    {od5 an5 : Option Addr} {sl5 : Array (Option Value)} {oc5 kV5 dc5 pm5 cd5 ct5 : Value}
    {f6 : Addr}
    {od6 an6 : Option Addr} {sl6 : Array (Option Value)} {oc6 kV6 dc6 pm6 cd6 ct6 : Value}
    {f7 : Addr}
    {od7 an7 : Option Addr} {sl7 : Array (Option Value)} {oc7 kV7 dc7 pm7 cd7 ct7 : Value}
    {f8 : Addr}
    {od8 an8 : Option Addr} {sl8 : Array (Option Value)} {oc8 kV8 dc8 pm8 cd8 ct8 : Value}
    {f9 : Addr}
    {od9 an9 : Option Addr} {sl9 : Array (Option Value)} {oc9 kV9 dc9 pm9 cd9 ct9 : Value}
    {f10 : Addr}
    {od10 an10 : Option Addr} {sl10 : Array (Option Value)} {oc10 kV10 dc10 pm10 cd10 ct10 : Value}
    {f11 : Addr}
    {od11 an11 : Option Addr} {sl11 : Array (Option Value)} {oc11 kV11 dc11 pm11 cd11 ct11 : Value}
    {f12 : Addr}
    {od12 an12 : Option Addr} {sl12 : Array (Option Value)} {oc12 kV12 dc12 pm12 cd12 ct12 : Value}
    {f13 : Addr}
    {od13 an13 : Option Addr} {sl13 : Array (Option Value)} {oc13 kV13 dc13 pm13 cd13 ct13 : Value}
    {f14 : Addr}
    {od14 an14 : Option Addr} {sl14 : Array (Option Value)} {oc14 kV14 dc14 pm14 cd14 ct14 : Value}
    {f15 : Addr}
    {od15 an15 : Option Addr} {sl15 : Array (Option Value)} {oc15 kV15 dc15 pm15 cd15 ct15 : Value}
    {t_LONGEST_RIM : Tok}
    {t_SEEN_SIGNS : Tok}
    {t_UNSEEN : Tok}
    {tc tT : Addr} {t1 : Value} {t2 : Option Addr} {tv : Array Value} {t4 : Array (Option Value)}
    (a0 : PySem.W.nsIn K mainGlobals "need_seen" = some (some (.ref f0)))
    (l0 : K.lookup f0 = some ⟨oc0, od0, .func (PySem.W.fnOf "need_seen" "need_seen" (defArgs s_need_seen) (defBody s_need_seen) (defScope s_need_seen) .none kV0 dc0 pm0 an0 cd0 ct0), sl0⟩)
    (q0 : PySem.W.codeIn K cd0 "need_seen" = true) (k0 : PySem.W.keepIn K (.ref f0) = true)
    (a1 : PySem.W.nsIn K mainGlobals "need_length" = some (some (.ref f1)))
    (l1 : K.lookup f1 = some ⟨oc1, od1, .func (PySem.W.fnOf "need_length" "need_length" (defArgs s_need_length) (defBody s_need_length) (defScope s_need_length) .none kV1 dc1 pm1 an1 cd1 ct1), sl1⟩)
    (q1 : PySem.W.codeIn K cd1 "need_length" = true) (k1 : PySem.W.keepIn K (.ref f1) = true)
    (a2 : PySem.W.nsIn K mainGlobals "seen_at" = some (some (.ref f2)))
    (l2 : K.lookup f2 = some ⟨oc2, od2, .func (PySem.W.fnOf "seen_at" "seen_at" (defArgs s_seen_at) (defBody s_seen_at) (defScope s_seen_at) .none kV2 dc2 pm2 an2 cd2 ct2), sl2⟩)
    (q2 : PySem.W.codeIn K cd2 "seen_at" = true) (k2 : PySem.W.keepIn K (.ref f2) = true)
    (a3 : PySem.W.nsIn K mainGlobals "rim_of" = some (some (.ref f3)))
    (l3 : K.lookup f3 = some ⟨oc3, od3, .func (PySem.W.fnOf "rim_of" "rim_of" (defArgs s_rim_of) (defBody s_rim_of) (defScope s_rim_of) .none kV3 dc3 pm3 an3 cd3 ct3), sl3⟩)
    (q3 : PySem.W.codeIn K cd3 "rim_of" = true) (k3 : PySem.W.keepIn K (.ref f3) = true)
    (a4 : PySem.W.nsIn K mainGlobals "rim_for" = some (some (.ref f4)))
    (l4 : K.lookup f4 = some ⟨oc4, od4, .func (PySem.W.fnOf "rim_for" "rim_for" (defArgs s_rim_for) (defBody s_rim_for) (defScope s_rim_for) .none kV4 dc4 pm4 an4 cd4 ct4), sl4⟩)
    (q4 : PySem.W.codeIn K cd4 "rim_for" = true) (k4 : PySem.W.keepIn K (.ref f4) = true)
    (a5 : PySem.W.nsIn K mainGlobals "most_seen" = some (some (.ref f5)))
    (l5 : K.lookup f5 = some ⟨oc5, od5, .func (PySem.W.fnOf "most_seen" "most_seen" (defArgs s_most_seen) (defBody s_most_seen) (defScope s_most_seen) .none kV5 dc5 pm5 an5 cd5 ct5), sl5⟩)
    (q5 : PySem.W.codeIn K cd5 "most_seen" = true) (k5 : PySem.W.keepIn K (.ref f5) = true)
    (a6 : PySem.W.nsIn K mainGlobals "spoilt_of" = some (some (.ref f6)))
    (l6 : K.lookup f6 = some ⟨oc6, od6, .func (PySem.W.fnOf "spoilt_of" "spoilt_of" (defArgs s_spoilt_of) (defBody s_spoilt_of) (defScope s_spoilt_of) .none kV6 dc6 pm6 an6 cd6 ct6), sl6⟩)
    (q6 : PySem.W.codeIn K cd6 "spoilt_of" = true) (k6 : PySem.W.keepIn K (.ref f6) = true)
    (a7 : PySem.W.nsIn K mainGlobals "spoilt_for" = some (some (.ref f7)))
    (l7 : K.lookup f7 = some ⟨oc7, od7, .func (PySem.W.fnOf "spoilt_for" "spoilt_for" (defArgs s_spoilt_for) (defBody s_spoilt_for) (defScope s_spoilt_for) .none kV7 dc7 pm7 an7 cd7 ct7), sl7⟩)
    (q7 : PySem.W.codeIn K cd7 "spoilt_for" = true) (k7 : PySem.W.keepIn K (.ref f7) = true)
    (a8 : PySem.W.nsIn K mainGlobals "least_spoilt" = some (some (.ref f8)))
    (l8 : K.lookup f8 = some ⟨oc8, od8, .func (PySem.W.fnOf "least_spoilt" "least_spoilt" (defArgs s_least_spoilt) (defBody s_least_spoilt) (defScope s_least_spoilt) .none kV8 dc8 pm8 an8 cd8 ct8), sl8⟩)
    (q8 : PySem.W.codeIn K cd8 "least_spoilt" = true) (k8 : PySem.W.keepIn K (.ref f8) = true)
    (a9 : PySem.W.nsIn K mainGlobals "_law_bag" = some (some (.ref f9)))
    (l9 : K.lookup f9 = some ⟨oc9, od9, .func (PySem.W.fnOf "_law_bag" "_law_bag" (defArgs s_law_bag) (defBody s_law_bag) (defScope s_law_bag) .none kV9 dc9 pm9 an9 cd9 ct9), sl9⟩)
    (q9 : PySem.W.codeIn K cd9 "_law_bag" = true) (k9 : PySem.W.keepIn K (.ref f9) = true)
    (a10 : PySem.W.nsIn K mainGlobals "_law_stir" = some (some (.ref f10)))
    (l10 : K.lookup f10 = some ⟨oc10, od10, .func (PySem.W.fnOf "_law_stir" "_law_stir" (defArgs s_law_stir) (defBody s_law_stir) (defScope s_law_stir) .none kV10 dc10 pm10 an10 cd10 ct10), sl10⟩)
    (q10 : PySem.W.codeIn K cd10 "_law_stir" = true) (k10 : PySem.W.keepIn K (.ref f10) = true)
    (a11 : PySem.W.nsIn K mainGlobals "_law_draw" = some (some (.ref f11)))
    (l11 : K.lookup f11 = some ⟨oc11, od11, .func (PySem.W.fnOf "_law_draw" "_law_draw" (defArgs s_law_draw) (defBody s_law_draw) (defScope s_law_draw) .none kV11 dc11 pm11 an11 cd11 ct11), sl11⟩)
    (q11 : PySem.W.codeIn K cd11 "_law_draw" = true) (k11 : PySem.W.keepIn K (.ref f11) = true)
    (a12 : PySem.W.nsIn K mainGlobals "_law_rim" = some (some (.ref f12)))
    (l12 : K.lookup f12 = some ⟨oc12, od12, .func (PySem.W.fnOf "_law_rim" "_law_rim" (defArgs s_law_rim) (defBody s_law_rim) (defScope s_law_rim) .none kV12 dc12 pm12 an12 cd12 ct12), sl12⟩)
    (q12 : PySem.W.codeIn K cd12 "_law_rim" = true) (k12 : PySem.W.keepIn K (.ref f12) = true)
    (a13 : PySem.W.nsIn K mainGlobals "_law_seen" = some (some (.ref f13)))
    (l13 : K.lookup f13 = some ⟨oc13, od13, .func (PySem.W.fnOf "_law_seen" "_law_seen" (defArgs s_law_seen) (defBody s_law_seen) (defScope s_law_seen) .none kV13 dc13 pm13 an13 cd13 ct13), sl13⟩)
    (q13 : PySem.W.codeIn K cd13 "_law_seen" = true) (k13 : PySem.W.keepIn K (.ref f13) = true)
    (a14 : PySem.W.nsIn K mainGlobals "_law_due" = some (some (.ref f14)))
    (l14 : K.lookup f14 = some ⟨oc14, od14, .func (PySem.W.fnOf "_law_due" "_law_due" (defArgs s_law_due) (defBody s_law_due) (defScope s_law_due) .none kV14 dc14 pm14 an14 cd14 ct14), sl14⟩)
    (q14 : PySem.W.codeIn K cd14 "_law_due" = true) (k14 : PySem.W.keepIn K (.ref f14) = true)
    (a15 : PySem.W.nsIn K mainGlobals "law" = some (some (.ref f15)))
    (l15 : K.lookup f15 = some ⟨oc15, od15, .func (PySem.W.fnOf "law" "law" (defArgs s_law) (defBody s_law) (defScope s_law) .none kV15 dc15 pm15 an15 cd15 ct15), sl15⟩)
    (q15 : PySem.W.codeIn K cd15 "law" = true) (k15 : PySem.W.keepIn K (.ref f15) = true)
    (g_LONGEST_RIM : PySem.W.nsIn K mainGlobals "LONGEST_RIM" = some (some (.int (40) t_LONGEST_RIM)))
    (g_SEEN_SIGNS : PySem.W.nsIn K mainGlobals "SEEN_SIGNS" = some (some (.str "abcdefghijklmnopqrstuvwxyz.?" t_SEEN_SIGNS)))
    (g_UNSEEN : PySem.W.nsIn K mainGlobals "UNSEEN" = some (some (.str "?" t_UNSEEN)))
    (z_bool : PySem.W.nsIn K mainGlobals "bool" = some none)
    (z_int : PySem.W.nsIn K mainGlobals "int" = some none)
    (z_isinstance : PySem.W.nsIn K mainGlobals "isinstance" = some none)
    (z_len : PySem.W.nsIn K mainGlobals "len" = some none)
    (z_list : PySem.W.nsIn K mainGlobals "list" = some none)
    (z_min : PySem.W.nsIn K mainGlobals "min" = some none)
    (z_range : PySem.W.nsIn K mainGlobals "range" = some none)
    (z_repr : PySem.W.nsIn K mainGlobals "repr" = some none)
    (z_set : PySem.W.nsIn K mainGlobals "set" = some none)
    (z_sorted : PySem.W.nsIn K mainGlobals "sorted" = some none)
    (z_str : PySem.W.nsIn K mainGlobals "str" = some none)
    (z_sum : PySem.W.nsIn K mainGlobals "sum" = some none)
    (te : cd5 = .ref tc) (tl : K.lookup tc = some ⟨t1, t2, .fields tv, t4⟩) (tt : tv[11]? = some (.ref tT)) (tn : K.lookup tT = none) :
    K.lookup T = none ∧ ∃ fd : FuncData, (∀ (s : Shared) (v : Value), BindsTo s fd ⟨[v], []⟩ [("script", v)]) ∧ ∀ base : Heap, K.In base → base.Ns mainGlobals mg → LamX.TabB base mg cT T → RGU.LawOk l.prog w K mg base 40 fa fd ["script"] (sp_law K T) := by
  have e := hfa.symm.trans (PySem.W.mg_of X G a15)
  cases e
  have F0 := fun_mk (st := s_need_seen) l0 q0 k0
  have F1 := fun_mk (st := s_need_length) l1 q1 k1
  have F2 := fun_mk (st := s_seen_at) l2 q2 k2
  have F3 := fun_mk (st := s_rim_of) l3 q3 k3
  have F4 := fun_mk (st := s_rim_for) l4 q4 k4
  have F5 := fun_mk (st := s_most_seen) l5 q5 k5
  have F6 := fun_mk (st := s_spoilt_of) l6 q6 k6
  have F7 := fun_mk (st := s_spoilt_for) l7 q7 k7
  have F8 := fun_mk (st := s_least_spoilt) l8 q8 k8
  have F9 := fun_mk (st := s_law_bag) l9 q9 k9
  have F10 := fun_mk (st := s_law_stir) l10 q10 k10
  have F11 := fun_mk (st := s_law_draw) l11 q11 k11
  have F12 := fun_mk (st := s_law_rim) l12 q12 k12
  have F13 := fun_mk (st := s_law_seen) l13 q13 k13
  have F14 := fun_mk (st := s_law_due) l14 q14 k14
  have F15 := fun_mk (st := s_law) l15 q15 k15
  have TX : Txt K mg := {
    a_need_seen := ⟨_, _, F0, PySem.W.mg_of X G a0, F0.binds (ps := ["thing"]) fun _ _ _ _ _ _ us hl => match us, hl with | [_], _ => rfl⟩
    a_need_length := ⟨_, _, F1, PySem.W.mg_of X G a1, F1.binds (ps := ["thing"]) fun _ _ _ _ _ _ us hl => match us, hl with | [_], _ => rfl⟩
    a_seen_at := ⟨_, _, F2, PySem.W.mg_of X G a2, F2.binds (ps := ["seen", "length", "place"]) fun _ _ _ _ _ _ us hl => match us, hl with | [_, _, _], _ => rfl⟩
    a_rim_of := ⟨_, _, F3, PySem.W.mg_of X G a3, F3.binds (ps := ["seen", "length"]) fun _ _ _ _ _ _ us hl => match us, hl with | [_, _], _ => rfl⟩
    a_rim_for := ⟨_, _, F4, PySem.W.mg_of X G a4, F4.binds (ps := ["seen", "length"]) fun _ _ _ _ _ _ us hl => match us, hl with | [_, _], _ => rfl⟩
    a_most_seen := ⟨_, _, F5, PySem.W.mg_of X G a5, F5.binds (ps := ["signs"]) fun _ _ _ _ _ _ us hl => match us, hl with | [_], _ => rfl⟩
    a_spoilt_of := ⟨_, _, F6, PySem.W.mg_of X G a6, F6.binds (ps := ["seen", "length"]) fun _ _ _ _ _ _ us hl => match us, hl with | [_, _], _ => rfl⟩
    a_spoilt_for := ⟨_, _, F7, PySem.W.mg_of X G a7, F7.binds (ps := ["seen", "length"]) fun _ _ _ _ _ _ us hl => match us, hl with | [_, _], _ => rfl⟩
    a_least_spoilt := ⟨_, _, F8, PySem.W.mg_of X G a8, F8.binds (ps := ["seen", "most"]) fun _ _ _ _ _ _ us hl => match us, hl with | [_, _], _ => rfl⟩
    a_law_bag := ⟨_, _, F9, PySem.W.mg_of X G a9, F9.binds (ps := ["script"]) fun _ _ _ _ _ _ us hl => match us, hl with | [_], _ => rfl⟩
    a_law_stir := ⟨_, _, F10, PySem.W.mg_of X G a10, F10.binds (ps := ["number", "place"]) fun _ _ _ _ _ _ us hl => match us, hl with | [_, _], _ => rfl⟩
    a_law_draw := ⟨_, _, F11, PySem.W.mg_of X G a11, F11.binds (ps := ["bag", "many"]) fun _ _ _ _ _ _ us hl => match us, hl with | [_, _], _ => rfl⟩
    a_law_rim := ⟨_, _, F12, PySem.W.mg_of X G a12, F12.binds (ps := ["bag", "most"]) fun _ _ _ _ _ _ us hl => match us, hl with | [_, _], _ => rfl⟩
    a_law_seen := ⟨_, _, F13, PySem.W.mg_of X G a13, F13.binds (ps := ["bag", "most"]) fun _ _ _ _ _ _ us hl => match us, hl with | [_, _], _ => rfl⟩
    a_law_due := ⟨_, _, F14, PySem.W.mg_of X G a14, F14.binds (ps := ["seen", "length"]) fun _ _ _ _ _ _ us hl => match us, hl with | [_, _], _ => rfl⟩
    c_LONGEST_RIM := ⟨_, PySem.W.mg_of X G g_LONGEST_RIM⟩
    c_SEEN_SIGNS := ⟨_, PySem.W.mg_of X G g_SEEN_SIGNS⟩
    c_UNSEEN := ⟨_, PySem.W.mg_of X G g_UNSEEN⟩
    n_bool := PySem.W.mg_none_of X G z_bool
    n_int := PySem.W.mg_none_of X G z_int
    n_isinstance := PySem.W.mg_none_of X G z_isinstance
    n_len := PySem.W.mg_none_of X G z_len
    n_list := PySem.W.mg_none_of X G z_list
    n_min := PySem.W.mg_none_of X G z_min
    n_range := PySem.W.mg_none_of X G z_range
    n_repr := PySem.W.mg_none_of X G z_repr
    n_set := PySem.W.mg_none_of X G z_set
    n_sorted := PySem.W.mg_none_of X G z_sorted
    n_str := PySem.W.mg_none_of X G z_str
    n_sum := PySem.W.mg_none_of X G z_sum }
  have hcd' := hcd
  have e1 := hft.symm.trans (PySem.W.mg_of X G a5)
  cases e1
  have o1 := hto.symm.trans (X _ _ l5)
  cases o1
  cases htd
  have e2 : cd5 = .ref cT := htc
  have e3 := te.symm.trans e2
  cases e3
  obtain ⟨o2, vs2, _, _, _, _, _, _, _, c1, c2, c3, c4, _⟩ := hcd'
  have c5 := c1.symm.trans (X _ _ tl)
  cases c5
  cases c3
  have c6 := c4.symm.trans tt
  cases c6
  exact ⟨tn, _, fun s v => .of_eq rfl, fun base _ _ tb => ok_law F15 TX ⟨tb, fun f cdv hf hc => by
    obtain ⟨_, _, _, _, z1, z2⟩ := hc
    have z3 := hf.symm.trans (PySem.W.mg_of X G a5)
    cases z3
    have z4 := z1.symm.trans l5
    cases z4
    exact z2.symm.trans te⟩⟩
theorem walk {l : PySem.W.OpenLaw} {q : Program} {loose : List Str} {XP : (Str → Option Value) → Heap → Prop} {YP : World → Heap → Prop} {d : DefRec} {K : Params → PySem.W.Frag} (hn : l.most = some 63) (hdf : d.params.defaults = [])
    (hrec : ((recsOf q).any fun e => e.name == ("most_seen" : Str)) = true) (hY : ∀ (w : World) (h : Heap), YP w h → (K w.params).In h)
    (F : ∀ (w : World) (mg : Str → Option Value) (fa : Addr) (h : Heap), (K w.params).In h → h.Ns mainGlobals mg → mg d.name = some (.ref fa) → ∀ (ft c T : Addr) (o : Obj) (ft0 : FuncData), mg "most_seen" = some (.ref ft) → h.get? ft = some o → o.data = .func ft0 → ft0.code = .ref c → PySem.W.CodeHd h c T →
      (K w.params).lookup T = none ∧ ∃ fd : FuncData, (∀ (s : Shared) (u : Value), BindsTo s fd ⟨[u], []⟩ [("script", u)]) ∧ ∀ base : Heap, (K w.params).In base → base.Ns mainGlobals mg → LamX.TabB base mg c T → RGU.LawOk l.prog w (K w.params) mg base 40 fa fd ["script"] (sp_law (K w.params) T)) :
    PySem.W.WalkO q loose XP YP l.row.toRowW d [] (fun f vs => PySem.call f vs) :=
  RMT.walk_ofGT (n := 63) (k := 40) (x := "script") (nm := "most_seen") (sp := fun w T => sp_law (K w.params) T) hn (by decide) hdf ⟨rfl, by decide, by decide⟩ hrec hY F (fun w T H a ns hl hH hS => sp_law_start hl hH hS)
end X

open PySem PySem.W PyProof.Rows in
set_option maxRecDepth 100000 in
set_option maxHeartbeats 0 in
theorem PySem.Challenge.cw_rimprints_k48_fewest_spoilt_holds : PySem.Challenge.rw_rimprints_k48_fewest_spoilt.Holds := by
  w_on; o_law; k_head; (case hw => w_witness2)
  k_fill
  refine X.walk (l := PySem.Challenge.rw_rimprints_k48_fewest_spoilt) rfl rfl ?hrec (fun w h Y => PySem.W.km_in_of Y) ?F
  case hrec => first | rfl | decide +kernel
  case F =>
    intro w mg fa h KX G hmg ft cT T o0 ft0 hft hto htd htc hcd
    refine' X.all_mk KX G hmg hft hto htd htc hcd ?a0 ?l0 ?q0 ?k0 ?a1 ?l1 ?q1 ?k1 ?a2 ?l2 ?q2 ?k2 ?a3 ?l3 ?q3 ?k3 ?a4 ?l4 ?q4 ?k4 ?a5 ?l5 ?q5 ?k5 ?a6 ?l6 ?q6 ?k6 ?a7 ?l7 ?q7 ?k7 ?a8 ?l8 ?q8 ?k8 ?a9 ?l9 ?q9 ?k9 ?a10 ?l10 ?q10 ?k10 ?a11 ?l11 ?q11 ?k11 ?a12 ?l12 ?q12 ?k12 ?a13 ?l13 ?q13 ?k13 ?a14 ?l14 ?q14 ?k14 ?a15 ?l15 ?q15 ?k15 ?g_LONGEST_RIM ?g_SEEN_SIGNS ?g_UNSEEN ?z_bool ?z_int ?z_isinstance ?z_len ?z_list ?z_min ?z_range ?z_repr ?z_set ?z_sorted ?z_str ?z_sum ?te ?tl ?tt ?tn
    (case a0 => k_is)
    (case l0 => k_is)
    (case q0 => k_is)
    (case k0 => k_is)
    (case a1 => k_is)
    (case l1 => k_is)
    (case q1 => k_is)
    (case k1 => k_is)
    (case a2 => k_is)
    (case l2 => k_is)
    (case q2 => k_is)
    (case k2 => k_is)
    (case a3 => k_is)
    (case l3 => k_is)
    (case q3 => k_is)
    (case k3 => k_is)
    (case a4 => k_is)
    (case l4 => k_is)
    (case q4 => k_is)
    (case k4 => k_is)
    (case a5 => k_is)
    (case l5 => k_is)
    (case q5 => k_is)
    (case k5 => k_is)
    (case a6 => k_is)
    (case l6 => k_is)
    (case q6 => k_is)
    (case k6 => k_is)
    (case a7 => k_is)
    (case l7 => k_is)
    (case q7 => k_is)
    (case k7 => k_is)
    (case a8 => k_is)
    (case l8 => k_is)
    (case q8 => k_is)
    (case k8 => k_is)
    (case a9 => k_is)
    (case l9 => k_is)
    (case q9 => k_is)
    (case k9 => k_is)
    (case a10 => k_is)
    (case l10 => k_is)
    (case q10 => k_is)
    (case k10 => k_is)
    (case a11 => k_is)
    (case l11 => k_is)
    (case q11 => k_is)
    (case k11 => k_is)
    (case a12 => k_is)
    (case l12 => k_is)
    (case q12 => k_is)
    (case k12 => k_is)
    (case a13 => k_is)
    (case l13 => k_is)
    (case q13 => k_is)
    (case k13 => k_is)
    (case a14 => k_is)
    (case l14 => k_is)
    (case q14 => k_is)
    (case k14 => k_is)
    (case a15 => k_is)
    (case l15 => k_is)
    (case q15 => k_is)
    (case k15 => k_is)
    (case g_LONGEST_RIM => k_is)
    (case g_SEEN_SIGNS => k_is)
    (case g_UNSEEN => k_is)
    (case z_bool => k_is)
    (case z_int => k_is)
    (case z_isinstance => k_is)
    (case z_len => k_is)
    (case z_list => k_is)
    (case z_min => k_is)
    (case z_range => k_is)
    (case z_repr => k_is)
    (case z_set => k_is)
    (case z_sorted => k_is)
    (case z_str => k_is)
    (case z_sum => k_is)
    (case te => rfl)
    (case tl => k_is)
    (case tt => rfl)
    (case tn => (first | kernel_rfl | rfl | decide +kernel))
#print axioms PySem.Challenge.cw_rimprints_k48_fewest_spoilt_holds
