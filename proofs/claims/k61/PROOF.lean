import PyProof.Rows.All
import Wide.All
import OpenK.AllK
import Wide.FinOn
import HandS.ForMost
import HandS.Walk
import HandS.Evl
import HandS.IsInst
import HandS.Wide
import HandS.Set
import HandS.RaiseMore
import PyProof.CollectIter
import PyProof.WalksMore
import PyProof.Rows.TupIter
import HandS.WideBits
import HandS.Zip
import KE.KDictPairs
import HandS.Dict
import HandS.Conv
import HandS.CallLocal
import PyProof.NeKinds
import PyProof.StrLawsOccR
import PyProof.ListStr
import PyProof.SliceList
import KE.KTupSum
import HandS.NoneIn
import HandS.More
import PyProof.Rows.SortShellAny
import PyProof.WalkInts
import PyProof.ReprRoads
import PyProof.ReprLen
import PyProof.FitsInt
import HandS.Exc
import HandS.ExcIs
import HandS.ExcOwn
import HandS.WordsExc
import HandS.TryOnly
import HandS.Replace
import HandS.ReplaceLit
import PySem.Challenge.RW_rimprints_k61_no_pieces_no_lengths
set_option Elab.async false
set_option maxRecDepth 100000
set_option maxHeartbeats 4000000
set_option linter.all false
namespace RA
open PySem PySem.Spec PyProof.Rows L2

/-! ## enumerate(text) -/
section
def ItES (x : Str) : It :=
  ⟨fun i _ => i < x.cps.size,
   fun i H v H' => ∃ T c, v = .ref T ∧ H T = none ∧ H' = upd H T (.tup [.int (i : Nat), .str ⟨#[c]⟩]) ∧ x.cps[i]? = some c,
   fun i _ => x.cps.size ≤ i⟩
theorem strType_or (x : Str) : strIterType x = "str_ascii_iterator" ∨ strIterType x = "str_iterator" := by
  unfold strIterType
  cases x.cps.all (· < 128) <;> simp
theorem drawsStr {prog : Program} {w : World} {A : Around} (hh : A.handled = none) (it : Addr) (x : Str) (t : Tok) :
    Draws prog w A it [it] x.cps.size (fun i v => ∃ c u, x.cps[i]? = some c ∧ v = .str ⟨#[c]⟩ u) (fun i h => h.IsStrIter it (strIterType x) x t i) := by
  rcases strType_or x with e | e <;> rw [e]
  · exact Draws.strAscii hh it x t
  · exact Draws.strWide hh it x t
theorem turn_enumS {P : Program} {w : World} {K : PySem.W.Frag} {elts : List Expr} {kk : Nat} {tpos : Pos} (x : Str) (t : Tok) (e it : Addr) :
    Turn P w K (.Tuple elts kk tpos) (ItES x) [e, it] e
      (fun i h => (∃ old, IsEnum h e it ((i : Nat) : Int) old) ∧ h.IsStrIter it (strIterType x) x t i ∧ e ≠ it) where
  mem := by simp
  obj := fun i h st b hb => by
    obtain ⟨⟨old, he⟩, ⟨o, ho, hc, hd⟩, _⟩ := st
    have e' : b = e ∨ b = it := by simpa using hb
    rcases e' with z | z
    · subst z
      exact ⟨_, he, fun v q => nomatch q⟩
    · subst z
      exact ⟨o, ho, fun v q => by rw [hd] at q; cases q⟩
  keep := fun i h h' st k => by
    obtain ⟨⟨old, he⟩, ⟨o, ho, r⟩, hne⟩ := st
    exact ⟨⟨old, k e (by simp) _ he⟩, ⟨o, k it (by simp) o ho, r⟩, hne⟩
  item := by
    intro X hP hw hK hc i pins s σ H E I hf st hg
    subst hP hw hK
    obtain ⟨⟨old, he⟩, hit, hne⟩ := st
    have hel := Heap.lt_size he
    have hil : it < s.heap.objs.size := by
      obtain ⟨_, q, _⟩ := hit
      exact Heap.lt_size q
    refine wpAny_pyNext_enum_itemD (drawsStr (A := X.A.in1) (I.ok.hd hc) it x t) he hit hg hne (by simp [hne]) fun v h' tk hv ho hit' hT hsz hk => ?_
    obtain ⟨c, u, hcx, rfl⟩ := hv
    refine ⟨_, rfl, wpAny_letOwnedTupleGo_enum (s := { s with heap := h', toks := tk + 1 }) ho fun h2 he2 sb => ?_⟩
    have hT2 : h2.get? s.heap.objs.size = some { cls := .type "tuple", data := .seq #[.int i tk, .str ⟨#[c]⟩ u] } :=
      (sb.2 _ (Nat.ne_of_gt hel)).trans hT
    have new : ObjOk X.prog X.w (upd H s.heap.objs.size (.tup [.int (i : Nat), .str ⟨#[c]⟩])) h2 s.heap.objs.size (.tup [.int (i : Nat), .str ⟨#[c]⟩]) :=
      ⟨by show 2 ≤ sizeLine; decide, [.int i tk, .str ⟨#[c]⟩ u], .cons ⟨_, rfl⟩ (.cons ⟨_, rfl⟩ .nil), ⟨_, hT2, rfl, _, rfl⟩⟩
    have I1 := I.turnedNew (t' := tk + 1) (ch := [e, it]) (h' := h2)
      (fun b ob hb q => (sb.2 b (fun z => hb (by simp [z]))).trans (hk b ob (fun z => hb (by simp [z])) (fun z => hb (by simp [z])) q)) hf (Nat.le_refl _) new
    refine ⟨.ref s.heap.objs.size, _, I1, rfl, ⟨_, c, rfl, I.hok.fresh (Nat.le_refl _), rfl, hcx⟩, ⟨⟨Value.str ⟨#[c]⟩ u, ?_⟩, ?_, hne⟩, fun b hb => ?_⟩
    · have e1 : ((i + 1 : Nat) : Int) = (i : Int) + 1 := by omega
      rw [e1]
      exact he2
    · obtain ⟨oi, q1, q2⟩ := hit'
      exact ⟨oi, (sb.2 it (Ne.symm hne)).trans q1, q2⟩
    · have hb' : b < s.heap.objs.size := by
        have e' : b = e ∨ b = it := by simpa using hb
        rcases e' with z | z <;> subst z <;> assumption
      rw [upd_ne (Nat.ne_of_lt hb')]
      exact (hf b hb).1
  done := by
    intro X hP hw hK hc i pins s σ H E I hf st hg
    subst hP hw hK
    obtain ⟨⟨old, he⟩, hit, hne⟩ := st
    obtain ⟨f0, f1, f2, f3, f4, f5⟩ := hf it (by simp)
    have hgi : x.cps.size ≤ i := hg
    have hx : x.cps[i]? = none := Array.getElem?_eq_none hgi
    have D2 : Draws X.prog X.w X.A.in1 it [it] i (fun _ _ => False) (fun j h => j = i ∧ h.IsStrIter it (strIterType x) x t i) := by
      refine ⟨fun _ _ st => ?_, fun _ _ _ st hk => ?_, fun j s Q E hj st _ => ?_, fun s Q E st hE => ?_⟩
      · obtain ⟨_, o, ho, _⟩ := st
        exact ⟨o, ho⟩
      · obtain ⟨z, o, ho, r⟩ := st
        exact ⟨z, o, hk it (by simp) o ho, r⟩
      · exact absurd hj (by rw [st.1]; exact Nat.lt_irrefl _)
      · obtain ⟨_, st⟩ := st
        rcases strType_or x with e1 | e1
        · rw [e1] at st
          exact wpAny_nextOf_ascii_end (A := X.A.in1) (I.ok.hd hc) st hx hE
        · rw [e1] at st
          exact wpAny_nextOf_wide_end (A := X.A.in1) (I.ok.hd hc) st hx hE
    exact wpAny_pyNext_enum_endD D2 he ⟨rfl, hit⟩ fun h' eb => ⟨rfl, I.turned (t' := s.toks) (fun b o hb q => eb b o hb q) f0 f1 f3 f4 f5⟩
  self := fun A i s Q E st h => by
    obtain ⟨⟨_, he⟩, _⟩ := st
    exact wpAny_pyIter_enum he h
def iEnumS (ta : TA) : TI := fun σ H R => ta σ H fun vs H1 => ∃ x, vs = [.str x] ∧ R (ItES x) H1
theorem pi_enumS {X : Cx} {e : Expr} {ta : TA} {p pos tpos : Pos} {elts : List Expr} {kk : Nat} (hg : Gl X "enumerate") (hm : X.mg "enumerate" = none)
    (ha : PA X [e] ta) (hs : starEach [e] X.env = [(false, eval e X.env)] := by rfl) :
    PI X (.Tuple elts kk tpos) (.Call (.Name "enumerate" p) [e] [] pos) (iEnumS ta) := by
  refine ⟨fun pins s σ H R I h => ?_⟩
  refine Call_ (ld_blt I hg hm boot_enumerate (PyProof.Rows.callWith_type1 (thn (ha.run pos pins s σ H _ I h) fun us s1 hh => ?_) hs rfl))
  obtain ⟨vs, H1, I1, r1, x, ex, q⟩ := hh
  subst ex
  cases r1 with
  | cons r rr =>
    cases rr
    obtain ⟨t, rfl⟩ := r
    refine call_enumerate_str fun h' he hit hsz hk => wpAny_pyIter_enum he ?_
    have I2 : Inv X pins σ H1 { s1 with heap := h' } := I1.kept (t' := s1.toks) hk
    refine ⟨s1.heap.objs.size + 1, [s1.heap.objs.size + 1, s1.heap.objs.size], _, _, H1, rfl, I2,
      turn_enumS x t (s1.heap.objs.size + 1) s1.heap.objs.size, ⟨⟨.none, he⟩, hit, Nat.succ_ne_self _⟩, fun b hb => ?_, q⟩
    have e' : b = s1.heap.objs.size + 1 ∨ b = s1.heap.objs.size := by simpa using hb
    have hle : s1.heap.objs.size ≤ b := by
      rcases e' with z | z <;> subst z
      · exact Nat.le_add_right _ _
      · exact Nat.le_refl _
    exact I1.fpOk hle (I1.hok.fresh hle)
end

/-! ## text[lo:hi:step] -/
section
variable {X : Cx}
/-- the signs that a slice with a step picks -/
def stepS (z : Str) (lo hi : Option Int) (st : Int) : Str :=
  if (st == 1 && (Builtin.Str.strSliceIndices lo hi st z.length).length == z.length) = true then z
  else ⟨((Builtin.Str.strSliceIndices lo hi st z.length).filterMap (z.cps[·]?)).toArray⟩
def tSlS (te : TE) (tl th : TO) (ts : TE) : TE := fun σ H Q => te σ H fun x H1 => tl σ H1 fun lo H2 => th σ H2 fun hi H3 => ts σ H3 fun y H4 =>
  ∃ z st, x = .str z ∧ y = .int st ∧ st ≠ 0 ∧ (stepS z lo hi st).length ≤ sizeLine ∧ Q (.str (stepS z lo hi st)) H4
theorem pe_sliceS {e st : Expr} {lo hi : Option Expr} {te ts : TE} {tl th : TO} {p2 pos : Pos} (he : PE X e te) (hl : PO X lo tl) (hu : PO X hi th) (hs : PE X st ts) :
    PE X (.Subscript e (.Slice lo hi (some st) p2) pos) (tSlS te tl th ts) := by
  refine ⟨fun pins s σ H Q I h => ?_⟩
  refine Subscript_ (thn (he.run pins s σ H _ I h) fun v s1 hh => ?_)
  obtain ⟨x, H1, I1, r1, q1⟩ := hh
  refine wpAny_Slice (thn (hl.run pins s1 σ H1 _ I1 q1) fun vl s2 hh2 => ?_)
  obtain ⟨l, H2, I2, pl, q2⟩ := hh2
  refine thn (hu.run pins s2 σ H2 _ I2 q2) fun vu s3 hh3 => ?_
  obtain ⟨u, H3, I3, pu, q3⟩ := hh3
  show wpAny _ _ (eval st X.env) _ _ s3
  refine thn (hs.run pins s3 σ H3 _ I3 q3) fun vs s4 hh4 => ?_
  obtain ⟨y, H4, I4, r4, z, k, rfl, rfl, hk, hz, q⟩ := hh4
  obtain ⟨tx, rfl⟩ := r1
  obtain ⟨tk, rfl⟩ := r4
  obtain ⟨l', rfl, rfl⟩ := IsPart.raw pl
  obtain ⟨u', rfl, rfl⟩ := IsPart.raw pu
  have I5 : Inv X pins σ H4 { s4 with heap := s4.heap.push { cls := .type "slice", data := .fields #[partValue l', partValue u', .int k tk] } } :=
    I4.kept (t' := s4.toks) fun b ob q => Heap.get?_push_of_some _ q
  refine tail_any (T := "str") (ops := [.ref s4.heap.objs.size, .str z tx]) (typeIs_str _ _ _) F.slot_str_getitem.lookup ?_ (by with_unfolding_all rfl)
  refine wpAny_getItem_str_slice (l := l') (u := u') (st := some (k, tk)) ⟨_, Heap.get?_push_size _ rfl, rfl, rfl⟩ ?_ ?_
  · show (k == 0) = false
    simpa using hk
  · unfold stepS at q hz
    unfold sliceMade slicePicked
    show Made.post (if (k == 1 && (Builtin.Str.strSliceIndices (l'.map (·.1)) (u'.map (·.1)) k z.length).length == z.length) = true then _ else _) _ _
    by_cases c : (k == 1 && (Builtin.Str.strSliceIndices (l'.map (·.1)) (u'.map (·.1)) k z.length).length == z.length) = true
    · rw [if_pos c] at q
      rw [if_pos c]
      exact ⟨.str z, H4, I5, ⟨tx, rfl⟩, q⟩
    · rw [if_neg c] at q hz
      rw [if_neg c]
      exact ⟨hz, .str _, H4, I5.tok _, ⟨_, rfl⟩, q⟩
end
end RA

/-! Sets of texts: set(xs) of a list of texts, and sorted of it. -/
namespace RB
open PySem PySem.Spec PyProof.Rows L2

def txOf (e : Int × Value) : Str := match e.2 with | .str z _ => z | _ => Str.empty
def GoodT (w : World) (e : Int × Value) : Prop := ∃ z tk, e.2 = Value.str z tk ∧ e.1 = hashStr w z
/-- the texts met, each once, in the order of their first place -/
def addT (l : List Str) (z : Str) : List Str := if z ∈ l then l else l ++ [z]
def metT (xs : List Str) : List Str := xs.foldl addT []
/-- a set object at a whose members are the texts l -/
def SetT (w : World) (h : Heap) (a : Addr) (l : List Str) : Prop :=
  ∃ o es ep t, h.get? a = some o ∧ o.ExactSet ∧ o.data = .set es ep t ∧ (∀ e ∈ es.toList, GoodT w e) ∧ (es.toList.map txOf).Perm l ∧ l.Nodup ∧
    es.size < scanBound ∧ t.fits es.size = true ∧ Ris t.place.toList ∧ (w.params.followText "set-order" = true ∨ t.led = true)

section
variable {P : Program} {w : World} {A : Around} {E : Value → Shared → Prop} {s : Shared} {a : Addr} {l : List Str}

theorem goodT_is {e : Int × Value} (g : GoodT w e) (k : Str) : (PySem.strKind P w).is k e.2 = true ↔ txOf e = k := by
  obtain ⟨z, tk, h1, _⟩ := g
  unfold txOf
  rw [h1]
  show (Value.isStrOf k (.str z tk) = true) ↔ z = k
  constructor
  · intro h
    obtain ⟨u, e⟩ := Value.isStrOf_shape h
    injection e
  · intro e
    subst e
    exact keyIs_str z tk
theorem goodT_elems {l : List (Int × Value)} (g : ∀ e ∈ l, GoodT w e) : ElemsOf (PySem.strKind P w) l := fun e he => by
  obtain ⟨z, tk, h1, h2⟩ := g e he
  refine ⟨⟨z, ?_, h2⟩, ?_⟩
  · rw [h1]
    exact keyIs_str z tk
  · rw [h1]
    rfl
theorem txOf_mem {l : List (Int × Value)} (g : ∀ e ∈ l, GoodT w e) (k : Str) : k ∈ l.map txOf ↔ ∃ e ∈ l, (PySem.strKind P w).is k e.2 = true := by
  rw [List.mem_map]
  exact ⟨fun ⟨e, he, q⟩ => ⟨e, he, (goodT_is (g e he) k).2 q⟩, fun ⟨e, he, q⟩ => ⟨e, he, (goodT_is (P := P) (g e he) k).1 q⟩⟩
theorem SetT.kept {h h' : Heap} (R : SetT w h a l) (k : ∀ o, h.get? a = some o → h'.get? a = some o) : SetT w h' a l := by
  obtain ⟨o, es, ep, t, ho, r⟩ := R
  exact ⟨o, es, ep, t, k o ho, r⟩
theorem SetT.size {h : Heap} (R : SetT w h a l) : l.length < scanBound := by
  obtain ⟨o, es, ep, t, _, _, _, _, p, _, hb, _⟩ := R
  have q := p.length_eq
  rw [List.length_map, Array.length_toList] at q
  rw [← q]
  exact hb

/-- the table behind a new member -/
theorem setT_tail {g : Bool → Sem Unit} (hg : ∀ (b : Bool) (s₁ : Shared) (Q' : Unit → Shared → Prop), Q' () s₁ → wpAny (model P w) A (g b) Q' E s₁)
    {o : Obj} {es : Array (Int × Value)} {ep : Nat} {t : SetTable} (ho : s.heap.get? a = some o) (hex : o.ExactSet) (hd : o.data = .set es ep t)
    {es1 : Array (Int × Value)} {t2 : SetTable} {l' : List Str} (g1 : ∀ e ∈ es1.toList, GoodT w e) (p1 : (es1.toList.map txOf).Perm l') (nd : l'.Nodup)
    (hb : es1.size < scanBound) (hf : t2.fits es1.size = true) (hr : Ris t2.place.toList) (hl : w.params.followText "set-order" = true ∨ t2.led = true)
    {wasDummy : Bool} {R : Option Bool → Shared → Prop} (hR : ∀ h', Heap.SameBut a s.heap h' → SetT w h' a l' → R (some true) { s with heap := h' }) :
    wpAny (model P w) A (do
        storeSet a es1 t2
        if (!wasDummy && t2.tooFull) = true then do
            g (relayAll t2 es1 (SetTable.grown es1.size)).2.2
            storeSet a (relayAll t2 es1 (SetTable.grown es1.size)).1 (relayAll t2 es1 (SetTable.grown es1.size)).2.1
            pure (some true)
          else pure (some true)) R E s := by
  refine wpAny_bind (wpAny_storeSet_of ho hd ?_ (fits_of_scanBound hb))
  have ho1 := store_at (es' := es1) (t' := t2) ho hd
  have sb1 := Heap.SameBut.update s.heap a (Obj.putSet es1 t2)
  by_cases c : (!wasDummy && t2.tooFull) = true
  · rw [if_pos c]
    have pm := relayAll_perm t2 es1 (SetTable.grown es1.size)
    have hf3 := relayAll_fits t2 es1 (SetTable.grown es1.size)
    have hr3 := relayAll_ris t2 es1 (SetTable.grown es1.size)
    have hl3 := relayAll_led t2 es1 (SetTable.grown es1.size)
    revert pm hf3 hr3 hl3
    generalize relayAll t2 es1 (SetTable.grown es1.size) = Z
    intro pm hf3 hr3 hl3
    have hsz : Z.1.size = es1.size := by
      have := pm.length_eq
      simpa using this
    refine wpAny_bind (hg _ _ _ (wpAny_bind (wpAny_storeSet_of ho1 rfl ?_ (fits_of_scanBound (by rw [hsz]; exact hb)))))
    have ho2 := store_at (es' := Z.1) (t' := Z.2.1) ho1 rfl
    refine wpAny_pure (hR _ (sb1.trans (Heap.SameBut.update _ a _)) ?_)
    exact ⟨_, Z.1, _, Z.2.1, ho2, hex, rfl, fun e he => g1 e (pm.mem_iff.mp he), (pm.map txOf).trans p1, nd, by rw [hsz]; exact hb, hf3, hr3, hl.imp id fun z => by rw [hl3]; exact z⟩
  · rw [if_neg c]
    exact wpAny_pure (hR _ sb1 ⟨_, es1, _, t2, ho1, hex, rfl, g1, p1, nd, hb, hf, hr, hl⟩)

theorem setT_add {k : Str} {tk : Tok} {Q : Bool → Shared → Prop} (R : SetT w s.heap a l) (room : l.length + 1 < scanBound)
    (hQ : ∀ h' b, Heap.SameBut a s.heap h' → SetT w h' a (addT l k) → Q b { s with heap := h' }) :
    wpAny (model P w) A (setAddHashed a (.str k tk) (hashStr w k)) Q E s := by
  obtain ⟨o, es, ep, t, ho, hex, hd, g, p, nd, hb, hf, hr, hl⟩ := R
  have hkey : (PySem.strKind P w).is k (.str k tk) = true := keyIs_str k tk
  have hsc : (Value.str k tk).scannable = true := rfl
  have hel : ElemsOf (PySem.strKind P w) es.toList := goodT_elems g
  have hlen : es.size = l.length := by simpa using p.length_eq
  unfold setAddHashed setAddHashedIn
  refine wpAny_holding (wpAny_bind (wpAny_setState_of ho hd hf ?_))
  dsimp only
  rw [byScan_of hsc hb hel, if_pos rfl]
  unfold setAddByScan
  refine wpAny_bind (wpAny_bind (wpAny_rule (wpAny_bind (wpAny_setScan_of hkey ho hd hf hel ?_))))
  cases hfi : List.findIdx? (fun e => (PySem.strKind P w).is k e.2) es.toList with
  | some j =>
    obtain ⟨hj, pj, _⟩ := List.findIdx?_eq_some_iff_getElem.mp hfi
    have hin : k ∈ l := p.mem_iff.mp ((txOf_mem (P := P) g k).2 ⟨_, List.getElem_mem hj, pj⟩)
    have e1 : addT l k = l := if_pos hin
    exact wpAny_pure (wpAny_pure (hQ s.heap _ (Heap.SameBut.refl a s.heap) ⟨o, es, ep, t, ho, hex, hd, g, by rw [e1]; exact p, by rw [e1]; exact nd, hb, hf, hr, hl⟩))
  | none =>
    have hnot : k ∉ l := fun z => by
      obtain ⟨e, he, q⟩ := (txOf_mem (P := P) g k).1 (p.mem_iff.mpr z)
      have c := List.findIdx?_eq_none_iff.mp hfi e he
      rw [q] at c
      cases c
    have e1 : addT l k = l ++ [k] := if_neg hnot
    have hgw : ∀ (b : Bool) {s₁ : Shared} {Q' : Unit → Shared → Prop}, Q' () s₁ →
        wpAny (model P w) A (match b with | true => rule "set.scan.the-table-gave-way" | false => pure ()) Q' E s₁ :=
      fun b s₁ Q' q => by
        cases b
        · exact wpAny_pure q
        · exact wpAny_rule q
    have pm := layNew_perm t es (hashStr w k) (.str k tk)
    have hf1 := layNew_fits t es (hashStr w k) (.str k tk)
    have hr1 := layNew_ris t es (hashStr w k) (.str k tk) hr
    have hl1 := layNew_led t es (hashStr w k) (.str k tk)
    have ek : (PySem.strKind P w).hash k = hashStr w k := rfl
    try rw [ek]
    revert pm hf1 hr1 hl1
    generalize layNew t es (hashStr w k) (.str k tk) = Z
    intro pm hf1 hr1 hl1
    obtain ⟨es1, t1, wasDummy, gave⟩ := Z
    dsimp only at pm hf1 hr1 hl1 ⊢
    rw [Array.toList_push] at pm
    have pk : (es1.toList.map txOf).Perm (l ++ [k]) := by
      have q := pm.map txOf
      rw [List.map_append] at q
      exact q.trans (p.append_right _)
    have g1 : ∀ e ∈ es1.toList, GoodT w e := fun e he => by
      rcases List.mem_append.mp (pm.mem_iff.mp he) with z | z
      · exact g e z
      · rw [List.mem_singleton.mp z]
        exact ⟨k, tk, rfl, rfl⟩
    have nd1 : (l ++ [k]).Nodup := List.nodup_append.mpr ⟨nd, by simp, fun x hx y hy e => hnot (by rw [← List.mem_singleton.mp hy, ← e]; exact hx)⟩
    have hsz : es1.size = l.length + 1 := by simpa using pk.length_eq
    have hb1 : es1.size < scanBound := by rw [hsz]; exact room
    have hled : w.params.followText "set-order" = true ∨ t1.led = true := hl.imp id fun z => by rw [hl1]; exact z
    have fin : ∀ h', Heap.SameBut a s.heap h' → SetT w h' a (l ++ [k]) → Q true { s with heap := h' } := fun h' sb r => hQ h' true sb (by rw [e1]; exact r)
    refine wpAny_bind (hgw _ ?_)
    split
    · refine wpAny_bind ?_
      rw [hashByValue_scannable 8 hsc]
      refine wpAny_pure ?_
      refine setT_tail ?_ ho hex hd g1 pk nd1 hb1 ?_ ?_ ?_ ?_
      · intro b s₁ Q' q
        cases b <;> first | exact wpAny_pure q | exact wpAny_rule q
      · first | exact hf1 | (split <;> first | exact hf1 | exact SetTable.fits_plain_off hf1)
      · first | exact hr1 | (split <;> exact hr1)
      · first | exact hled | (split <;> exact hled)
      · intro h' sb r
        exact wpAny_pure (fin h' sb r)
    · refine wpAny_bind (wpAny_pure ?_)
      rw [if_pos rfl]
      refine setT_tail ?_ ho hex hd g1 pk nd1 hb1 hf1 hr1 hled ?_
      · intro b s₁ Q' q
        cases b <;> first | exact wpAny_pure q | exact wpAny_rule q
      · intro h' sb r
        exact wpAny_pure (fin h' sb r)
end
section
variable {P : Program} {w : World} {A : Around} {I : Addr} {fp wr : List Addr} {G : Array GenState → Array GenState → Prop} {n : Nat} {Pv : Nat → Value → Prop} {St : Nat → Shared → Prop}

theorem metT_take (xs : List Str) {i : Nat} (h : i < xs.length) : metT (xs.take (i + 1)) = addT (metT (xs.take i)) xs[i] := by
  unfold metT
  rw [List.take_succ_eq_append_getElem h, List.foldl_append]
  rfl
theorem addT_le (l : List Str) (z : Str) : (addT l z).length ≤ l.length + 1 := by
  unfold addT
  split
  · exact Nat.le_succ _
  · simp
theorem foldT_le (xs : List Str) : ∀ l : List Str, (xs.foldl addT l).length ≤ l.length + xs.length := by
  induction xs with
  | nil => intro l; simp
  | cons x r ih =>
    intro l
    rw [List.foldl_cons]
    have h1 := ih (addT l x)
    have h2 := addT_le l x
    rw [List.length_cons]
    omega
theorem metT_le (xs : List Str) : (metT xs).length ≤ xs.length := by
  have := foldT_le xs []
  simpa [metT] using this
theorem addT_nodup {l : List Str} {z : Str} (h : l.Nodup) : (addT l z).Nodup := by
  unfold addT
  split
  · exact h
  · rename_i hn
    exact List.nodup_append.mpr ⟨h, by simp, fun x hx y hy e => hn (by rw [← List.mem_singleton.mp hy, ← e]; exact hx)⟩
theorem addT_mem {l : List Str} {z k : Str} : k ∈ addT l z ↔ k ∈ l ∨ k = z := by
  unfold addT
  split
  · rename_i h
    exact ⟨.inl, fun q => q.elim id fun e => e ▸ h⟩
  · simp
theorem foldT_mem (xs : List Str) (k : Str) : ∀ l : List Str, k ∈ xs.foldl addT l ↔ k ∈ l ∨ k ∈ xs := by
  induction xs with
  | nil => intro l; simp
  | cons x r ih =>
    intro l
    rw [List.foldl_cons, ih, addT_mem, List.mem_cons]
    exact ⟨fun q => q.elim (fun q => q.elim .inl fun e => .inr (.inl e)) fun q => .inr (.inr q),
      fun q => q.elim (fun q => .inl (.inl q)) fun q => q.elim (fun e => .inl (.inr e)) .inr⟩
theorem metT_mem {xs : List Str} {k : Str} : k ∈ metT xs ↔ k ∈ xs := by
  have := foldT_mem xs k []
  simpa [metT] using this
theorem foldT_nodup (xs : List Str) : ∀ l : List Str, l.Nodup → (xs.foldl addT l).Nodup := by
  induction xs with
  | nil => exact fun l h => h
  | cons x r ih => exact fun l h => ih _ (addT_nodup h)
theorem metT_nodup (xs : List Str) : (metT xs).Nodup := foldT_nodup xs [] List.nodup_nil

theorem setT_loop (W : WalksS P w A.in1 I fp wr G n Pv St) (S : Addr) (hSf : S ∉ fp) (xs : List Str) (hn : xs.length = n)
    (hval : ∀ i v, Pv i v → ∃ t, v = .str (xs.getD i Str.empty) t) (hb : n + 1 < scanBound) (R : Result → Shared → Prop) :
    ∀ (k i : Nat) (s : Shared), n - i = k → i ≤ n → St i s → SetT w s.heap S (metT (xs.take i)) →
      (∀ s', Moved (S :: wr) G s s' → SetT w s'.heap S (metT xs) → R (.ok (.ret .none)) s') →
      codeAny (model P w) A (.builtin "set.update.loop" ⟨[.ref S, .ref I], []⟩) R s := by
  have hSw : S ∉ wr := fun h => hSf (W.sub _ h)
  have hsub : ∀ b ∈ wr, b ∈ S :: wr := fun b hb => List.mem_cons_of_mem _ hb
  intro k
  induction k with
  | zero =>
    intro i s hk hi hst hS hR
    have hin : i = n := by omega
    subst hin
    refine codeAny_builtin F.entry_set_update_loop ?_
    rw [Around.under_plainId F.plain_set_update_loop _]
    show wpAny _ A.in1 (pyNext (.ref I) >>= _) _ _ s
    refine wpAny_bind (W.done s _ _ hst fun s' hm => ?_)
    show wpAny _ A.in1 (ret Value.none) _ _ s'
    refine wpAny_pure (hR s' (hm.mono hsub) ?_)
    have e : xs.take i = xs := List.take_of_length_le (by omega)
    rw [e] at hS
    exact hS.kept fun o q => hm.heap S o hSw q
  | succ k ih =>
    intro i s hk hi hst hS hR
    have hlt : i < n := by omega
    have hlx : i < xs.length := by omega
    refine codeAny_builtin F.entry_set_update_loop ?_
    rw [Around.under_plainId F.plain_set_update_loop _]
    show wpAny _ A.in1 (pyNext (.ref I) >>= _) _ _ s
    refine wpAny_bind (W.item i s _ _ hlt hst fun v s' hP hst' hm => ?_)
    obtain ⟨t, rfl⟩ := hval i v hP
    have hx : xs.getD i Str.empty = xs[i] := by simp [List.getD, hlx]
    have hS' : SetT w s'.heap S (metT (xs.take i)) := hS.kept fun o q => hm.heap S o hSw q
    show wpAny _ A.in1 (holding [Value.str (xs.getD i Str.empty) t] (setAdd S (.str (xs.getD i Str.empty) t)) >>= _) _ _ s'
    refine wpAny_bind (wpAny_holding ?_)
    unfold setAdd
    refine wpAny_holding (wpAny_bind (wpAny_pyHash_str ?_))
    have hroom : (metT (xs.take i)).length + 1 < scanBound := by
      have h1 := metT_le (xs.take i)
      rw [List.length_take] at h1
      omega
    refine setT_add (s := { s' with toks := s'.toks + 1 }) hS' hroom fun h' b hsb hS2 => ?_
    rw [hx, ← metT_take xs hlx] at hS2
    refine wpAny_pure ⟨plainId_quiet F.plain_set_update_loop _, ih (i + 1) _ (by omega) hlt (W.frame _ s' _ _ hst' (Nat.le_succ _) fun b hb o e => ?_) hS2 fun s2 hm2 hq2 => ?_⟩
    · rw [hsb.2 b (fun h : b = S => hSf (by rw [← h]; exact hb))]
      exact e
    · refine hR s2 (Moved.trans W.gtrans ((hm.mono hsub).then_heap (Nat.le_succ _) fun b o hb e => ?_) hm2) hq2
      rw [hsb.2 b (fun h : b = S => hb (by rw [h]; exact List.mem_cons_self))]
      exact e
end

section
variable {P : Program} {w : World} {A : Around} {E : Value → Shared → Prop} {s : Shared}
/-- the empty set, its table known by the world -/
abbrev newSet (w : World) : Obj := { cls := .type "set", dict := none, data := .set #[] 0 (.fresh 0 0 (!w.params.followText "set-order")) }
theorem setT_empty (h : Heap) (w : World) : SetT w (h.push (newSet w)) h.objs.size [] := by
  refine ⟨_, #[], 0, _, Heap.get?_push_size _ rfl, ⟨rfl, rfl, rfl⟩, rfl, fun e he => by simp at he, by simp, List.nodup_nil, by decide, by rfl, List.Pairwise.nil, ?_⟩
  show _ ∨ (!w.params.followText "set-order") = true
  cases w.params.followText "set-order"
  · exact .inr rfl
  · exact .inl rfl
theorem set_made1 (a : Value) {Q₁ : Value → Shared → Prop} (h : Q₁ (.ref s.heap.objs.size) { s with heap := s.heap.push (newSet w) }) :
    codeAny (model P w) A (.call (.builtin "set.__new__") ⟨[.type "set", a], []⟩) (wants Q₁ E) s := by
  refine codeAny_of_tree ?_
  show wpAny _ A.in1 (do checkBuiltinCall "set.__new__" ⟨[.type "set", a], []⟩; again (.builtin "set.__new__" ⟨[.type "set", a], []⟩)) _ _ s
  refine wpAny_bind (wpAny_of_eq (PySem.F.newCall_set_1 a) (wpAny_pure ⟨plainId_quiet PySem.F.plain_set_new _, codeAny_builtin PySem.F.entry_set_new ?_⟩))
  rw [Around.under_plainId PySem.F.plain_set_new _]
  unfold Builtin.«set.__new__» Builtin.Frozenset.newClass
  have hsub := sub_set_self
  obtain ⟨hp, g, d, tk, os⟩ := s
  dsimp only
  wp_walk
  refine wpAny_askSetting (wpAny_pure ?_)
  dsimp only
  simp only [newObj]
  exact wpAny_bind (wpAny_alloc (wpAny_pure (wpAny_pure h)))

theorem strs_get : ∀ {us : List Value} {xs : List Str}, StrsAre us xs → ∀ (i : Nat) (v : Value), us[i]? = some v → ∃ t, v = .str (xs.getD i Str.empty) t
  | _, _, .nil, i, v, h => by simp at h
  | _, _, .cons z t r, 0, v, h => by
    simp at h
    exact ⟨t, h.symm⟩
  | _, _, .cons z t r, i + 1, v, h => strs_get r i v (by simpa using h)

/-- set(xs) -/
theorem call_setT {l : Addr} {items : Array Value} {xs : List Str} {Q : Value → Shared → Prop}
    (hh : A.handled = none) (hl : s.heap.IsList l items) (hi : StrsAre items.toList xs) (hb : xs.length + 1 < scanBound)
    (h : ∀ (h' : Heap) (tk : Nat), SetT w h' s.heap.objs.size (metT xs) → (∀ b o, b < s.heap.objs.size → s.heap.get? b = some o → h'.get? b = some o) →
      Q (.ref s.heap.objs.size) { s with heap := h', toks := tk }) :
    wpAny (model P w) A (call (.type "set") [.ref l]) Q E s := by
  have hsz : items.size = xs.length := by
    have := hi.length
    simpa using this
  obtain ⟨c, tl, hmro⟩ := PySem.F.called_set.mro
  have hmade := PySem.F.called_set.made
  have hsub := PySem.F.called_set.sub
  refine wpAny_call (codeAny_of_tree ?_)
  show wpAny _ _ (callAny (.type "set") _) _ _ _
  refine wpAny_pure ⟨Code.quiet_builtin _ (by decide +kernel), codeAny_builtin PySem.F.entry_type_call ?_⟩
  rw [Around.under_plain (weight_type_call_type "set" [.ref l] []) rfl]
  have h1 := PySem.F.called_set.notType
  have h2 := PySem.F.called_set.canCreate
  have hct := PySem.F.typeCall_set_1 (.ref l)
  repeat (any_goals (first | assumption | wp_step))
  refine codeAny_mono (set_made1 (.ref l) (E := E) (Q₁ := fun obj s₁ => obj = .ref s.heap.objs.size ∧ s₁ = { s with heap := s.heap.push (newSet w) }) ⟨rfl, rfl⟩) fun r s₁ hr => ?_
  cases r with
  | error e => exact hr
  | ok fl =>
    cases fl with
    | ret obj =>
      obtain ⟨rfl, rfl⟩ := hr
      have hS : (s.heap.push (newSet w)).get? s.heap.objs.size = some (newSet w) := Heap.get?_push_size _ rfl
      have hT : Shared.TypeIs { s with heap := s.heap.push (newSet w) } (.ref s.heap.objs.size) "set" := ⟨_, hS, rfl⟩
      have hli := PySem.F.called_set.init.lookup
      have hbi := PySem.F.called_set.init.bind (.ref s.heap.objs.size)
      repeat (any_goals (first | assumption | wp_step))
      refine codeAny_mono (codeAny_call_builtin (R := wants (fun r s₂ => r = .none ∧ ∃ h' tk, s₂ = { s with heap := h', toks := tk } ∧ SetT w h' s.heap.objs.size (metT xs) ∧
          (∀ b o, b < s.heap.objs.size → s.heap.get? b = some o → h'.get? b = some o)) E) PySem.F.called_set.init.plain PySem.F.entry_set_init (check_set_init_1 hT ?_)) fun r₂ s₂ hr₂ => ?_
      · obtain ⟨ol, hol, hcl, nl, hdl⟩ := hl
        obtain ⟨ocls, odict, odata, oslots⟩ := ol
        simp only at hcl hdl
        subst hcl
        subst hdl
        have hol' : (s.heap.push (newSet w)).get? l = some { cls := .type "list", dict := odict, data := .seq items nl, slots := oslots } := Heap.get?_push_of_some _ hol
        have hsls := PySem.F.sub_list_set
        have hslf := PySem.F.sub_list_frozenset
        have hne : (Value.type "list" == Value.type "dict") = false := by decide
        have hl1 : (s.heap.push (newSet w)).IsList l items := ⟨_, hol', rfl, nl, rfl⟩
        have hlS : l < s.heap.objs.size := Heap.lt_size hol
        unfold Builtin.«set.__init__» noKeywords Builtin.Frozenset.updateFrom
        generalize hPI : pyIter = PI
        wp_walk
        subst hPI
        refine wpAny_pyIter_list hl1 (wpAny_bind (wpAny_runValue ?_))
        have hneI : l ≠ (s.heap.push (newSet w)).objs.size := by
          rw [Heap.size_push]
          exact Nat.ne_of_lt (Nat.lt_succ_of_lt hlS)
        have hSf : s.heap.objs.size ∉ [(s.heap.push (newSet w)).objs.size, l] := by
          rw [Heap.size_push]
          intro hm
          rcases List.mem_cons.mp hm with z | z
          · exact absurd z (Nat.ne_of_lt (Nat.lt_succ_self _))
          · exact absurd (List.mem_singleton.mp z) (Nat.ne_of_gt hlS)
        refine setT_loop (n := items.size) ((Walks.list (by simp [hh]) _ l hneI items).toS) s.heap.objs.size hSf xs hsz.symm (fun i v hv => strs_get hi i v (by rw [Array.getElem?_toList]; exact hv))
          (by rw [hsz]; exact hb) _ (items.size - 0) 0 _ (by omega) (Nat.zero_le _) ⟨⟨_, Heap.get?_push_size _ rfl, rfl, rfl⟩, hl1.push _⟩ ?_ ?_
        · exact (setT_empty s.heap w).kept fun o q => Heap.get?_push_of_some _ q
        · intro s' hm hS'
          obtain ⟨h', g', d', tk', os'⟩ := s'
          obtain rfl : g' = s.gens := hm.gens
          obtain rfl : d' = s.drawn := hm.drawn
          obtain rfl : os' = s.os := hm.os
          show wpAny _ _ _ _ _ _
          refine wpAny_pure ?_
          show wpAny _ _ (ret Value.none) _ _ _
          refine wpAny_pure ⟨rfl, h', tk', rfl, hS', fun b o hb e => hm.heap b o ?_ (Heap.get?_push_of_some _ (Heap.get?_push_of_some _ e))⟩
          rw [Heap.size_push]
          intro z
          rcases List.mem_cons.mp z with z | z
          · exact absurd z (Nat.ne_of_lt hb)
          · exact absurd (List.mem_singleton.mp z) (Nat.ne_of_lt (Nat.lt_succ_of_lt hb))
      · cases r₂ with
        | error e => exact hr₂
        | ok fl₂ =>
          cases fl₂ with
          | ret r =>
            obtain ⟨rfl, h', tk, rfl, hS', hk'⟩ := hr₂
            repeat (any_goals (first | assumption | wp_step))
            exact h _ _ hS' hk'
          | _ => exact hr₂.elim
    | _ => exact hr.elim

theorem strsAre_txOf : ∀ {l : List (Int × Value)}, (∀ e ∈ l, GoodT w e) → StrsAre (l.map (·.2)) (l.map txOf)
  | [], _ => .nil
  | e :: r, g => by
    obtain ⟨z, tk, h1, _⟩ := g e List.mem_cons_self
    have e1 : txOf e = z := by
      unfold txOf
      rw [h1]
    rw [List.map_cons, List.map_cons, e1, h1]
    exact .cons z tk (strsAre_txOf fun u hu => g u (List.mem_cons_of_mem _ hu))
/-- sorted(a set of texts) -/
theorem sorted_setT {a : Addr} {l : List Str} {Q : Value → Shared → Prop} (R : SetT w s.heap a l) (hh : A.handled = none) (h64 : l.length < 64)
    (hQ : ∀ s' p (out : Array Value) (c : Nat) (ys : List Str), (∀ b o, s.heap.get? b = some o → s'.heap.get? b = some o) → s'.gens = s.gens → s'.os = s.os → s.heap.objs.size ≤ p →
      s'.heap.get? p = some (seqObj "list" out c) → StrsAre out.toList ys → ys.Perm l → sortedS ys = true → Q (.ref p) s') :
    wpAny (model P w) A (call (.builtin "sorted") [.ref a]) Q E s := by
  obtain ⟨o, es, ep, t, ho, hex, hd, g, p, nd, hb, hf, hr, hl⟩ := R
  refine Calls.call_function_entry kind_sorted plain_sorted entry_sorted (args_sorted1 _) ?_
  unfold Builtin.«sorted»
  refine wpAny_bind (m := checkCount "sorted" 1 1 _) (wpAny_pure ?_)
  refine wpAny_bind (collect_set (A := A.in1) hh ⟨o, ho, hex.1, hd⟩ hf hb hr hl fun s1 vs k1 hz g1 o1 pm => ?_)
  have hvl : vs.length = l.length := by
    have h1 := pm.length_eq
    have h2 := p.length_eq
    simp at h1 h2
    omega
  have hall : ∀ v ∈ vs, ∃ x t, v = .str x t := fun v hv => by
    obtain ⟨e, he, q⟩ := List.mem_map.mp (pm.mem_iff.mp hv)
    obtain ⟨z, tk, h1, _⟩ := g e he
    exact ⟨z, tk, by rw [← q]; exact h1⟩
  have hS := strsAre_map vs hall
  have ps : (vs.map strOf).Perm l := by
    have q := pm.map strOf
    have e2 := (strsAre_txOf g).strs
    rw [e2] at q
    exact q.trans p
  refine wpAny_bind (wpAny_newList ?_ (by rw [hvl, sizeLine_eq]; omega))
  have hoL : (s1.heap.push (seqObj "list" vs.toArray 0)).get? s1.heap.objs.size = some (seqObj "list" vs.toArray 0) := Heap.get?_push_size _ rfl
  refine wpAny_bind (wpAny_holding (wpAny_call_entry slot_list_sort ⟨_, hoL, rfl⟩ entry_list_sort
    (list_sort_treeK strKind_oneLt hoL hS.keysOf (fun v₁ v₂ rest e => keyKind_strs (by rw [← e]; exact hS)) (by rw [hvl]; exact h64) fun st' hp hs => ⟨_, rfl, ?_⟩) (args_list_sort _)))
  obtain ⟨ys, a1, a2, a3⟩ := sorted_out_str hS hp hs
  obtain ⟨c, hc⟩ := sortedHeap_at (vs := vs) (out := (arrOf st').map (·.2)) hoL
  refine wpAny_pure ⟨_, rfl, hQ _ s1.heap.objs.size _ c ys (fun b u e => ?_) g1 o1 hz hc a1 (a2.trans ps) a3⟩
  have q := k1 b u e
  have hlt := Heap.lt_size q
  show (sortedHeap (s1.heap.push (seqObj "list" vs.toArray 0)) s1.heap.objs.size vs _).get? b = some u
  rw [sortedHeap_old (Nat.ne_of_lt hlt) (by rw [size_push']; exact Nat.lt_succ_of_lt hlt)]
  exact Heap.get?_push_of_some _ q
end

/-! ## over the layer -/
def SetO (w : World) (a : Addr) (l : List Str) : HO := .ext fun h => SetT w h a l
section
variable {X : Cx} {pins : List (Addr × Obj)} {σ : L2.St} {H : Hp} {s : Shared}
theorem setO_ok {P : Program} {w : World} {h : Heap} {a : Addr} {l : List Str} (R : SetT w h a l) : ObjOk P w H h a (SetO w a l) := by
  have q := id R
  obtain ⟨o, es, ep, t, ho, r⟩ := q
  exact ⟨R, ⟨o, ho⟩, fun h1 h2 r1 k => SetT.kept r1 k⟩
/-- set(xs): a new set of the texts -/
def rSet (K : PySem.W.Frag) (w : World) : List V → Hp → VK → Prop := fun vs H Q => ∃ (a : Addr) (xs : List Str), vs = [V.ref a] ∧ SqL K H a (xs.map V.str) ∧ xs.length + 1 < scanBound ∧
  ∀ p, H p = none → Q (.ref p) (upd H p (SetO w p (metT xs)))
theorem cr_set (hc : X.calm = true) : CallR X (.type "set") (rSet X.K X.w) := by
  intro pins s σ H vs us Q I r h
  obtain ⟨a, xs, rfl, hs, hb, q⟩ := h
  obtain ⟨its, rv, hl, _⟩ := I.list hs
  rw [Vals.ref1 r]
  refine call_setT (I.ok.hd hc) hl.isList rv.strs hb fun h' tk hS hk => ?_
  have k : ∀ b o, s.heap.get? b = some o → h'.get? b = some o := fun b o e => hk b o (Heap.lt_size e) e
  exact ⟨.ref _, _, I.laid (t' := tk) (o := SetO X.w s.heap.objs.size (metT xs)) k (Nat.le_refl _) (setO_ok hS), rfl, q _ (I.hok.fresh (Nat.le_refl _))⟩
/-- sorted(a set of texts): a new list -/
def rSortedO (w : World) : List V → Hp → VK → Prop := fun vs H Q => ∃ (a : Addr) (l : List Str), vs = [V.ref a] ∧ H a = some (SetO w a l) ∧ l.length < 64 ∧
  ∀ (ys : List Str) (p : Addr), ys.Perm l → sortedS ys = true → H p = none → Q (.ref p) (upd H p (.lst (ys.map V.str)))
theorem cr_sortedO (hc : X.calm = true) : CallR X (.builtin "sorted") (rSortedO X.w) := by
  intro pins s σ H vs us Q I r h
  obtain ⟨a, l, rfl, ha, h64, q⟩ := h
  have R : SetT X.w s.heap a l := (I.hok a _ ha).1
  rw [Vals.ref1 r]
  refine sorted_setT R (I.ok.hd hc) h64 fun s' p out c ys k g o hp hgt hi pm hso => ?_
  have hlen : (ys.map V.str).length ≤ sizeLine := by
    rw [List.length_map, pm.length_eq, sizeLine_eq]
    omega
  have hn : H p = none := I.hok.fresh hp
  have J : Inv X pins σ (upd H p (.lst (ys.map V.str))) { s with heap := s'.heap, gens := s'.gens, drawn := s'.drawn, toks := s'.toks } :=
    I.call (ch := []) (Un.laid k hp hn) (I.hok.laid k hp ⟨hlen, out.toList, c, vals_of_strs hi, hgt⟩) (by rw [g]; exact I.bare) (fun _ z => nomatch z)
  have e : s' = { s with heap := s'.heap, gens := s'.gens, drawn := s'.drawn, toks := s'.toks } := by
    cases s'
    cases s
    cases o
    rfl
  rw [e]
  exact ⟨.ref p, _, J, rfl, q ys p pm hso hn⟩
end
end RB

/-! The layer's rules over texts as lists of codes; calls of defs that are told by their promise; loops and comprehensions by what is evaluated. -/
namespace RC
open PySem PySem.Spec PyProof.Rows L2 Evl TL

/-! ## texts by their codes -/
def S (l : List Nat) : Str := ⟨l.toArray⟩
abbrev T (l : List Nat) : V := .str (S l)
@[simp] theorem S_len (l : List Nat) : (S l).length = l.length := by simp [S, Str.length]
@[simp] theorem tl_S (l : List Nat) : tl (S l) = l := rfl
theorem S_tl (x : Str) : S (tl x) = x := mk_tl x
theorem S_inj {a b : List Nat} : S a = S b ↔ a = b := ⟨fun h => by have := congrArg tl h; simpa using this, fun h => by rw [h]⟩
theorem T_inj {a b : List Nat} : T a = T b ↔ a = b := ⟨fun h => S_inj.mp (by injection h), fun h => by rw [h]⟩
theorem S_append (a b : List Nat) : S a ++ S b = S (a ++ b) := ext_tl (by rw [tl_append, tl_S, tl_S, tl_S])
theorem S_cps (l : List Nat) : (S l).cps.toList = l := rfl
theorem dec_T (a b : List Nat) : decide (T a = T b) = decide (a = b) := by simp only [T_inj]
theorem big : sizeLine = 16777216 := sizeLine_eq

/-! ## defs, told by name -/
/-- at level k the name x holds a def of the parameters ps that keeps sp -/
def Has (P : Program) (w : World) (K : PySem.W.Frag) (mg : Str → Option Value) (base : Heap) (CX : CXT) (k : Nat) (x : Str) (ps : List Str) (sp : Sp) : Prop :=
  ∃ f fd, FnOk P w K mg base CX k f fd ps sp ∧ mg x = some (.ref f) ∧ PySem.W.keepIn K (.ref f) = true ∧ Binds K fd ps []
section
variable {P : Program} {w : World} {K : PySem.W.Frag} {mg : Str → Option Value} {base : Heap} {CX : CXT}
theorem Has.mono {j k : Nat} {x : Str} {ps : List Str} {sp : Sp} (h : Has P w K mg base CX j x ps sp) (l : j ≤ k) : Has P w K mg base CX k x ps sp := by
  obtain ⟨f, fd, h1, h2, h3, h4⟩ := h
  exact ⟨f, fd, h1.mono l, h2, h3, h4⟩
theorem Has.imp {k : Nat} {x : Str} {ps : List Str} {sp sp' : Sp} (h : Has P w K mg base CX k x ps sp) (l : ∀ vs H Q E, sp' vs H Q E → sp vs H Q E) : Has P w K mg base CX k x ps sp' := by
  obtain ⟨f, fd, h1, h2, h3, h4⟩ := h
  exact ⟨f, fd, h1.imp l, h2, h3, h4⟩
/-- how a def of the text stands behind the top -/
structure At (K : PySem.W.Frag) (mg : Str → Option Value) (x : Str) (st : Stmt) (ps : List Str) : Prop where
  ex : ∃ f fd, Fun K x x st f fd ∧ mg x = some (.ref f) ∧ Binds K fd ps []
theorem At.ok {x : Str} {st : Stmt} {N ps : List Str} {k : Nat} {sp : Sp} (F : At K mg x st ps) (S : FnScope N ps (defScope st)) (len : ∀ vs H Q E, sp vs H Q E → vs.length = ps.length)
    (hbody : ∀ (f : Addr) (cdv : Value) (A : Around) (outer : List Env) (s : Shared) (H : Hp) (vs : List V) (Q : VK) (E : XK), Room k (A.deeper (envOfC x (defScope st) s.heap.objs.size f cdv)) → sp vs H Q E →
      ∃ t, PSs (cxOf CX0 P w K mg base N x (defScope st) f cdv A outer s H E).nox (defBody st) t ∧ t { nx := fun _ H' => Q .non H', rt := Q } (start N vs) H) : Has P w K mg base CX0 (k + 1) x ps sp := by
  obtain ⟨f, fd, h1, h2, h3⟩ := F.ex
  exact ⟨f, fd, h1.ok S len (hbody f), h2, h1.kp, h3⟩
end
section
variable {X : Cx} {CX : CXT} {E : XK} {k : Nat} {x : Str} {ps : List Str} {sp : Sp} {t : TA} {e : Expr} {es : List Expr} {p pos : Pos}
theorem pe_has (h : Has X.prog X.w X.K X.mg X.base CX k x ps sp) (hr : Room k X.A) (hx : Passes CX X E) (ha : PA X (e :: es) t) (hg : Gl X x := by rfl) (hd : (x == ("__debug__" : Str)) = false := by decide)
    (hs : starEach (e :: es) X.env = (false, eval e X.env) :: starEach es X.env := by rfl) (hpl : (backTo pos (starEach es X.env)).any (·.1) = false := by rfl) :
    PE X (.Call (.Name x p) (e :: es) [] pos) (tCall sp [] E t) := by
  obtain ⟨f, fd, h1, h2, h3, h4⟩ := h
  exact pe_call h1 hr hg h2 h3 h4 .nil hx ha hd hs hpl
/-- a constant of the module that is a text, an int -/
theorem pe_gs {z : Str} (h : ∃ t, X.mg x = some (.str z t)) (hg : Gl X x := by rfl) (hd : (x == ("__debug__" : Str)) = false := by decide) : PE X (.Name x pos) (tC (.str z)) := by
  obtain ⟨t, h⟩ := h
  exact pe_glob hg h ⟨t, rfl⟩ hd
theorem pe_gi {z : Int} (h : ∃ t, X.mg x = some (.int z t)) (hg : Gl X x := by rfl) (hd : (x == ("__debug__" : Str)) = false := by decide) : PE X (.Name x pos) (tC (.int z)) := by
  obtain ⟨t, h⟩ := h
  exact pe_glob hg h ⟨t, rfl⟩ hd
end

/-! ## rules by codes -/
theorem opr_imp {X : Cx} {f : Value → Value → Sem Value} {r r' : R2} (h : OpR X f r) (i : ∀ x y H Q, r' x y H Q → r x y H Q) : OpR X f r' :=
  fun pins s σ H x y v u Q I rx ry q => h pins s σ H x y v u Q I rx ry (i x y H Q q)
theorem callr_imp {X : Cx} {f : Value} {r r' : List V → Hp → VK → Prop} (h : CallR X f r) (i : ∀ x H Q, r' x H Q → r x H Q) : CallR X f r' :=
  fun pins s σ H xs us Q I rx q => h pins s σ H xs us Q I rx (i xs H Q q)
def rAddT : R2 := fun x y H Q => ∃ a b, x = T a ∧ y = T b ∧ a.length + b.length ≤ 16777216 ∧ Q (T (a ++ b)) H
theorem op_addT {X : Cx} : OpR X (binaryOp .Add) rAddT := opr_imp op_add_str fun x y H Q ⟨a, b, ha, hb, hl, q⟩ =>
  ⟨S a, S b, ha, hb, by rw [S_len, S_len, big]; exact hl, by rw [S_append]; exact q⟩
def rInT : R2 := fun x y H Q => ∃ c l, x = T [c] ∧ y = T l ∧ Q (.bl (decide (c ∈ l))) H
theorem op_inT {X : Cx} : OpR X (compareOp .In) rInT := opr_imp op_in_sign fun x y H Q ⟨c, l, hx, hy, q⟩ => ⟨c, S l, hx, hy, q⟩
def rNotInT : R2 := fun x y H Q => ∃ c l, x = T [c] ∧ y = T l ∧ Q (.bl (!decide (c ∈ l))) H
theorem op_notInT {X : Cx} : OpR X (compareOp .NotIn) rNotInT := opr_imp op_notIn_sign fun x y H Q ⟨c, l, hx, hy, q⟩ => ⟨c, S l, hx, hy, q⟩
def rLenT : List V → Hp → VK → Prop := fun xs H Q => ∃ l, xs = [T l] ∧ l.length ≤ 16777216 ∧ Q (.int (l.length : Int)) H
theorem call_lenT {X : Cx} : CallR X (.builtin "len") rLenT := callr_imp call_len_str fun xs H Q ⟨l, hx, hl, q⟩ => ⟨S l, hx, by rw [S_len, big]; exact hl, by rw [S_len]; exact q⟩
/-- len of a list or tuple -/
def rLenL (K : PySem.W.Frag) : List V → Hp → VK → Prop := fun xs H Q => ∃ p ys, xs = [.ref p] ∧ (SqL K H p ys ∨ SqT K H p ys) ∧ Q (.int ys.length) H
theorem call_lenL {X : Cx} : CallR X (.builtin "len") (rLenL X.K) := call_len_seq
def rIxC : R2 := fun x y H Q => ∃ l i, x = T l ∧ y = .int i ∧ l.length ≤ 16777216 ∧ 0 ≤ i ∧ i < l.length ∧ Q (T [l.getD i.toNat 0]) H
theorem ix_C {X : Cx} : IxR X rIxC := by
  intro ve sl pins s σ H x y v u Q I rx ry h
  obtain ⟨l, i, hx, hy, hl, h0, h1, q⟩ := h
  refine ix_str ve sl pins s σ H x y v u Q I rx ry ⟨S l, i, l.getD i.toNat 0, hx, hy, by rw [S_len, big]; exact hl, ?_, q⟩
  have e : i = ((i.toNat : Nat) : Int) := by omega
  have hlt : i.toNat < l.length := by omega
  have a : atI l ((i.toNat : Nat) : Int) = some (l.getD i.toNat 0) := atI_nat (by simp [List.getD, hlt])
  rw [← e] at a
  exact a
/-- text * int -/
def repT (l : List Nat) (k : Nat) : List Nat := (List.replicate k l).flatten
def rRepT : R2 := fun x y H Q => ∃ l k, x = T l ∧ y = .int k ∧ -(2 ^ 63) ≤ k ∧ k < 2 ^ 63 ∧ l.length * k.toNat ≤ 16777216 ∧ Q (T (repT l k.toNat)) H
theorem foldl_cps (z : Array Nat) : ∀ (k : Nat) (acc : Array Nat), ((List.replicate k z).foldl (· ++ ·) acc).toList = acc.toList ++ (List.replicate k z.toList).flatten := by
  intro k
  induction k with
  | zero => intro acc; simp
  | succ k ih =>
    intro acc
    rw [List.replicate_succ, List.foldl_cons, ih, List.replicate_succ, List.flatten_cons]
    simp
theorem op_repT {X : Cx} : OpR X (binaryOp .Mult) rRepT := by
  intro pins s σ H x y v u Q I rx ry h
  obtain ⟨l, k, rfl, rfl, h1, h2, hl, q⟩ := h
  obtain ⟨t, rfl⟩ := rx
  obtain ⟨t', rfl⟩ := ry
  have e63 : (2 : Int) ^ 63 = 9223372036854775808 := by decide
  rw [e63] at h1 h2
  refine PySem.P.mul_str (by simp; omega) (fun a b => ?_) (fun a b => ?_) ?_
  · have hn : 1 ≤ k := by omega
    have hz : (S l).length ≠ 0 := by
      intro z
      rw [z] at b
      simp at b
    rw [S_len] at hz ⊢
    intro c
    have c2 : (9223372036854775807 : Int) / k < (l.length : Int) := by simpa [e63] using c
    have c3 := (Int.ediv_lt_iff_lt_mul (by omega : 0 < k)).mp c2
    have c4 : (l.length : Int) * k = ((l.length * k.toNat : Nat) : Int) := by
      rw [Int.natCast_mul]
      congr 1
      omega
    omega
  · unfold Builtin.Str.tooLong
    rw [S_len, big]
    simp
    omega
  · have e1 : (⟨(List.replicate k.toNat (S l).cps).foldl (· ++ ·) #[]⟩ : Str) = S (repT l k.toNat) := by
      refine ext_tl ?_
      show ((List.replicate k.toNat (S l).cps).foldl (· ++ ·) #[]).toList = repT l k.toNat
      rw [foldl_cps]
      simp [repT, S]
    have hlen : (repT l k.toNat).length ≤ 16777216 := by
      unfold repT
      rw [List.length_flatten]
      simp
      rw [Nat.mul_comm]
      exact hl
    by_cases c1 : k < 1
    · rw [if_pos c1]
      have e0 : k.toNat = 0 := by omega
      rw [e0] at q
      exact ⟨by decide, .str _, H, I.tok _, ⟨_, rfl⟩, q⟩
    · rw [if_neg c1]
      by_cases c2 : (k == 1 || (S l).length == 0) = true
      · rw [if_pos c2]
        have e2 : repT l k.toNat = l := by
          rcases (Bool.or_eq_true _ _).mp c2 with z | z
          · have z' : k = 1 := by simpa using z
            subst z'
            simp [repT]
          · have z' : l = [] := by simpa using z
            subst z'
            simp [repT]
        rw [e2] at q
        exact ⟨.str (S l), H, I, ⟨t, rfl⟩, q⟩
      · rw [if_neg c2, e1]
        exact ⟨by rw [S_len, big]; exact hlen, .str _, H, I.tok _, ⟨_, rfl⟩, q⟩
end RC

/-! What expressions over texts evaluate to; loops and comprehensions over texts. -/
namespace RD
open PySem PySem.Spec PyProof.Rows L2 Evl TL RC RA
section
variable {K : PySem.W.Frag} {σ : L2.St} {H H' : Hp} {ta tb te tx : TE} {t u : TT} {x y z v : V} {r : R2} {a b l : List Nat} {i j : Int}
theorem ev_s {x : Str} (l : List Nat) (h : x = S l) : Ev (tC (.str x)) σ H (T l) := by
  subst h
  exact ev_c
theorem ev_addT (ha : Ev ta σ H (T a)) (hb : Ev tb σ H (T b)) (hl : a.length + b.length ≤ 16777216) : Ev (tOp rAddT ta tb) σ H (T (a ++ b)) :=
  ev_op ha hb fun H1 _ Q q => ⟨a, b, rfl, rfl, hl, q H1 (Ex.refl H1)⟩
theorem ev_inT {c : Nat} (ha : Ev ta σ H (T [c])) (hb : Ev tb σ H (T b)) : Ev (tOp rInT ta tb) σ H (.bl (decide (c ∈ b))) :=
  ev_op ha hb fun H1 _ Q q => ⟨c, b, rfl, rfl, q H1 (Ex.refl H1)⟩
theorem ev_notInT {c : Nat} (ha : Ev ta σ H (T [c])) (hb : Ev tb σ H (T b)) : Ev (tOp rNotInT ta tb) σ H (.bl (!decide (c ∈ b))) :=
  ev_op ha hb fun H1 _ Q q => ⟨c, b, rfl, rfl, q H1 (Ex.refl H1)⟩
theorem ev_lenT (ha : Ev ta σ H (T a)) (hl : a.length ≤ 16777216) : Ev (tCB rLenT (tCons ta tNil)) σ H (.int (a.length : Int)) :=
  ev_cb (ea_cons ha ea_nil) fun H1 _ Q q => ⟨a, rfl, hl, q H1 (Ex.refl H1)⟩
theorem ev_lenL {p : Addr} {xs : List V} (ha : Ev ta σ H (.ref p)) (h : SqL K H p xs) : Ev (tCB (rLenL K) (tCons ta tNil)) σ H (.int (xs.length : Int)) :=
  ev_cb (ea_cons ha ea_nil) fun H1 e Q q => ⟨p, xs, rfl, .inl (ex_l e h), q H1 (Ex.refl H1)⟩
theorem ev_ixC (ha : Ev ta σ H (T a)) (hb : Ev tb σ H (.int i)) (hl : a.length ≤ 16777216) (h0 : 0 ≤ i) (h1 : i < a.length) : Ev (tOp rIxC ta tb) σ H (T [a.getD i.toNat 0]) :=
  ev_op ha hb fun H1 _ Q q => ⟨a, i, rfl, rfl, hl, h0, h1, q H1 (Ex.refl H1)⟩
theorem ev_repT (ha : Ev ta σ H (T a)) (hb : Ev tb σ H (.int i)) (h0 : 0 ≤ i) (h1 : i ≤ 16777216) (hl : a.length * i.toNat ≤ 16777216) : Ev (tOp rRepT ta tb) σ H (T (repT a i.toNat)) :=
  ev_op ha hb fun H1 _ Q q => ⟨a, i, rfl, rfl, by omega, by omega, hl, q H1 (Ex.refl H1)⟩
theorem ev_eqT (ha : Ev ta σ H (T a)) (hb : Ev tb σ H (T b)) : Ev (tOp rEq ta tb) σ H (.bl (decide (a = b))) := by
  rw [← dec_T]
  exact ev_op ha hb (rv_eq rfl)
theorem ev_neT (ha : Ev ta σ H (T a)) (hb : Ev tb σ H (T b)) : Ev (tOp rNe ta tb) σ H (.bl (!decide (a = b))) := by
  rw [← dec_T]
  exact ev_op ha hb (rv_ne rfl)
theorem ev_eqI (ha : Ev ta σ H (.int i)) (hb : Ev tb σ H (.int j)) : Ev (tOp rEq ta tb) σ H (.bl (decide (i = j))) := by
  have e : decide (V.int i = V.int j) = decide (i = j) := by simp
  rw [← e]
  exact ev_op ha hb (rv_eq rfl)
theorem ev_neI (ha : Ev ta σ H (.int i)) (hb : Ev tb σ H (.int j)) : Ev (tOp rNe ta tb) σ H (.bl (!decide (i = j))) := by
  have e : decide (V.int i = V.int j) = decide (i = j) := by simp
  rw [← e]
  exact ev_op ha hb (rv_ne rfl)
theorem ev_mul (ha : Ev ta σ H (.int i)) (hb : Ev tb σ H (.int j)) (h : CMul i j) : Ev (tOp (rI CMul fun i j => .int (i * j)) ta tb) σ H (.int (i * j)) := ev_op ha hb (rv_I h)
theorem ev_mod (ha : Ev ta σ H (.int i)) (hb : Ev tb σ H (.int j)) (h : 0 < j) : Ev (tOp (rI (fun _ j => 0 < j) fun i j => .int (i % j)) ta tb) σ H (.int (i % j)) := ev_op ha hb (rv_I h)
theorem ev_fdiv (ha : Ev ta σ H (.int i)) (hb : Ev tb σ H (.int j)) (h : CDiv i j) : Ev (tOp (rI CDiv fun i j => .int (i / j)) ta tb) σ H (.int (i / j)) := ev_op ha hb (rv_I h)
theorem ev_i0 {g : Int → Int → V} (ha : Ev ta σ H (.int i)) (hb : Ev tb σ H (.int j)) : Ev (tOp (rI0 g) ta tb) σ H (g i j) := ev_op ha hb rv_I0
/-- x is None -/
theorem ev_isN (ha : Ev ta σ H x) (hb : Ev tb σ H .non) : Ev (tOp (fun x y H Q => y = .non ∧ Q (.bl (decide (x = .non))) H) ta tb) σ H (.bl (decide (x = .non))) :=
  ev_op ha hb fun H1 _ Q q => ⟨rfl, q H1 (Ex.refl H1)⟩
theorem ev_notN (ha : Ev ta σ H x) (hb : Ev tb σ H .non) : Ev (tOp (fun x y H Q => y = .non ∧ Q (.bl (!decide (x = .non))) H) ta tb) σ H (.bl (!decide (x = .non))) :=
  ev_op ha hb fun H1 _ Q q => ⟨rfl, q H1 (Ex.refl H1)⟩
/-- a slice of a text -/
theorem ev_slT {tl th : TO} {lo hi : Option Int} (ha : Ev ta σ H (T a)) (h1 : EvO tl σ H lo) (h2 : EvO th σ H hi) (hl : a.length ≤ 16777216) : Ev (tSl rSlS ta tl th) σ H (.str (cutS (S a) lo hi)) := fun H1 e _ q =>
  ha H1 e _ fun H2 e2 => h1 H2 (e.trans e2) _ fun H3 e3 => h2 H3 ((e.trans e2).trans e3) _ fun H4 e4 =>
    ⟨S a, rfl, by rw [S_len, big]; exact hl, q H4 ((e2.trans e3).trans e4)⟩
theorem ev_slS {tl th : TO} {ts : TE} {lo hi : Option Int} {k : Int} (ha : Ev ta σ H (T a)) (h1 : EvO tl σ H lo) (h2 : EvO th σ H hi) (h3 : Ev ts σ H (.int k)) (hk : k ≠ 0) (hl : (stepS (S a) lo hi k).length ≤ 16777216) :
    Ev (tSlS ta tl th ts) σ H (.str (stepS (S a) lo hi k)) := fun H1 e _ q =>
  ha H1 e _ fun H2 e2 => h1 H2 (e.trans e2) _ fun H3 e3 => h2 H3 ((e.trans e2).trans e3) _ fun H4 e4 => h3 H4 (((e.trans e2).trans e3).trans e4) _ fun H5 e5 =>
    ⟨S a, k, rfl, rfl, hk, by rw [big]; exact hl, q H5 (((e2.trans e3).trans e4).trans e5)⟩

/-! ## loops -/
variable {D : Ends} {tu tz : TS} {g : TG}
theorem s_forStr {jx : Nat} (h : Ev te σ H (T l)) (Pv : Nat → L2.St → Hp → Prop) (h0 : ∀ H1, Ex H H1 → Pv 0 σ H1)
    (hs : ∀ (i : Nat) σ' H' (hi : i < l.length), Pv i σ' H' → tu { D with nx := Pv (i + 1), ct := Pv (i + 1), bk := D.nx } (σ'.set jx (some (T [l[i]]))) H')
    (hd : ∀ σ' H', Pv l.length σ' H' → D.nx σ' H') : (tFor (iStr te) (gName jx) tu) D σ H :=
  h H (Ex.refl H) _ fun H1 e => ⟨S l, rfl, for_it (walk_str (z := S l)) Pv (h0 H1 e) (fun _ _ _ _ _ => trivial) (fun i x σ' H2 H3 hi p y => by
    obtain ⟨rfl, c, hc, rfl⟩ := y
    have hi' : i < l.length := by simpa [S] using hi
    have e1 : c = l[i] := by
      have q : l[i]? = some c := by simpa [S] using hc
      rw [List.getElem?_eq_getElem hi'] at q
      exact (Option.some.inj q).symm
    subst e1
    exact hs i σ' _ hi' p) (fun σ' H2 p => hd σ' H2 (by simpa [S] using p))⟩
theorem q_forStr {jx : Nat} (h : Ev te σ H (T l)) (Pv : Nat → L2.St → Hp → Prop) (h0 : ∀ H1, Ex H H1 → Pv 0 σ H1)
    (hs : ∀ (i : Nat) σ' H' (hi : i < l.length), Pv i σ' H' → tu { D with nx := Pv (i + 1), ct := Pv (i + 1), bk := tz D } (σ'.set jx (some (T [l[i]]))) H')
    (hd : ∀ σ' H', Pv l.length σ' H' → tz D σ' H') : tSeq (tFor (iStr te) (gName jx) tu) tz D σ H :=
  s_forStr (D := { D with nx := tz D }) h Pv h0 hs hd
theorem walk_enumS {x : Str} : Walk (ItES x) x.cps.size (fun _ => True)
    (fun i H v H' => ∃ T c, v = .ref T ∧ H T = none ∧ H' = upd H T (.tup [.int (i : Nat), .str ⟨#[c]⟩]) ∧ x.cps[i]? = some c) where
  goes := fun i H h _ => h
  stops := fun H _ => Nat.le_refl _
  yields := fun i H v H' _ _ y => y
theorem s_forEnumS {jx jy : Nat} {ta : TA} (h : EvA ta σ H [T l]) (Pv : Nat → L2.St → Hp → Prop) (h0 : ∀ H1, Ex H H1 → Pv 0 σ H1)
    (hs : ∀ (i : Nat) σ' H' H2 (hi : i < l.length), Pv i σ' H' → Ex H' H2 → tu { D with nx := Pv (i + 1), ct := Pv (i + 1), bk := D.nx } ((σ'.set jx (some (.int (i : Int)))).set jy (some (T [l[i]]))) H2)
    (hd : ∀ σ' H', Pv l.length σ' H' → D.nx σ' H') : (tFor (iEnumS ta) (gTup K 2 (gCons (gName jx) (gCons (gName jy) gNil))) tu) D σ H :=
  h H (Ex.refl H) _ fun H1 e => ⟨S l, rfl, for_it (walk_enumS (x := S l)) Pv (h0 H1 e) (fun _ _ _ _ _ => trivial) (fun i x σ' H2 H3 hi p y => by
    obtain ⟨A, c, rfl, hn, rfl, hc⟩ := y
    have hi' : i < l.length := by simpa [S] using hi
    have e1 : c = l[i] := by
      have q : l[i]? = some c := by simpa [S] using hc
      rw [List.getElem?_eq_getElem hi'] at q
      exact (Option.some.inj q).symm
    subst e1
    exact ⟨A, _, rfl, SqT.of upd_same, rfl, _, _, rfl, _, _, rfl, rfl, hs i σ' H2 _ hi' p (Ex.new hn)⟩) (fun σ' H2 p => hd σ' H2 (by simpa [S] using p))⟩
theorem q_forEnumS {jx jy : Nat} {ta : TA} (h : EvA ta σ H [T l]) (Pv : Nat → L2.St → Hp → Prop) (h0 : ∀ H1, Ex H H1 → Pv 0 σ H1)
    (hs : ∀ (i : Nat) σ' H' H2 (hi : i < l.length), Pv i σ' H' → Ex H' H2 → tu { D with nx := Pv (i + 1), ct := Pv (i + 1), bk := tz D } ((σ'.set jx (some (.int (i : Int)))).set jy (some (T [l[i]]))) H2)
    (hd : ∀ σ' H', Pv l.length σ' H' → tz D σ' H') : tSeq (tFor (iEnumS ta) (gTup K 2 (gCons (gName jx) (gCons (gName jy) gNil))) tu) tz D σ H :=
  s_forEnumS (D := { D with nx := tz D }) h Pv h0 hs hd
/-- how many turns range(lo, hi, c) has, c positive -/
def rgN (i j c : Int) : Nat := if i < j then ((j - i - 1) / c + 1).toNat else 0
theorem rgC_pos {i j c : Int} (hi : 0 ≤ i) (hi' : i ≤ 16777216) (hj : 0 ≤ j) (hj' : j ≤ 16777216) (hc : 0 < c) (hc' : c ≤ 16777216) : RgC i j c (rgN i j c) := by
  have hq0 : i < j → 0 ≤ (j - i - 1) / c := fun h => Int.ediv_nonneg (by omega) (by omega)
  have hq1 : i < j → (j - i - 1) / c ≤ 16777216 := fun h => Int.le_trans (Int.ediv_le_self _ (by omega)) (by omega)
  refine ⟨by omega, by omega, ?_, ?_⟩
  · have e : Builtin.Range.rangeSize i j c = ((rgN i j c : Nat) : Int) := by
      unfold Builtin.Range.rangeSize rgN
      by_cases h : i < j
      · have := hq0 h
        rw [if_pos hc, if_pos h, if_pos h]
        omega
      · rw [if_pos hc, if_neg h, if_neg h]
        rfl
    have hn : (rgN i j c : Int) ≤ 16777217 := by
      unfold rgN
      by_cases h : i < j
      · have := hq0 h
        have := hq1 h
        rw [if_pos h]
        omega
      · rw [if_neg h]
        omega
    unfold Builtin.Range.small
    rw [e, if_pos hc]
    simp only [Builtin.Range.rangeFitsLong, Bool.and_eq_true, Bool.or_eq_true, decide_eq_true_eq, beq_iff_eq]
    omega
  · unfold Builtin.Range.rangeSize rgN
    by_cases h : i < j
    · have := hq0 h
      rw [if_pos hc, if_pos h, if_pos h]
      omega
    · rw [if_pos hc, if_neg h, if_neg h]
      rfl

theorem s_forR3 {jx : Nat} {ta : TA} {lo hi c : Int} (h : EvA ta σ H [.int lo, .int hi, .int c]) (b0 : 0 ≤ lo) (b1 : lo ≤ 16777216) (b2 : 0 ≤ hi) (b3 : hi ≤ 16777216) (b4 : 0 < c) (b5 : c ≤ 16777216)
    (Pv : Nat → L2.St → Hp → Prop) (h0 : ∀ H1, Ex H H1 → Pv 0 σ H1)
    (hs : ∀ (i : Nat) σ' H', i < rgN lo hi c → Pv i σ' H' → tu { D with nx := Pv (i + 1), ct := Pv (i + 1), bk := D.nx } (σ'.set jx (some (.int (lo + (i : Int) * c)))) H')
    (hd : ∀ σ' H', Pv (rgN lo hi c) σ' H' → D.nx σ' H') : tFor (iRng3 ta) (gName jx) tu D σ H :=
  h H (Ex.refl H) _ fun H1 e => ⟨lo, hi, c, rgN lo hi c, rfl, rgC_pos b0 b1 b2 b3 b4 b5, for_it walk_rangeC Pv (h0 H1 e) (fun _ _ _ _ _ => trivial) (fun i x σ' H2 H3 hi p y => by
    obtain ⟨rfl, rfl⟩ := y
    exact hs i σ' _ hi p) hd⟩
theorem q_forR3 {jx : Nat} {ta : TA} {lo hi c : Int} (h : EvA ta σ H [.int lo, .int hi, .int c]) (b0 : 0 ≤ lo) (b1 : lo ≤ 16777216) (b2 : 0 ≤ hi) (b3 : hi ≤ 16777216) (b4 : 0 < c) (b5 : c ≤ 16777216)
    (Pv : Nat → L2.St → Hp → Prop) (h0 : ∀ H1, Ex H H1 → Pv 0 σ H1)
    (hs : ∀ (i : Nat) σ' H', i < rgN lo hi c → Pv i σ' H' → tu { D with nx := Pv (i + 1), ct := Pv (i + 1), bk := tz D } (σ'.set jx (some (.int (lo + (i : Int) * c)))) H')
    (hd : ∀ σ' H', Pv (rgN lo hi c) σ' H' → tz D σ' H') : tSeq (tFor (iRng3 ta) (gName jx) tu) tz D σ H :=
  s_forR3 (D := { D with nx := tz D }) h b0 b1 b2 b3 b4 b5 Pv h0 hs hd

/-! ## comprehensions -/
theorem given_map {α : Type} (xs : List α) (d : α) (p : α → Bool) (f : α → V) : given xs.length (fun i => p (xs.getD i d)) (fun i => f (xs.getD i d)) = (xs.filter p).map f := by
  unfold given
  have e : xs = (List.range xs.length).map (fun i => xs.getD i d) := by
    apply List.ext_getElem
    · simp
    · intro i h1 h2
      simp [List.getD, h1]
  have q : (xs.filter p).map f = (((List.range xs.length).map (fun i => xs.getD i d)).filter p).map f := by rw [← e]
  rw [q, List.filter_map, List.map_map]
  rfl
variable {vs : List Nat} {tt : TT}
theorem el_lcStr {jx : Nat} (p : Nat → Bool) (f : Nat → V) (h : Ev te σ H (T l)) (hz : l.length ≤ 40000) (hw : ∀ x, wipe ((wipe σ vs).set jx (some x)) vs = wipe σ vs)
    (ht : ∀ c H1, Ex H H1 → c ∈ l → EvT tt ((wipe σ vs).set jx (some (T [c]))) H1 (p c)) (he : ∀ c H1, Ex H H1 → c ∈ l → p c = true → Ev tx ((wipe σ vs).set jx (some (T [c]))) H1 (f c)) :
    EvL (tLc (iStr te) (gName jx) tt tx vs) σ H ((l.filter p).map f) := by
  rw [← given_map l 0 p f]
  exact fun H0 e Q q => h H0 e _ fun H1 ee => ⟨S l, rfl, fun Dl hD => lc_it (walk_str (z := S l)) (Cw H1 (fun i => p (l.getD i 0)) (fun i => f (l.getD i 0)) Dl) ⟨hD, Ex.new hD, upd_same⟩ (fun _ _ _ _ => trivial)
    (fun i x H2 H3 hi pv y => by
      obtain ⟨rfl, c, hc, rfl⟩ := y
      have hi' : i < l.length := by simpa [S] using hi
      have e1 : l.getD i 0 = c := by
        have q : l[i]? = some c := by simpa [S] using hc
        simp [List.getD, q]
      have hm : c ∈ l := by
        have q : l[i]? = some c := by simpa [S] using hc
        exact List.mem_of_getElem? q
      refine ⟨hw _, cw_turn pv (by omega) ?_ ?_⟩
      · show EvT tt _ H1 (p (l.getD i 0))
        rw [e1]
        exact ht c H1 (e.trans ee) hm
      · intro hp
        show Ev tx _ H1 (f (l.getD i 0))
        rw [e1] at hp ⊢
        exact he c H1 (e.trans ee) hm hp) (fun H2 pv => q Dl H2 (fresh_back ee pv.1) (ee.trans pv.2.1) (by have := pv.2.2; simpa [S] using this))⟩
theorem el_lcEnumS {jx jy : Nat} {ta : TA} (p : Nat → Nat → Bool) (f : Nat → Nat → V) (h : EvA ta σ H [T l]) (hz : l.length ≤ 40000)
    (hw : ∀ x y, wipe (((wipe σ vs).set jx (some x)).set jy (some y)) vs = wipe σ vs)
    (ht : ∀ (i : Nat) c H1, Ex H H1 → l[i]? = some c → EvT tt (((wipe σ vs).set jx (some (.int (i : Int)))).set jy (some (T [c]))) H1 (p i c))
    (he : ∀ (i : Nat) c H1, Ex H H1 → l[i]? = some c → p i c = true → Ev tx (((wipe σ vs).set jx (some (.int (i : Int)))).set jy (some (T [c]))) H1 (f i c)) :
    EvL (tLc (iEnumS ta) (gTup K 2 (gCons (gName jx) (gCons (gName jy) gNil))) tt tx vs) σ H (given l.length (fun i => p i (l.getD i 0)) (fun i => f i (l.getD i 0))) := by
  exact fun H0 e Q q => h H0 e _ fun H1 ee => ⟨S l, rfl, fun Dl hD => lc_it (walk_enumS (x := S l)) (Cw H1 (fun i => p i (l.getD i 0)) (fun i => f i (l.getD i 0)) Dl) ⟨hD, Ex.new hD, upd_same⟩ (fun _ _ _ _ => trivial)
    (fun i x H2 H3 hi pv y => by
      obtain ⟨A, c, rfl, hn, rfl, hc⟩ := y
      have hi' : i < l.length := by simpa [S] using hi
      have hc' : l[i]? = some c := by simpa [S] using hc
      have e1 : l.getD i 0 = c := by simp [List.getD, hc']
      have hAD : Dl ≠ A := ne_of_none pv.2.2 hn
      have pv' : Cw H1 (fun i => p i (l.getD i 0)) (fun i => f i (l.getD i 0)) Dl i (upd H2 A (.tup [.int (i : Nat), .str ⟨#[c]⟩])) := ⟨pv.1, pv.2.1.trans (Ex.new hn), by rw [upd_ne hAD]; exact pv.2.2⟩
      refine ⟨A, _, rfl, SqT.of upd_same, rfl, _, _, rfl, _, _, rfl, rfl, hw _ _, cw_turn pv' (by omega) ?_ ?_⟩
      · show EvT tt _ H1 (p i (l.getD i 0))
        rw [e1]
        exact ht i c H1 (e.trans ee) hc'
      · intro hp
        show Ev tx _ H1 (f i (l.getD i 0))
        rw [e1] at hp ⊢
        exact he i c H1 (e.trans ee) hc' hp) (fun H2 pv => q Dl H2 (fresh_back ee pv.1) (ee.trans pv.2.1) (by have := pv.2.2; simpa [S] using this))⟩
/-- over a list of known items -/
theorem el_lcV {a : Addr} {xs : List V} {jx : Nat} (p : V → Bool) (f : V → V) (h : Ev te σ H (.ref a)) (hx : SqL K H a xs) (hz : xs.length ≤ 40000) (hw : ∀ x, wipe ((wipe σ vs).set jx (some x)) vs = wipe σ vs)
    (ht : ∀ x H1, Ex H H1 → x ∈ xs → EvT tt ((wipe σ vs).set jx (some x)) H1 (p x)) (he : ∀ x H1, Ex H H1 → x ∈ xs → p x = true → Ev tx ((wipe σ vs).set jx (some x)) H1 (f x)) :
    EvL (tLc (iList K te) (gName jx) tt tx vs) σ H ((xs.filter p).map f) := by
  rw [← given_map xs .non p f]
  refine el_lcL _ _ h hx hz hw (fun i x H1 e hi => ?_) (fun i x H1 e hi hp => ?_)
  · have e1 : xs.getD i .non = x := by simp [List.getD, hi]
    rw [e1]
    exact ht x H1 e (List.mem_of_getElem? hi)
  · have e1 : xs.getD i .non = x := by simp [List.getD, hi]
    rw [e1] at hp ⊢
    exact he x H1 e (List.mem_of_getElem? hi) hp
/-- over a new list -/
theorem el_lcVN {xs : List V} {jx : Nat} (p : V → Bool) (f : V → V) (h : EvL te σ H xs) (hz : xs.length ≤ 40000) (hw : ∀ x, wipe ((wipe σ vs).set jx (some x)) vs = wipe σ vs)
    (ht : ∀ x H1, Ex H H1 → x ∈ xs → EvT tt ((wipe σ vs).set jx (some x)) H1 (p x)) (he : ∀ x H1, Ex H H1 → x ∈ xs → p x = true → Ev tx ((wipe σ vs).set jx (some x)) H1 (f x)) :
    EvL (tLc (iList K te) (gName jx) tt tx vs) σ H ((xs.filter p).map f) := by
  rw [← given_map xs .non p f]
  refine el_lcNL _ _ h hz hw (fun i x H1 e hi => ?_) (fun i x H1 e hi hp => ?_)
  · have e1 : xs.getD i .non = x := by simp [List.getD, hi]
    rw [e1]
    exact ht x H1 e (List.mem_of_getElem? hi)
  · have e1 : xs.getD i .non = x := by simp [List.getD, hi]
    rw [e1] at hp ⊢
    exact he x H1 e (List.mem_of_getElem? hi) hp
/-- over range(lo, hi) -/
theorem el_lcR2 {ta : TA} {jx : Nat} {lo hi : Int} (p : Nat → Bool) (f : Nat → V) (h : EvA ta σ H [.int lo, .int hi]) (b0 : 0 ≤ lo) (b1 : lo ≤ 16777216) (b2 : 0 ≤ hi) (b3 : hi ≤ 16777216) (hn : hi - lo ≤ 40000) (hw : ∀ x, wipe ((wipe σ vs).set jx (some x)) vs = wipe σ vs)
    (ht : ∀ (i : Nat) H1, Ex H H1 → lo + (i : Int) < hi → EvT tt ((wipe σ vs).set jx (some (.int (lo + (i : Int))))) H1 (p i))
    (he : ∀ (i : Nat) H1, Ex H H1 → lo + (i : Int) < hi → p i = true → Ev tx ((wipe σ vs).set jx (some (.int (lo + (i : Int))))) H1 (f i)) :
    EvL (tLc (iRng2 ta) (gName jx) tt tx vs) σ H (given (hi - lo).toNat p f) := fun H0 e Q q => h H0 e _ fun H1 e1 => ⟨lo, hi, rfl, ⟨by omega, by omega, by omega, by omega⟩, fun Dl hD =>
  lc_range (lo := lo) (n := (hi - lo).toNat) (Cw H1 p f Dl) ⟨hD, Ex.new hD, upd_same⟩ (fun i H' hi' pv =>
    ⟨hw _, cw_turn pv (by omega) (ht i H1 (e.trans e1) (by omega)) (fun hf => he i H1 (e.trans e1) (by omega) hf)⟩) (fun H' pv => q Dl H' (fresh_back e1 pv.1) (e1.trans pv.2.1) pv.2.2)⟩
theorem et_yes : EvT tYes σ H true := fun H1 _ _ q => q H1 (Ex.refl H1)
end
end RD

/-! Built-ins by name; kinds; lists compared, joined, put together; sorted(set(..)). -/
namespace RE
open PySem PySem.Spec PyProof.Rows L2 Evl TL RC RA RD

theorem bt_len : bootBuiltins "len" = some (.builtin "len") := by decide +kernel
theorem bt_isinstance : bootBuiltins "isinstance" = some (.builtin "isinstance") := by decide +kernel
theorem bt_min : bootBuiltins "min" = some (.builtin "min") := by decide +kernel
theorem bt_max : bootBuiltins "max" = some (.builtin "max") := by decide +kernel
theorem bt_sum : bootBuiltins "sum" = some (.builtin "sum") := by decide +kernel
theorem bt_all : bootBuiltins "all" = some (.builtin "all") := by decide +kernel
theorem bt_any : bootBuiltins "any" = some (.builtin "any") := by decide +kernel
theorem bt_abs : bootBuiltins "abs" = some (.builtin "abs") := by decide +kernel
theorem bt_repr : bootBuiltins "repr" = some (.builtin "repr") := by decide +kernel
theorem bt_sorted : bootBuiltins "sorted" = some (.builtin "sorted") := by decide +kernel
theorem bt_divmod : bootBuiltins "divmod" = some (.builtin "divmod") := by decide +kernel
theorem bt_set : bootBuiltins "set" = some (.type "set") := by decide +kernel
theorem bt_list : bootBuiltins "list" = some (.type "list") := by decide +kernel
theorem bt_tuple : bootBuiltins "tuple" = some (.type "tuple") := by decide +kernel
theorem bt_dict : bootBuiltins "dict" = some (.type "dict") := by decide +kernel
theorem bt_str : bootBuiltins "str" = some (.type "str") := by decide +kernel
theorem bt_int : bootBuiltins "int" = some (.type "int") := by decide +kernel
theorem bt_bool : bootBuiltins "bool" = some (.type "bool") := by decide +kernel
theorem bt_range : bootBuiltins "range" = some (.type "range") := by decide +kernel

section
variable {X : Cx}
theorem ip_addT : PIp X .Add rAddT := fun pins s σ H x y v u Q I rx ry h => by
  obtain ⟨a, b, ha, hb, hl, q⟩ := h
  exact iop_add_str pins s σ H x y v u Q I rx ry ⟨S a, S b, ha, hb, by rw [S_len, S_len, big]; exact hl, by rw [S_append]; exact q⟩
end

section
variable {K : PySem.W.Frag} {σ : L2.St} {H H' : Hp} {ta tb te tx : TE} {t u : TT} {x y z v : V} {r : R2} {a b l : List Nat} {i j : Int} {D : Ends} {tu tz : TS}
theorem s_augT {k : Nat} (hx : σ[k]? = some (some (T a))) (h : Ev te σ H (T b)) (hl : a.length + b.length ≤ 16777216) (kk : ∀ H1, Ex H H1 → D.nx (σ.set k (some (T (a ++ b)))) H1) : tAug k te rAddT D σ H :=
  ⟨T a, hx, h H (Ex.refl H) _ fun H1 e => ⟨a, b, rfl, rfl, hl, kk H1 e⟩⟩
theorem q_augT {k : Nat} (hx : σ[k]? = some (some (T a))) (h : Ev te σ H (T b)) (hl : a.length + b.length ≤ 16777216) (kk : ∀ H1, Ex H H1 → tz D (σ.set k (some (T (a ++ b)))) H1) : tSeq (tAug k te rAddT) tz D σ H :=
  s_augT (D := { D with nx := tz D }) hx h hl kk

/-! ### isinstance(x, C), C built in -/
theorem ev_isi {t : Value} {n : String} {c : Bool} (ha : Ev te σ H x) (ht : ∀ H1, Ex H H1 → TyX K H1 x t) (hk : PySem.W.kitOne K t (.type n) = some c) :
    Ev (tCB (rIsi K) (tCons te (tCons (tC (.ty n)) tNil))) σ H (.bl c) :=
  ev_cb (ea_cons ha (ea_cons ev_c ea_nil)) fun H1 e Q q => ⟨x, .ty n, t, .type n, c, rfl, .ty n, ht H1 e, hk, q H1 (Ex.refl H1)⟩
theorem ev_isiT (ha : Ev te σ H (T l)) : Ev (tCB (rIsi K) (tCons te (tCons (tC (.ty "str")) tNil))) σ H (.bl true) := ev_isi ha (fun _ _ => .base (.str _)) (L2.kit_ty (by decide +kernel))
theorem ev_isiI (ha : Ev te σ H (.int i)) : Ev (tCB (rIsi K) (tCons te (tCons (tC (.ty "int")) tNil))) σ H (.bl true) := ev_isi ha (fun _ _ => .base (.int _)) (L2.kit_ty (by decide +kernel))
theorem ev_isiIb (ha : Ev te σ H (.int i)) : Ev (tCB (rIsi K) (tCons te (tCons (tC (.ty "bool")) tNil))) σ H (.bl false) := ev_isi ha (fun _ _ => .base (.int _)) (L2.kit_ty (by decide +kernel))
theorem ev_isiL {p : Addr} {xs : List V} (ha : Ev te σ H (.ref p)) (hp : H p = some (.lst xs)) : Ev (tCB (rIsi K) (tCons te (tCons (tC (.ty "list")) tNil))) σ H (.bl true) :=
  ev_isi ha (fun H1 e => .base (.lst (e p _ hp))) (L2.kit_ty (by decide +kernel))

/-! ### lists of data compared -/
theorem dpAll_strs {H : Hp} : ∀ xs : List Str, DpAll K H (xs.map V.str) (xs.map PyData.str)
  | [] => .nil
  | x :: r => .cons (.str x) (dpAll_strs r)
theorem canLay_strs : ∀ xs : List Str, (∀ x ∈ xs, PyData.strOk x = true) → PyData.canLayAll0 (xs.map PyData.str) = true
  | [], _ => rfl
  | x :: r, h => by
    have h1 := canLay_strs r fun y hy => h y (List.mem_cons_of_mem _ hy)
    have h2 := h x List.mem_cons_self
    simp [PyData.canLayAll0, PyData.canLay0, h1, h2]
theorem depth_strs : ∀ xs : List Str, PyData.depthAll (xs.map PyData.str) ≤ 1
  | [] => by simp [PyData.depthAll]
  | x :: r => by
    have := depth_strs r
    simp [PyData.depthAll, PyData.depth]
    omega
theorem shaped_strs {xs : List Str} (h : ∀ x ∈ xs, PyData.strOk x = true) : SeqAt.shaped (.list (xs.map PyData.str)) = true := by
  unfold SeqAt.shaped
  rw [Bool.and_eq_true]
  refine ⟨by simp [PyData.canLay0, canLay_strs xs h], decide_eq_true ?_⟩
  have := depth_strs xs
  simp [PyData.depth]
  omega
theorem eqv_strs : ∀ xs ys : List Str, PyData.eqvAll (xs.map PyData.str) (ys.map PyData.str) = decide (xs = ys)
  | [], [] => by simp [PyData.eqvAll]
  | [], _ :: _ => by simp [PyData.eqvAll]
  | _ :: _, [] => by simp [PyData.eqvAll]
  | x :: r, y :: t => by
    simp only [List.map_cons, PyData.eqvAll, PyData.eqv, eqv_strs r t, List.cons.injEq]
    by_cases e : x = y <;> simp [e]
theorem strOk_S {l : List Nat} (h : ∀ c ∈ l, c < 1114112) : PyData.strOk (S l) = true := by
  unfold PyData.strOk S
  rw [List.all_toArray, List.all_eq_true]
  exact fun c hc => decide_eq_true (h c hc)
/-- two lists of texts -/
theorem rv_eqD {p q : Addr} {xs ys : List Str} (hp : SqL K H p (xs.map V.str)) (hq : SqL K H q (ys.map V.str)) (h1 : ∀ x ∈ xs, PyData.strOk x = true) (h2 : ∀ x ∈ ys, PyData.strOk x = true) :
    RV (rEqD K) (.ref p) (.ref q) H (.bl (decide (xs = ys))) := fun H1 e Q k =>
  ⟨_, _, .lst (ex_l e hp) (dpAll_strs xs), .lst (ex_l e hq) (dpAll_strs ys), shaped_strs h1, shaped_strs h2, by
    have e2 : PyData.eqv (.list (xs.map PyData.str)) (.list (ys.map PyData.str)) = decide (xs = ys) := by
      rw [PyData.eqv]
      exact eqv_strs xs ys
    rw [e2]
    exact k H1 (Ex.refl H1)⟩
theorem rv_neD {p q : Addr} {xs ys : List Str} (hp : SqL K H p (xs.map V.str)) (hq : SqL K H q (ys.map V.str)) (h1 : ∀ x ∈ xs, PyData.strOk x = true) (h2 : ∀ x ∈ ys, PyData.strOk x = true) :
    RV (rNeD K) (.ref p) (.ref q) H (.bl (!decide (xs = ys))) := fun H1 e Q k =>
  ⟨_, _, .lst (ex_l e hp) (dpAll_strs xs), .lst (ex_l e hq) (dpAll_strs ys), shaped_strs h1, shaped_strs h2, by
    have e2 : PyData.eqv (.list (xs.map PyData.str)) (.list (ys.map PyData.str)) = decide (xs = ys) := by
      rw [PyData.eqv]
      exact eqv_strs xs ys
    rw [e2]
    exact k H1 (Ex.refl H1)⟩
/-- a known list held against a new one -/
theorem ev_opKL {p : Addr} {ys : List V} (ha : Ev ta σ H (.ref p)) (hb : EvL tb σ H ys) (hr : ∀ q H1, H1 q = some (.lst ys) → Ex H H1 → RV r (.ref p) (.ref q) H1 z) : Ev (tOp r ta tb) σ H z := ev_opL ha hb hr
theorem el_nil : EvL (tLst tNil) σ H [] := el_lst ea_nil (Nat.zero_le _)

/-! ### "".join(xs) -/
def rJoin (K : PySem.W.Frag) : V → List V → Hp → VK → Prop := fun x xs H Q => ∃ a p, ∃ ys : List Str, x = .str a ∧ xs = [.ref p] ∧ (SqL K H p (ys.map V.str) ∨ SqT K H p (ys.map V.str)) ∧
    (ys.map (·.length)).sum + ys.length * a.length ≤ 16777216 ∧ Q (.str (Txt.join a ys)) H
theorem joinL_nil : ∀ ys : List (List Nat), joinL [] ys = ys.flatten
  | [] => rfl
  | [p] => by simp [joinL]
  | p :: q :: r => by
    have := joinL_nil (q :: r)
    simp only [joinL, List.nil_append, this, List.flatten_cons]
theorem join_nil (ys : List (List Nat)) : Txt.join (S []) (ys.map S) = S ys.flatten := by
  rw [join_eq]
  refine ext_tl ?_
  rw [tl_join, List.map_map]
  have e : List.map (tl ∘ S) ys = ys := by
    induction ys with
    | nil => rfl
    | cons p r ih => rw [List.map_cons, ih]; rfl
  rw [e]
  exact joinL_nil ys
theorem sum_lens (ys : List (List Nat)) : ((ys.map S).map (·.length)).sum = ys.flatten.length := by
  rw [List.length_flatten, List.map_map]
  congr 1
theorem ev_join {x0 : Str} {ys : List (List Nat)} (hx : x0 = S []) (h : EvL te σ H (ys.map T)) (hl : ys.flatten.length ≤ 16777216) : Ev (tM1 (rJoin K) (tC (.str x0)) te) σ H (T ys.flatten) := by
  subst hx
  exact fun H1 e Q q => ⟨⟨_, rfl⟩, h H1 e _ fun p H2 _ e2 hp => ⟨S [], p, ys.map S, rfl, rfl, .inl (SqL.of (by rw [hp, List.map_map]; rfl)), by rw [sum_lens, S_len, List.length_nil, Nat.mul_zero]; exact hl, by rw [join_nil]; exact q H2 e2⟩⟩
theorem ev_joinL {x0 : Str} {p : Addr} {ys : List (List Nat)} (hx : x0 = S []) (h : Ev te σ H (.ref p)) (hp : SqL K H p (ys.map T)) (hl : ys.flatten.length ≤ 16777216) : Ev (tM1 (rJoin K) (tC (.str x0)) te) σ H (T ys.flatten) := by
  subst hx
  exact fun H1 e Q q => ⟨⟨_, rfl⟩, h H1 e _ fun H2 e2 => ⟨S [], p, ys.map S, rfl, rfl, .inl (by rw [List.map_map]; exact ex_l (e.trans e2) hp), by rw [sum_lens, S_len, List.length_nil, Nat.mul_zero]; exact hl, by rw [join_nil]; exact q H2 e2⟩⟩
/-! ### xs * k, xs + ys -/
theorem el_rep {xs : List V} (h : EvL ta σ H xs) (hb : ∀ H1, Ex H H1 → Ev tb σ H1 (.int i)) (h0 : 0 ≤ i) (h1 : i ≤ 16777216) (hl : xs.length * i.toNat ≤ 16777216) : EvL (tOp rRep ta tb) σ H (List.replicate i.toNat xs).flatten := fun H1 e Q q =>
  h H1 e _ fun p H2 _ e2 hp => hb H2 (e.trans e2) H2 (Ex.refl H2) _ fun H3 e3 => ⟨p, i, xs, rfl, rfl, e3 p _ hp, by omega, by omega, by rw [big]; exact hl, fun m hm => q m _ (fresh_back (e2.trans e3) hm) ((e2.trans e3).trans (Ex.new hm)) upd_same⟩
theorem el_cat {xs ys : List V} (h : EvL ta σ H xs) (hb : EvL tb σ H ys) (hl : xs.length + ys.length ≤ 16777216) : EvL (tOp rCat ta tb) σ H (xs ++ ys) := fun H1 e Q q =>
  h H1 e _ fun p H2 _ e2 hp => hb H2 (e.trans e2) _ fun m H3 _ e3 hm => ⟨p, m, xs, ys, rfl, rfl, e3 p _ hp, hm, by rw [big]; exact hl, fun n hn => q n _ (fresh_back (e2.trans e3) hn) ((e2.trans e3).trans (Ex.new hn)) upd_same⟩
/-! ### sorted(set(xs)) -/
/-- a new list of those texts, each once, sorted -/
def EvSet (te : TE) (σ : L2.St) (H : Hp) (xs : List Str) : Prop := ∀ H1, Ex H H1 → ∀ Q : VK, (∀ (ys : List Str) p H2, ys.Perm (RB.metT xs) → sortedS ys = true → H1 p = none → Ex H1 H2 → H2 p = some (.lst (ys.map V.str)) → Q (.ref p) H2) → te σ H1 Q
theorem es_sortedSet {w : World} {xs : List Str} (h : EvL te σ H (xs.map V.str)) (h1 : xs.length < 4000) (h2 : (RB.metT xs).length < 64) : EvSet (tCB (RB.rSortedO w) (tCons (tCB (RB.rSet K w) (tCons te tNil)) tNil)) σ H xs := fun H1 e Q q =>
  h H1 e _ fun p H2 _ e2 hp => ⟨p, xs, rfl, SqL.of hp, by unfold scanBound; omega, fun s hs => ⟨s, RB.metT xs, rfl, upd_same, h2, fun ys m pm so hm => by
    have ha : Ex H1 (upd H2 s (RB.SetO w s (RB.metT xs))) := e2.trans (Ex.new hs)
    exact q ys m _ pm so (fresh_back ha hm) (ha.trans (Ex.new hm)) upd_same⟩⟩
/-! ### repr of an int, as a text -/
theorem ev_reprI (ha : Ev te σ H (.int i)) (hi : i.natAbs.log2 < 1920) : Ev (tCB (fun xs H Q => ∃ i, xs = [.int i] ∧ i.natAbs.log2 < 1920 ∧ Q (.str (toString i)) H) (tCons te tNil)) σ H (.str (toString i)) :=
  ev_cb (ea_cons ha ea_nil) fun H1 _ Q q => ⟨i, rfl, hi, q H1 (Ex.refl H1)⟩

/-! ### lists of texts, by codes -/
theorem el_to {xs ys : List V} (h : EvL te σ H xs) (e : xs = ys) : EvL te σ H ys := e ▸ h
theorem map_T (ys : List (List Nat)) : ys.map T = (ys.map S).map V.str := by
  rw [List.map_map]
  rfl
theorem map_S_inj : ∀ {ys zs : List (List Nat)}, ys.map S = zs.map S → ys = zs
  | [], [], _ => rfl
  | [], _ :: _, h => by cases h
  | _ :: _, [], h => by cases h
  | y :: r, z :: t, h => by
    rw [List.map_cons, List.map_cons, List.cons.injEq] at h
    rw [S_inj.mp h.1, map_S_inj h.2]
theorem dec_mapS (ys zs : List (List Nat)) : decide (ys.map S = zs.map S) = decide (ys = zs) := by
  by_cases e : ys = zs
  · subst e
    simp
  · rw [decide_eq_false e, decide_eq_false fun q => e (map_S_inj q)]
theorem rv_neDT {p q : Addr} {ys zs : List (List Nat)} (hp : SqL K H p (ys.map T)) (hq : SqL K H q (zs.map T)) (h1 : ∀ y ∈ ys, ∀ c ∈ y, c < 1114112) (h2 : ∀ y ∈ zs, ∀ c ∈ y, c < 1114112) :
    RV (rNeD K) (.ref p) (.ref q) H (.bl (!decide (ys = zs))) := by
  rw [← dec_mapS]
  rw [map_T] at hp hq
  refine rv_neD hp hq (fun x hx => ?_) (fun x hx => ?_)
  · obtain ⟨y, hy, rfl⟩ := List.mem_map.mp hx
    exact strOk_S (h1 y hy)
  · obtain ⟨y, hy, rfl⟩ := List.mem_map.mp hx
    exact strOk_S (h2 y hy)
theorem rv_eqDT {p q : Addr} {ys zs : List (List Nat)} (hp : SqL K H p (ys.map T)) (hq : SqL K H q (zs.map T)) (h1 : ∀ y ∈ ys, ∀ c ∈ y, c < 1114112) (h2 : ∀ y ∈ zs, ∀ c ∈ y, c < 1114112) :
    RV (rEqD K) (.ref p) (.ref q) H (.bl (decide (ys = zs))) := by
  rw [← dec_mapS]
  rw [map_T] at hp hq
  refine rv_eqD hp hq (fun x hx => ?_) (fun x hx => ?_)
  · obtain ⟨y, hy, rfl⟩ := List.mem_map.mp hx
    exact strOk_S (h1 y hy)
  · obtain ⟨y, hy, rfl⟩ := List.mem_map.mp hx
    exact strOk_S (h2 y hy)
theorem ev_neLL {ys zs : List (List Nat)} (ha : EvL ta σ H (ys.map T)) (hb : EvL tb σ H (zs.map T)) (h1 : ∀ y ∈ ys, ∀ c ∈ y, c < 1114112) (h2 : ∀ y ∈ zs, ∀ c ∈ y, c < 1114112) :
    Ev (tOp (rNeD K) ta tb) σ H (.bl (!decide (ys = zs))) := ev_opLL ha hb fun p q H1 hp hq _ => rv_neDT (SqL.of hp) (SqL.of hq) h1 h2
theorem ev_neKL {p : Addr} {ys zs : List (List Nat)} (ha : Ev ta σ H (.ref p)) (hp : SqL K H p (ys.map T)) (hb : EvL tb σ H (zs.map T)) (h1 : ∀ y ∈ ys, ∀ c ∈ y, c < 1114112) (h2 : ∀ y ∈ zs, ∀ c ∈ y, c < 1114112) :
    Ev (tOp (rNeD K) ta tb) σ H (.bl (!decide (ys = zs))) := ev_opL ha hb fun q H1 hq e => rv_neDT (ex_l e hp) (SqL.of hq) h1 h2
theorem ev_eqKL {p : Addr} {ys zs : List (List Nat)} (ha : Ev ta σ H (.ref p)) (hp : SqL K H p (ys.map T)) (hb : EvL tb σ H (zs.map T)) (h1 : ∀ y ∈ ys, ∀ c ∈ y, c < 1114112) (h2 : ∀ y ∈ zs, ∀ c ∈ y, c < 1114112) :
    Ev (tOp (rEqD K) ta tb) σ H (.bl (decide (ys = zs))) := ev_opL ha hb fun q H1 hq e => rv_eqDT (ex_l e hp) (SqL.of hq) h1 h2
/-! ### slices with a step -/
def stepL (l : List Nat) (p k : Nat) : List Nat := (List.range (rgN p l.length k)).map fun j => l.getD (p + j * k) 0
theorem rgN_lt {p n k j : Nat} (hk : 0 < k) (hj : j < rgN p n k) : p + j * k < n := by
  unfold rgN at hj
  by_cases h : (p : Int) < (n : Int)
  · rw [if_pos h] at hj
    have h1 : (j : Int) ≤ ((n : Int) - p - 1) / k := by omega
    have h2 := (Int.le_ediv_iff_mul_le (by omega : (0 : Int) < (k : Int))).mp h1
    have h3 : ((j * k : Nat) : Int) = (j : Int) * (k : Int) := Int.natCast_mul j k
    omega
  · rw [if_neg h] at hj
    omega
theorem rgN_ge {p n k j : Nat} (hk : 0 < k) (h : p + j * k < n) : j < rgN p n k := by
  unfold rgN
  have hp : (p : Int) < (n : Int) := by
    have : 0 ≤ j * k := Nat.zero_le _
    omega
  rw [if_pos hp]
  have h3 : ((j * k : Nat) : Int) = (j : Int) * (k : Int) := Int.natCast_mul j k
  have h1 : (j : Int) ≤ ((n : Int) - p - 1) / k := (Int.le_ediv_iff_mul_le (by omega : (0 : Int) < (k : Int))).mpr (by omega)
  omega

theorem ev_chain {r' : R2} {tc : TE} {b1 b2 : Bool} (ha : Ev ta σ H x) (hb : Ev tb σ H y) (hr : RV r x y H (.bl b1)) (hc : b1 = true → Ev tc σ H z) (hr' : b1 = true → RV r' y z H (.bl b2)) : Ev (tChain r r' ta tb tc) σ H (.bl (b1 && b2)) := fun H1 e Q q =>
  ha H1 e _ fun H2 e2 => hb H2 (e.trans e2) _ fun H3 e3 => hr H3 ((e.trans e2).trans e3) _ fun H4 e4 => ⟨b1, rfl, by
    cases b1 with
    | true =>
      show tc σ H4 fun w' H5 => r' y w' H5 Q
      exact hc rfl H4 (((e.trans e2).trans e3).trans e4) _ fun H5 e5 => hr' rfl H5 ((((e.trans e2).trans e3).trans e4).trans e5) _ fun H6 e6 => q H6 ((((e2.trans e3).trans e4).trans e5).trans e6)
    | false =>
      show Q (.bl false) H4
      exact q H4 ((e2.trans e3).trans e4)⟩
end
end RE

/-! Seen pieces: columns, rims. -/
namespace RF
open PySem PySem.Spec PyProof.Rows L2 Evl TL RC RA RD RE

theorem stepS_eq (l : List Nat) (p k : Nat) (hk : 0 < k) : stepS (S l) (some (p : Int)) none (k : Int) = S (stepL l p k) := by
  have hidx : Builtin.Str.strSliceIndices (some (p : Int)) none (k : Int) (S l).length = (List.range (rgN p l.length k)).map (fun j => p + j * k) := by
    rw [S_len]
    unfold Builtin.Str.strSliceIndices sliceRange
    have hk' : (k : Int) > 0 := by omega
    have hp0 : ¬ ((p : Int) < 0) := by omega
    simp only [if_pos hk', if_neg hp0]
    by_cases h : (p : Int) < (l.length : Int)
    · have hmin : max 0 (min (p : Int) (l.length : Int)) = (p : Int) := by omega
      rw [hmin, if_pos h]
      have hc : (((l.length : Int) - p + k - 1) / k).toNat = rgN p l.length k := by
        unfold rgN
        rw [if_pos h]
        have e : ((l.length : Int) - p + k - 1) / k = ((l.length : Int) - p - 1) / k + 1 := by
          have e1 : (l.length : Int) - p + k - 1 = ((l.length : Int) - p - 1) + k * 1 := by omega
          rw [e1, Int.add_mul_ediv_left _ _ (by omega : (k : Int) ≠ 0)]
        rw [e]
      rw [hc]
      apply List.map_congr_left
      intro j _
      have e2 : (p : Int) + (k : Int) * (j : Int) = ((p + j * k : Nat) : Int) := by
        rw [Int.natCast_add, Int.natCast_mul, Int.mul_comm]
      rw [e2, Int.toNat_natCast]
    · have hmin : max 0 (min (p : Int) (l.length : Int)) = (l.length : Int) := by omega
      have h0 : rgN p l.length k = 0 := by
        unfold rgN
        rw [if_neg h]
      rw [hmin, h0, if_neg (by omega)]
      rfl
  have hpick : ((Builtin.Str.strSliceIndices (some (p : Int)) none (k : Int) (S l).length).filterMap ((S l).cps[·]?)) = stepL l p k := by
    rw [hidx]
    unfold stepL
    rw [List.filterMap_map]
    have : ∀ n, n ≤ rgN p l.length k → List.filterMap ((fun x => (S l).cps[x]?) ∘ fun j => p + j * k) (List.range n) = (List.range n).map fun j => l.getD (p + j * k) 0 := by
      intro n
      induction n with
      | zero => intro _; rfl
      | succ n ih =>
        intro hn
        have hlt := rgN_lt hk (show n < rgN p l.length k by omega)
        rw [List.range_succ, List.filterMap_append, List.map_append, ih (by omega)]
        congr 1
        have e : (S l).cps[p + n * k]? = some (l.getD (p + n * k) 0) := by
          show l.toArray[p + n * k]? = _
          simp [List.getD, hlt]
        simp [List.filterMap_cons, e]
    exact this _ (Nat.le_refl _)
  unfold stepS
  by_cases c : (((k : Int) == 1) && (Builtin.Str.strSliceIndices (some (p : Int)) none (k : Int) (S l).length).length == (S l).length) = true
  · rw [if_pos c]
    have hk1 : k = 1 := by
      have := ((Bool.and_eq_true _ _).mp c).1
      have : (k : Int) = 1 := by simpa using this
      omega
    have hlen : rgN p l.length k = l.length := by
      have := ((Bool.and_eq_true _ _).mp c).2
      rw [hidx, S_len] at this
      simpa using this
    subst hk1
    rw [S_inj]
    unfold stepL
    rw [hlen]
    apply List.ext_getElem
    · simp
    · intro i h1 h2
      have hp := rgN_lt (p := p) (n := l.length) (k := 1) (j := l.length - 1) (by omega) (by omega)
      have hp0 : p = 0 := by omega
      subst hp0
      simp [List.getD, h1]
  · rw [if_neg c, hpick]
    rfl

/-! ## columns -/
/-- the signs of the text from the blank-less list of marks, none, unseen -/
def SIGNS : List Nat := [97,98,99,100,101,102,103,104,105,106,107,108,109,110,111,112,113,114,115,116,117,118,119,120,121,122,46,63]
def Seen (l : List Nat) : Prop := l ≠ [] ∧ l.length ≤ 30000 ∧ ∀ c ∈ l, c ∈ SIGNS
theorem signs_lt {c : Nat} (h : c ∈ SIGNS) : c < 128 := by
  have : ∀ c ∈ SIGNS, c < 128 := by decide
  exact this c h
/-- what is seen at the places that are p behind a multiple of k -/
def col (l : List Nat) (k p : Nat) : List Nat := (stepL l p k).filter fun c => !decide (c = 63)
theorem mem_col {l : List Nat} {k p c : Nat} (hk : 0 < k) : c ∈ col l k p ↔ c ≠ 63 ∧ ∃ j, p + j * k < l.length ∧ l[p + j * k]? = some c := by
  unfold col stepL
  rw [List.mem_filter, List.mem_map]
  constructor
  · rintro ⟨⟨j, hj, rfl⟩, h2⟩
    have hlt := rgN_lt hk (List.mem_range.mp hj)
    exact ⟨by simpa using h2, j, hlt, by simp [List.getD, hlt]⟩
  · rintro ⟨h1, j, hlt, h3⟩
    exact ⟨⟨j, List.mem_range.mpr (rgN_ge hk hlt), by simp [List.getD, h3]⟩, by simpa using h1⟩
/-- the rim of length k that can have printed it: at each place the one sign that is seen there, ? for none -/
def rimAt (l : List Nat) (k p : Nat) : Nat := (col l k p).headD 63
def oneSign (l : List Nat) (k p : Nat) : Prop := ∀ a ∈ col l k p, ∀ b ∈ col l k p, a = b
instance (l : List Nat) (k p : Nat) : Decidable (oneSign l k p) := inferInstanceAs (Decidable (∀ a ∈ col l k p, ∀ b ∈ col l k p, a = b))
def fitsOne (l : List Nat) (k : Nat) : Prop := ∀ p, p < k → oneSign l k p
instance (l : List Nat) (k : Nat) : Decidable (fitsOne l k) := inferInstanceAs (Decidable (∀ p, p < k → oneSign l k p))
def rimL (l : List Nat) (k : Nat) : List Nat := (List.range k).map (rimAt l k)
/-- a text, or None -/
def optT : Option (List Nat) → V
  | none => .non
  | some l => T l
def rimOf (l : List Nat) (k : Nat) : Option (List Nat) := if fitsOne l k then some (rimL l k) else none
theorem stepL_len (l : List Nat) (p k : Nat) (hk : 0 < k) : (stepL l p k).length ≤ l.length := by
  unfold stepL
  rw [List.length_map, List.length_range]
  by_cases h : rgN p l.length k = 0
  · omega
  · have := rgN_lt hk (show rgN p l.length k - 1 < rgN p l.length k by omega)
    have h2 : (rgN p l.length k - 1) * 1 ≤ (rgN p l.length k - 1) * k := Nat.mul_le_mul_left _ hk
    omega
theorem col_len (l : List Nat) (p k : Nat) (hk : 0 < k) : (col l k p).length ≤ l.length := Nat.le_trans (List.length_filter_le _ _) (stepL_len l p k hk)
theorem stepL_mem {l : List Nat} {p k c : Nat} (hk : 0 < k) (h : c ∈ stepL l p k) : c ∈ l := by
  unfold stepL at h
  obtain ⟨j, hj, rfl⟩ := List.mem_map.mp h
  have hlt := rgN_lt hk (List.mem_range.mp hj)
  have e : l[p + j * k]? = some (l.getD (p + j * k) 0) := by simp [List.getD, hlt]
  exact List.mem_of_getElem? e
theorem col_signs {l : List Nat} {p k c : Nat} (hk : 0 < k) (hl : ∀ c ∈ l, c ∈ SIGNS) (h : c ∈ col l k p) : c ∈ SIGNS := hl c (stepL_mem hk (List.mem_filter.mp h).1)
theorem col_ne {l : List Nat} {p k c : Nat} (h : c ∈ col l k p) : c ≠ 63 := by simpa using (List.mem_filter.mp h).2
/-! ### the texts met in a column -/
theorem nodup_len_le : ∀ (xs ys : List Nat), xs.Nodup → (∀ x ∈ xs, x ∈ ys) → xs.length ≤ ys.length
  | [], _, _, _ => Nat.zero_le _
  | x :: r, ys, nd, h => by
    have hx := h x List.mem_cons_self
    have nd' := List.nodup_cons.mp nd
    have := nodup_len_le r (ys.erase x) nd'.2 fun y hy => (List.mem_erase_of_ne (fun e : y = x => nd'.1 (by rw [← e]; exact hy))).mpr (h y (List.mem_cons_of_mem _ hy))
    rw [List.length_erase_of_mem hx] at this
    have hpos := List.length_pos_of_mem hx
    rw [List.length_cons]
    omega
theorem met_lt {xs : List Nat} (h : ∀ c ∈ xs, c ∈ SIGNS) : (RB.metT (xs.map fun c => S [c])).length < 64 := by
  have hm : ∀ z ∈ RB.metT (xs.map fun c => S [c]), ∃ c ∈ SIGNS, z = S [c] := fun z hz => by
    obtain ⟨c, hc, rfl⟩ := List.mem_map.mp (RB.metT_mem.mp hz)
    exact ⟨c, h c hc, rfl⟩
  have nd := RB.metT_nodup (xs.map fun c => S [c])
  revert hm nd
  generalize RB.metT (xs.map fun c => S [c]) = ms
  intro hm nd
  have h1 : (ms.map fun z => (tl z).headD 0).Nodup := by
    refine List.Pairwise.map _ (fun a b hab => hab) ?_
    refine List.Pairwise.imp_of_mem (fun {a b} ha hb hne => ?_) nd
    obtain ⟨c, _, rfl⟩ := hm a ha
    obtain ⟨d, _, rfl⟩ := hm b hb
    intro e
    apply hne
    have e' : c = d := by simpa using e
    rw [e']
  have := nodup_len_le _ SIGNS h1 fun x hx => by
    obtain ⟨z, hz, rfl⟩ := List.mem_map.mp hx
    obtain ⟨c, hc, rfl⟩ := hm z hz
    simpa using hc
  rw [List.length_map] at this
  exact Nat.lt_of_le_of_lt this (by decide)
end RF

/-! Draws: what stays while numbers are drawn. -/
namespace RG
open PySem PySem.Spec PyProof.Rows L2 Evl TL RC RA RD RE
/-- all but the thing at b is as it was -/
def But (b : Addr) (H H' : Hp) : Prop := ∀ a o, a ≠ b → H a = some o → H' a = some o
theorem But.refl (b : Addr) (H : Hp) : But b H H := fun _ _ _ h => h
theorem But.trans {b : Addr} {H H1 H2 : Hp} (x : But b H H1) (y : But b H1 H2) : But b H H2 := fun a o n h => y a o n (x a o n h)
theorem But.ex {b : Addr} {H H1 : Hp} (e : Ex H H1) : But b H H1 := fun a o _ h => e a o h
theorem But.put {b : Addr} {H H1 : Hp} {o : HO} (x : But b H H1) : But b H (upd H1 b o) := fun a u n h => by
  rw [upd_ne n]
  exact x a u n h
theorem But.new {b p : Addr} {H : Hp} {o : HO} (h : H p = none) : But b H (upd H p o) := But.ex (Ex.new h)
theorem But.seq {K : PySem.W.Frag} {b a : Addr} {H H1 : Hp} {xs : List V} (x : But b H H1) (h : SqL K H a xs) (n : a ≠ b) : SqL K H1 a xs := by
  rcases h with (h | ⟨o, h⟩) | h
  · exact .inl (.inl (x a _ n h))
  · exact .inl (.inr ⟨o, x a _ n h⟩)
  · exact .inr h
/-- a thing that is new since H, changed: for H nothing -/
theorem But.own {b : Addr} {H0 H H' : Hp} (e : Ex H0 H) (h0 : H0 b = none) (x : But b H H') : Ex H0 H' := fun a o h => x a o (ne_of_none h h0) (e a o h)
abbrev M61 : Int := 2305843009213693951
/-- the bag at b: the script's copy (at q), where it is read on, what is left of a cell, how many draws, all cells mixed; n draws at most so far -/
def Bag (H : Hp) (b q : Addr) (n : Nat) : Prop := ∃ (ns : List Int) (i j c t : Int), H b = some (.lst [.ref q, .int i, .int j, .int c, .int t]) ∧ H q = some (.lst (ns.map V.int)) ∧
  0 ≤ i ∧ i ≤ ns.length ∧ 0 ≤ c ∧ c ≤ n
theorem Bag.mono {H : Hp} {b q : Addr} {n m : Nat} (h : Bag H b q n) (l : n ≤ m) : Bag H b q m := by
  obtain ⟨ns, i, j, c, t, h1, h2, h3, h4, h5, h6⟩ := h
  exact ⟨ns, i, j, c, t, h1, h2, h3, h4, h5, by omega⟩
theorem Bag.ex {H H1 : Hp} {b q : Addr} {n : Nat} (h : Bag H b q n) (e : Ex H H1) : Bag H1 b q n := by
  obtain ⟨ns, i, j, c, t, h1, h2, h3⟩ := h
  exact ⟨ns, i, j, c, t, e _ _ h1, e _ _ h2, h3⟩
theorem Bag.new {H : Hp} {b q p : Addr} {n : Nat} {o : HO} (h : Bag H b q n) (hp : H p = none) : Bag (upd H p o) b q n := h.ex (Ex.new hp)
theorem Bag.ne {H : Hp} {b q p : Addr} {n : Nat} (h : Bag H b q n) (hp : H p = none) : p ≠ b ∧ p ≠ q := by
  obtain ⟨ns, i, j, c, t, h1, h2, h3⟩ := h
  exact ⟨(ne_of_none h1 hp).symm, (ne_of_none h2 hp).symm⟩
theorem Bag.put {H : Hp} {b q p : Addr} {n : Nat} {o : HO} (h : Bag H b q n) (h1 : p ≠ b) (h2 : p ≠ q) : Bag (upd H p o) b q n := by
  obtain ⟨ns, i, j, c, t, e1, e2, h3⟩ := h
  exact ⟨ns, i, j, c, t, by rw [upd_ne h1.symm]; exact e1, by rw [upd_ne h2.symm]; exact e2, h3⟩
theorem But.at {b p : Addr} {H H1 : Hp} {o : HO} (x : But b H H1) (n : p ≠ b) (h : H p = some o) : H1 p = some o := x p o n h
def stirF (number place : Int) : Int :=
  let one := (number * 998244353 + place * 1000000007 + 5) % 2305843009213693951
  let two := one * one % 2305843009213693951
  (two * 2860486313 + place * place * 48271 + one / 3) % 2305843009213693921 / 1024

/-! ## lists made by draws -/
structure Res (R : Hp → Nat → Prop) (b : Addr) (own : Addr → Prop) : Prop where
  ex : ∀ {H H1 n}, R H n → Ex H H1 → R H1 n
  mono : ∀ {H n m}, R H n → n ≤ m → R H m
  ne : ∀ {H n p}, R H n → H p = none → ¬ own p
  put : ∀ {H n p o}, R H n → ¬ own p → R (upd H p o) n
  self : own b
theorem bagRes (b q : Addr) : Res (fun H n => Bag H b q n) b (fun p => p = b ∨ p = q) :=
  ⟨fun h e => h.ex e, fun h l => h.mono l, fun h hp z => z.elim (h.ne hp).1 (h.ne hp).2, fun h z => h.put (fun e => z (.inl e)) fun e => z (.inr e), .inl rfl⟩
section
variable {R : Hp → Nat → Prop} {b : Addr} {own : Addr → Prop} {K : PySem.W.Frag} {σ : L2.St} {H : Hp} {vs : List Nat} {tel te : TE} {ta : TA} {j size n dn : Nat} {Q : VK}
theorem lcB (Rs : Res R b own) (G : V → Prop) (hR : R H n) (h : EvA ta σ H [.int (size : Int)]) (hz : size ≤ 100000) (hw : ∀ x, wipe ((wipe σ vs).set j (some x)) vs = wipe σ vs)
    (hel : ∀ (i : Nat) H1, i < size → But b H H1 → R H1 (n + i * dn) → ∀ Q', (∀ v H2, G v → But b H1 H2 → R H2 (n + i * dn + dn) → Q' v H2) → tel ((wipe σ vs).set j (some (.int (i : Int)))) H1 Q')
    (hQ : ∀ xs p H2, xs.length = size → (∀ x ∈ xs, G x) → H p = none → But b H H2 → R H2 (n + size * dn) → H2 p = some (.lst xs) → Q (.ref p) H2) :
    tLc (iRng1 ta) (gName j) tYes tel vs σ H Q :=
  h H (Ex.refl H) _ fun H0 e0 => ⟨(size : Int), rfl, by omega, by omega, fun Dl hD => by
    have hDo : ¬ own Dl := Rs.ne (Rs.ex hR e0) hD
    have hDb : Dl ≠ b := fun z => hDo (by rw [z]; exact Rs.self)
    have hsz : ((size : Int)).toNat = size := by omega
    rw [hsz]
    refine lc_range (lo := 0) (n := size) (fun i H' => ∃ xs : List V, xs.length = i ∧ (∀ x ∈ xs, G x) ∧ H' Dl = some (.lst xs) ∧ But b H H' ∧ R H' (n + i * dn))
      ⟨[], rfl, fun x hx => (by cases hx), upd_same, But.ex (e0.trans (Ex.new hD)), by rw [Nat.zero_mul]; exact Rs.ex hR (e0.trans (Ex.new hD))⟩ (fun i H' hi hp => ?_) (fun H' hp => ?_)
    · obtain ⟨xs, h1, h2, h3, h4, h5⟩ := hp
      have ei : (0 : Int) + (i : Int) = (i : Int) := Int.zero_add _
      rw [ei]
      refine ⟨hw _, ?_⟩
      show (if true = true then tel ((wipe σ vs).set j (some (.int (i : Int)))) H' (fun y H4 => ∃ acc, H4 Dl = some (.lst acc) ∧ acc.length < sizeLine ∧ ∃ xs : List V, xs.length = i + 1 ∧ (∀ x ∈ xs, G x) ∧
          (upd H4 Dl (.lst (acc ++ [y]))) Dl = some (.lst xs) ∧ But b H (upd H4 Dl (.lst (acc ++ [y]))) ∧ R (upd H4 Dl (.lst (acc ++ [y]))) (n + (i + 1) * dn))
        else ∃ xs : List V, xs.length = i + 1 ∧ (∀ x ∈ xs, G x) ∧ H' Dl = some (.lst xs) ∧ But b H H' ∧ R H' (n + (i + 1) * dn))
      rw [if_pos rfl]
      refine hel i H' hi h4 h5 _ fun v H2 gv u2 r2 => ⟨xs, u2 Dl _ hDb h3, by rw [h1, big]; omega, xs ++ [v], by rw [List.length_append, h1]; rfl, fun x hx => ?_, upd_same, ?_, ?_⟩
      · rcases List.mem_append.mp hx with z | z
        · exact h2 x z
        · rw [List.mem_singleton.mp z]
          exact gv
      · intro a o na ha
        have hne : a ≠ Dl := ne_of_none (e0 a o ha) hD
        rw [upd_ne hne]
        exact (h4.trans u2) a o na ha
      · have e1 : n + (i + 1) * dn = n + i * dn + dn := by rw [Nat.succ_mul, Nat.add_assoc]
        rw [e1]
        exact Rs.put r2 hDo
    · obtain ⟨xs, h1, h2, h3, h4, h5⟩ := hp
      exact hQ xs Dl H' h1 h2 (fresh_back e0 hD) h4 h5 h3⟩
end
theorem cutS_eq (l : List Nat) (lo hi : Option Int) : cutS (S l) lo hi = S ((l.drop (HT.sIx l.length 0 lo)).take (HT.sIx l.length l.length hi - HT.sIx l.length 0 lo)) := by
  refine ext_tl ?_
  unfold cutS
  simp
end RG
namespace RG
open PySem PySem.Spec PyProof.Rows L2 Evl TL RC RA RD RE
theorem cutS_take (l : List Nat) (k : Nat) : cutS (S l) none (some (k : Int)) = S (l.take k) := by
  rw [cutS_eq, HT.sIx_none, HT.sIx_nat, S_inj, List.drop_zero, Nat.sub_zero]
  by_cases h : k ≤ l.length
  · rw [Nat.min_eq_left h]
  · rw [Nat.min_eq_right (by omega), List.take_of_length_le (Nat.le_refl _)]
    exact (List.take_of_length_le (by omega)).symm
/-- marks, and none -/
def MARKS : List Nat := [97,98,99,100,101,102,103,104,105,106,107,108,109,110,111,112,113,114,115,116,117,118,119,120,121,122,46]
def RimOk (most : Nat) (z : List Nat) : Prop := 1 ≤ z.length ∧ z.length ≤ most ∧ ∀ c ∈ z, c ∈ MARKS
theorem repT_one (c k : Nat) : repT [c] k = List.replicate k c := by
  unfold repT
  induction k with
  | zero => rfl
  | succ k ih => rw [List.replicate_succ, List.flatten_cons, ih, List.replicate_succ]; rfl
theorem repT_len (l : List Nat) (k : Nat) : (repT l k).length = k * l.length := by
  unfold repT
  simp
theorem repT_mem {l : List Nat} {k c : Nat} (h : c ∈ repT l k) : c ∈ l := by
  unfold repT at h
  obtain ⟨m, hm, hc⟩ := List.mem_flatten.mp h
  rw [List.eq_of_mem_replicate hm] at hc
  exact hc
theorem cs {x : Str} (l : List Nat) (h : x = S l) : V.str x = T l := by rw [h]
theorem getD_mem {l : List Nat} {i : Nat} (h : i < l.length) : l.getD i 0 ∈ l := by
  have e : l.getD i 0 = l[i] := by simp [List.getD, h]
  rw [e]
  exact List.getElem_mem h
theorem texts_of {xs : List V} {P : List Nat → Prop} (h : ∀ x ∈ xs, ∃ l, x = T l ∧ P l) : ∃ ys : List (List Nat), xs = ys.map T ∧ ∀ y ∈ ys, P y := by
  induction xs with
  | nil => exact ⟨[], rfl, fun y hy => by cases hy⟩
  | cons x r ih =>
    obtain ⟨l, rfl, hl⟩ := h x List.mem_cons_self
    obtain ⟨ys, rfl, hys⟩ := ih fun y hy => h y (List.mem_cons_of_mem _ hy)
    exact ⟨l :: ys, rfl, fun y hy => (List.mem_cons.mp hy).elim (fun e => by rw [e]; exact hl) (hys y)⟩
theorem flat_one {ys : List (List Nat)} (h : ∀ y ∈ ys, y.length = 1) : ys.flatten.length = ys.length := by
  induction ys with
  | nil => rfl
  | cons y r ih => rw [List.flatten_cons, List.length_append, h y List.mem_cons_self, ih fun z hz => h z (List.mem_cons_of_mem _ hz), List.length_cons]; omega
end RG

/-! A wheel fits a seen piece: by its columns, by pairs of places. -/
namespace RH
open PySem PySem.Spec PyProof.Rows L2 Evl TL RC RA RD RE RF RG
def pairOk (l : List Nat) (k i : Nat) : Prop := l.getD i 0 ≠ 63 → ∀ m, i + (m + 1) * k < l.length → l.getD (i + (m + 1) * k) 0 ≠ 63 → l.getD (i + (m + 1) * k) 0 = l.getD i 0
theorem get_getD {l : List Nat} {i : Nat} (h : i < l.length) : l[i]? = some (l.getD i 0) := by simp [List.getD, h]
theorem fits_iff {l : List Nat} {k : Nat} (hk : 0 < k) : fitsOne l k ↔ ∀ i, i < l.length → pairOk l k i := by
  constructor
  · intro h i hi h1 m hm h2
    have hp : i % k < k := Nat.mod_lt _ hk
    have hd : i % k + (i / k) * k = i := by
      rw [Nat.mul_comm]
      exact Nat.mod_add_div i k
    have e2 : i % k + (i / k + (m + 1)) * k = i + (m + 1) * k := by
      rw [Nat.add_mul]
      omega
    refine h (i % k) hp _ ((mem_col hk).mpr ⟨h2, i / k + (m + 1), by rw [e2]; exact hm, by rw [e2]; exact get_getD hm⟩) _ ((mem_col hk).mpr ⟨h1, i / k, by rw [hd]; exact hi, by rw [hd]; exact get_getD hi⟩)
  · intro h p hp a ha b hb
    obtain ⟨a1, i, hi, ai⟩ := (mem_col hk).mp ha
    obtain ⟨b1, j, hj, bj⟩ := (mem_col hk).mp hb
    rw [get_getD hi] at ai
    rw [get_getD hj] at bj
    have ea := Option.some.inj ai
    have eb := Option.some.inj bj
    have key : ∀ i j, i < j → p + j * k < l.length → l.getD (p + i * k) 0 ≠ 63 → l.getD (p + j * k) 0 ≠ 63 → l.getD (p + j * k) 0 = l.getD (p + i * k) 0 := fun i j hij hj n1 n2 => by
      have e : p + i * k + (j - i - 1 + 1) * k = p + j * k := by
        rw [Nat.add_assoc, ← Nat.add_mul]
        congr 2
        omega
      have hi : p + i * k < l.length := by
        have : i * k ≤ j * k := Nat.mul_le_mul_right _ (by omega)
        omega
      have := h (p + i * k) hi n1 (j - i - 1)
      rw [e] at this
      exact this hj n2
    rw [← ea] at a1
    rw [← eb] at b1
    rw [← ea, ← eb]
    rcases Nat.lt_trichotomy i j with z | z | z
    · exact (key i j z hj a1 b1).symm
    · rw [z]
    · exact key j i z hi b1 a1
/-- a list of signs that agrees with each column is the rim -/
theorem rim_of_signs {l cs : List Nat} {k : Nat} (hk : 0 < k) (hf : fitsOne l k) (hc : cs.length = k)
    (h : ∀ r, r < k → (cs.getD r 0 = 63 ∧ ∀ j, j < l.length → j % k = r → l.getD j 0 = 63) ∨ cs.getD r 0 ∈ col l k r) : cs = rimL l k := by
  apply List.ext_getElem
  · simp [rimL, hc]
  · intro r h1 h2
    have hr : r < k := by omega
    have e1 : cs[r] = cs.getD r 0 := by simp [List.getD, h1]
    have e2 : (rimL l k)[r] = rimAt l k r := by simp [rimL]
    rw [e1, e2]
    unfold rimAt
    rcases h r hr with ⟨q1, q2⟩ | q
    · rw [q1]
      cases hcol : col l k r with
      | nil => rfl
      | cons c t =>
        have hm : c ∈ col l k r := by
          rw [hcol]
          exact List.mem_cons_self
        obtain ⟨n1, j, hj, cj⟩ := (mem_col hk).mp hm
        have := q2 (r + j * k) hj (by rw [Nat.add_mul_mod_self_right]; exact Nat.mod_eq_of_lt hr)
        rw [get_getD hj, this] at cj
        exact absurd (Option.some.inj cj).symm n1
    · cases hcol : col l k r with
      | nil =>
        rw [hcol] at q
        cases q
      | cons c t =>
        have hm : c ∈ col l k r := by
          rw [hcol]
          exact List.mem_cons_self
        exact hf r hr _ q _ hm
theorem code_lt (s : String) : ∀ c ∈ tl (Str.ofString s), c < 1114112 := fun c hc => by
  rw [tl_ofString] at hc
  obtain ⟨x, _, rfl⟩ := List.mem_map.mp hc
  have := x.valid
  show x.val.toNat < 1114112
  rcases this with h | h
  · exact Nat.lt_trans h (by decide)
  · exact h.2
theorem flat_T (cs : List Nat) : (cs.map fun c => [c]).flatten = cs := by
  induction cs with
  | nil => rfl
  | cons c r ih => rw [List.map_cons, List.flatten_cons, ih]; rfl
end RH

/-! What the laws' own bodies need. -/
namespace RI
open PySem PySem.Spec PyProof.Rows L2 Evl TL RC RA RD RE RF RG RH
section
variable {K : PySem.W.Frag} {σ : L2.St} {H H' : Hp} {ta tb te tx : TE} {i j : Int} {z : V}
theorem ev_min2 (ha : Ev ta σ H (.int i)) (hb : Ev tb σ H (.int j)) : Ev (tCB (fun xs H Q => ∃ i j, xs = [.int i, .int j] ∧ Q (.int (if j < i then j else i)) H) (tCons ta (tCons tb tNil))) σ H (.int (if j < i then j else i)) :=
  ev_cb (ea_cons ha (ea_cons hb ea_nil)) fun H1 _ Q q => ⟨i, j, rfl, q H1 (Ex.refl H1)⟩
def rpr (i : Int) : List Nat := tl (toString i : Str)
theorem rpr_S (i : Int) : (.str (toString i) : V) = T (rpr i) := (congrArg V.str (S_tl _)).symm
theorem rpr_lt (i : Int) : ∀ c ∈ rpr i, c < 1114112 := code_lt _
abbrev rRepr : List V → Hp → VK → Prop := fun xs H Q => ∃ i, xs = [.int i] ∧ i.natAbs.log2 < 1920 ∧ Q (.str (toString i)) H
/-- [repr(x) for x in numbers] -/
theorem el_reprs {p : Addr} {ns : List Int} {jx : Nat} {vs : List Nat} (h : Ev te σ H (.ref p)) (hp : SqL K H p (ns.map V.int)) (hn : ns.length ≤ 40000) (hl : ∀ i ∈ ns, i.natAbs.log2 < 1920)
    (hw : ∀ x, wipe ((wipe σ vs).set jx (some x)) vs = wipe σ vs) (hj : ∀ x, ((wipe σ vs).set jx (some x))[jx]? = some (some x)) :
    EvL (tLc (iList K te) (gName jx) tYes (tCB rRepr (tCons (tVar jx) tNil)) vs) σ H ((ns.map rpr).map T) := by
  refine el_to (el_lcV (fun _ => true) (fun x => match x with | .int i => .str (toString i) | _ => .non) h hp (by rw [List.length_map]; exact hn) hw (fun x H1 _ _ => et_yes) (fun x H1 _ hx _ => ?_)) ?_
  · obtain ⟨i, hi, rfl⟩ := List.mem_map.mp hx
    exact ev_reprI (ev_var (hj _)) (hl i hi)
  · rw [List.filter_eq_self.mpr (fun _ _ => rfl), List.map_map, List.map_map]
    exact List.map_congr_left fun i _ => rpr_S i
theorem small_log {i : Int} (h0 : 0 ≤ i) (h1 : i ≤ 1000000000) : i.natAbs.log2 < 1920 := by
  have : i.natAbs < 2 ^ 1920 := Nat.lt_of_lt_of_le (show i.natAbs < 2 ^ 30 by omega) (Nat.pow_le_pow_right (by decide) (by decide))
  by_cases hz : i.natAbs = 0
  · rw [hz]
    decide
  · exact (Nat.log2_lt hz).mpr this
theorem ev_all {bs : List Bool} (h : EvL te σ H (bs.map V.bl)) : Ev (tCB (rAll K) (tCons te tNil)) σ H (.bl (bs.all id)) := fun H1 e Q q => h H1 e _ fun p H2 hp e2 h2 => ⟨p, bs, rfl, SqL.of h2, q H2 e2⟩
theorem ev_any {bs : List Bool} (h : EvL te σ H (bs.map V.bl)) : Ev (tCB (rAny K) (tCons te tNil)) σ H (.bl (bs.any id)) := fun H1 e Q q => h H1 e _ fun p H2 hp e2 h2 => ⟨p, bs, rfl, SqL.of h2, q H2 e2⟩
theorem eqV_T (a b : List Nat) : eqV (T a) (T b) = decide (a = b) := by
  show (S a == S b) = decide (a = b)
  rw [Bool.eq_iff_iff, beq_iff_eq, decide_eq_true_iff, S_inj]
/-- a text among two -/
theorem inV_T2 (x a b : List Nat) : inV (T x) [T a, T b] = (decide (a = x) || decide (b = x)) := by
  show (eqV (T a) (T x) || (eqV (T b) (T x) || false)) = _
  rw [eqV_T, eqV_T, Bool.or_false]
theorem ev_inT2 {a b x : List Nat} {tc : TE} (hx : Ev tc σ H (T x)) (ha : Ev ta σ H (T a)) (hb : Ev tb σ H (T b)) : Ev (tOp (rIn K false) tc (tTup (tCons ta (tCons tb tNil)))) σ H (.bl (decide (a = x) || decide (b = x))) := by
  rw [← inV_T2]
  exact ev_inU hx (eu_tup (ea_cons ha (ea_cons hb ea_nil)) (by show 2 ≤ 100000; decide)) rfl rfl
theorem ev_niT2 {a b x : List Nat} {tc : TE} (hx : Ev tc σ H (T x)) (ha : Ev ta σ H (T a)) (hb : Ev tb σ H (T b)) : Ev (tOp (rIn K true) tc (tTup (tCons ta (tCons tb tNil)))) σ H (.bl (!(decide (a = x) || decide (b = x)))) := by
  rw [← inV_T2]
  exact ev_niU hx (eu_tup (ea_cons ha (ea_cons hb ea_nil)) (by show 2 ≤ 100000; decide)) rfl rfl
theorem scal_opt (o o' : Option (List Nat)) : scal (optT o) (optT o') = true := by cases o <;> cases o' <;> rfl
end
end RI

/-! What is left beneath a wheel: the plain law. -/
namespace RL
open PySem PySem.Spec PyProof.Rows L2 Evl TL RC RA RD RE RF RG RH RI
/-- the rim's mark at a place -/
def rimM (rim : List Nat) (i : Nat) : Nat := rim.getD (i % rim.length) 0
def benL (l rim : List Nat) : List Nat := (List.range l.length).map fun i => if rimM rim i = 46 then l.getD i 0 else 63
def benP (l rim : List Nat) (i : Nat) : Prop := rimM rim i = 46 ∨ l.getD i 0 = rimM rim i ∨ l.getD i 0 = 63
def benOk (l rim : List Nat) : Prop := ∀ i, i < l.length → benP l rim i
instance (l rim : List Nat) (i : Nat) : Decidable (benP l rim i) := inferInstanceAs (Decidable (_ ∨ _))
instance (l rim : List Nat) : Decidable (benOk l rim) := inferInstanceAs (Decidable (∀ i, i < l.length → benP l rim i))
def benOf (l rim : List Nat) : Option (List Nat) := if benOk l rim then some (benL l rim) else none
theorem benL_len (l rim : List Nat) : (benL l rim).length = l.length := by simp [benL]
theorem benL_at {l rim : List Nat} {i : Nat} (h : i < l.length) : (benL l rim).getD i 0 = if rimM rim i = 46 then l.getD i 0 else 63 := by
  unfold benL
  rw [List.getD, List.getElem?_map, List.getElem?_range h]
  rfl
theorem benL_mem {l rim : List Nat} {c : Nat} (h : c ∈ benL l rim) : c ∈ l ∨ c = 63 := by
  unfold benL at h
  obtain ⟨i, hi, rfl⟩ := List.mem_map.mp h
  have hi' := List.mem_range.mp hi
  by_cases e : rimM rim i = 46
  · rw [if_pos e]
    exact .inl (getD_mem hi')
  · rw [if_neg e]
    exact .inr rfl
theorem benL_seen {l rim : List Nat} (h : RF.Seen l) : RF.Seen (benL l rim) :=
  ⟨fun e => h.1 (by have := congrArg List.length e; rw [benL_len] at this; exact List.eq_nil_of_length_eq_zero this), by rw [benL_len]; exact h.2.1, fun c hc => (benL_mem hc).elim (h.2.2 c) fun e => by rw [e]; decide⟩
theorem ext_getD {a b : List Nat} (h : a.length = b.length) (h2 : ∀ i, i < a.length → a.getD i 0 = b.getD i 0) : a = b := by
  apply List.ext_getElem h
  intro i h3 h4
  have := h2 i h3
  simpa [List.getD, h3, h4] using this
/-- beneath what is beneath: the same -/
theorem benOf_again (l rim : List Nat) : benOf (benL l rim) rim = some (benL l rim) := by
  have hok : benOk (benL l rim) rim := fun i hi => by
    rw [benL_len] at hi
    by_cases e : rimM rim i = 46
    · exact .inl e
    · refine .inr (.inr ?_)
      rw [benL_at hi, if_neg e]
  unfold benOf
  rw [if_pos hok]
  congr 1
  refine ext_getD (benL_len _ _) fun i hi => ?_
  rw [benL_len, benL_len] at hi
  rw [benL_at (by rw [benL_len]; exact hi), benL_at hi]
  by_cases e : rimM rim i = 46
  · rw [if_pos e, if_pos e]
  · rw [if_neg e, if_neg e]
/-- beneath a wheel without marks: the piece -/
theorem benOf_none {l rim : List Nat} (h : ∀ c ∈ rim, c = 46) (hr : 0 < rim.length) : benOf l rim = some l := by
  have hm : ∀ i, rimM rim i = 46 := fun i => h _ (getD_mem (Nat.mod_lt _ hr))
  have hok : benOk l rim := fun i _ => .inl (hm i)
  unfold benOf
  rw [if_pos hok]
  congr 1
  refine ext_getD (benL_len _ _) fun i hi => ?_
  rw [benL_len] at hi
  rw [benL_at hi, if_pos (hm i)]
def LET : List Nat := [97,98,99,100,101,102,103,104,105,106,107,108,109,110,111,112,113,114,115,116,117,118,119,120,121,122]
theorem marks_of : ∀ c ∈ MARKS, (decide (c ∈ LET) || decide (c = 46)) = true := by decide
theorem marks_signs : ∀ c ∈ MARKS, c ∈ SIGNS := by decide
theorem marks_ne : ∀ c ∈ MARKS, c ≠ 63 := by decide
theorem signs_marks : ∀ c ∈ SIGNS, c ≠ 63 → c ∈ MARKS := by decide
end RL

/-! word, *things = a tuple. One of two readings. -/
namespace RS
open PySem PySem.Spec PyProof.Rows L2
section
variable {prog : Program} {w : World} {A : Around} {E : Value → Shared → Prop} {s : Shared}
/-- a walk begun later -/
theorem later {I : Addr} {fp wr : List Addr} {G : Array GenState → Array GenState → Prop} {n : Nat} {P : Nat → Value → Prop} {St : Nat → Shared → Prop} (W : WalksS prog w A I fp wr G n P St) (k : Nat) (hk : k ≤ n) :
    WalksS prog w A I fp wr G (n - k) (fun i => P (i + k)) (fun i => St (i + k)) where
  sub := W.sub
  grefl := W.grefl
  gtrans := W.gtrans
  frame := fun i s h' tk st => W.frame (i + k) s h' tk st
  item := fun i s Q E hi st hQ => W.item (i + k) s Q E (by omega) st fun v s' hP hS hm => hQ v s' hP (by rw [Nat.add_right_comm]; exact hS) hm
  done := fun s Q E st hQ => W.done s Q E (by rw [Nat.sub_add_cancel hk] at st; exact st) hQ
  self := fun i s Q E st hQ => W.self (i + k) s Q E st hQ
theorem items_eq {its : List Value} {x : Value} {acc : Array Value} (h : ItemsOf (fun i v => (x :: its).toArray[i + 1]? = some v) acc its.length) : acc.toList = its := by
  obtain ⟨h1, h2⟩ := h
  apply List.ext_getElem (by simpa using h1)
  intro i h3 h4
  have h5 : acc[i]? = some (acc.toList[i]) := by
    rw [← Array.getElem?_toList]
    exact List.getElem?_eq_getElem h3
  have h6 : (x :: its).toArray[i + 1]? = some (acc.toList[i]) := h2 i _ h5
  have h7 : (x :: its).toArray[i + 1]? = some its[i] := by simp [h4]
  rw [h7] at h6
  exact (Option.some.inj h6).symm
theorem unpackStar {t : Addr} {x : Value} {its : List Value} {Q : List Value → Shared → Prop} (hh : A.handled = none) (ht : IsTup s.heap t (x :: its).toArray) (hz : its.length ≤ sizeLine)
    (hQ : ∀ s2 : Shared, (∀ b o, s.heap.get? b = some o → s2.heap.get? b = some o) → s2.gens = s.gens → s2.drawn = s.drawn → s2.os = s.os →
      Q [x, .ref s2.heap.objs.size] { s2 with heap := s2.heap.push { cls := .type "list", data := .seq its.toArray } }) : wpAny (model prog w) A (unpackItems (.ref t) 2 (some 1)) Q E s := by
  have hlt : t ≠ s.heap.objs.size := by
    obtain ⟨o, ho, _⟩ := ht
    exact Nat.ne_of_lt (Heap.lt_size ho)
  unfold unpackItems
  refine wpAny_bind ?_
  unfold notIterableAtAll
  refine wpAny_bind (wpAny_specialOf ht.typeIs slot_tuple_iter.lookup ?_)
  refine wpAny_pure ?_
  simp only [Bool.false_eq_true, if_false]
  refine wpAny_bind (wpAny_holding (iter_tuple ht ?_))
  have hsz : 0 + 1 ≤ (x :: its).toArray.size := by simp
  refine wpAny_bind (wpAny_holding (draw_tuple hlt 1 0 _ _ ⟨_, Heap.get?_push_size _ rfl, rfl, rfl⟩ (ht.push _) hsz fun h₁ hit₁ hs₁ => ?_))
  have ht₁ : IsTup h₁ t (x :: its).toArray := (ht.push _).extBut hs₁.extBut hlt
  show wpAny _ _ (if [x].length < 1 then _ else _) _ _ _
  rw [if_neg (by simp)]
  have W := later (Walks.toS (Walks.tuple (prog := prog) (w := w) (A := A.in1) hh s.heap.objs.size t hlt (x :: its).toArray)) 1 (by simp)
  have hn : (x :: its).toArray.size - 1 = its.length := by simp
  rw [hn] at W
  refine wpAny_bind (wpAny_holding (wpAny_collect_iter (T := "tuple_iterator") (.inr (.inr (.inr rfl))) W (fun i s st => ⟨_, st.1.choose_spec.1, st.1.choose_spec.2.1⟩) ⟨hit₁, ht₁⟩ ?_ (by simp) (fun s' acc hm hi => ?_) hz))
  · intro b hb
    rcases List.mem_cons.mp hb with e | hb
    · rw [e]
      obtain ⟨o, ho, _⟩ := hit₁
      exact Heap.lt_size ho
    · rw [List.mem_singleton.mp hb]
      obtain ⟨o, ho, _⟩ := ht₁
      exact Heap.lt_size ho
  · rw [items_eq hi]
    show wpAny _ _ (if its.length < 0 then _ else _) _ _ _
    rw [if_neg (Nat.not_lt_zero _)]
    have e1 : its.take (its.length - 0) = its := by simp
    have e2 : its.drop (its.length - 0) = [] := by simp
    show wpAny _ _ (newList (its.take (its.length - 0)) >>= fun l => pure ([x] ++ [l] ++ its.drop (its.length - 0))) _ _ _
    rw [e1, e2]
    refine wpAny_bind (wpAny_newList (wpAny_pure ?_) hz)
    refine hQ s' (fun b o e => ?_) hm.gens hm.drawn hm.os
    have hb : b ≠ s.heap.objs.size := Nat.ne_of_lt (Heap.lt_size e)
    exact hm.heap b o (by simpa using hb) (hs₁.extBut b o hb (Heap.get?_push_of_some _ e))
theorem assign_star {env : Env} {elts : List Expr} {k : Nat} {pos : Pos} {t : Addr} {x : Value} {its : List Value} {Q : Unit → Shared → Prop} (hh : A.handled = none) (ht : IsTup s.heap t (x :: its).toArray) (hz : its.length ≤ sizeLine)
    (hn : (assignEach elts env).length = 2) (hstar : (assignEach elts env).findIdx? (·.1) = some 1)
    (hQ : ∀ s2 : Shared, (∀ b o, s.heap.get? b = some o → s2.heap.get? b = some o) → s2.gens = s.gens → s2.drawn = s.drawn → s2.os = s.os →
      wpAny (model prog w) A (assignInOrder ((assignEach elts env).map (·.2)) [x, .ref s2.heap.objs.size]) Q E { s2 with heap := s2.heap.push { cls := .type "list", data := .seq its.toArray } }) :
    wpAny (model prog w) A (assign (.Tuple elts k pos) env (.ref t)) Q E s := by
  rw [assign_Tuple]
  refine wpAny_bind (wpAny_standAt ?_)
  unfold unpack
  rw [hn, hstar]
  exact wpAny_bind (wpAny_holding (unpackStar hh ht hz hQ))
end
section
variable {X : Cx} {pos p3 : Pos} {t u : TE}
theorem pgs_star {e : Expr} {g : TG} (h : PG X e g) (hs : (assignEach [.Starred e p3] X.env).map (·.2) = [assign e X.env] := by rfl) : PGs X [.Starred e p3] (gCons g gNil) := by
  refine ⟨fun pins s σ H vs us Q I r hh => ?_⟩
  obtain ⟨v, vr, e1, q⟩ := hh
  subst e1
  cases r with
  | cons r rr =>
    rw [hs]
    refine assignInOrder_cons (thn (h.run pins s σ H _ _ _ I r q) fun _ s1 ⟨σ1, H1, I1, e3, q1⟩ => ?_)
    subst e3
    cases rr
    exact assignInOrder_nil ⟨σ1, H1, I1, q1⟩
/-- a, *b = a tuple: b a new list of all behind the first -/
def gStar (K : PySem.W.Frag) (t : TGs) : TG := fun v σ H Q => ∃ a x xs, v = .ref a ∧ SqT K H a (x :: xs) ∧ ∀ l, H l = none → t [x, .ref l] σ (upd H l (.lst xs)) Q
theorem pg_star {es : List Expr} {k : Nat} {t : TGs} (hc : X.calm = true) (h : PGs X es t)
    (hn : (assignEach es X.env).length = 2 := by rfl) (hst : (assignEach es X.env).findIdx? (·.1) = some 1 := by rfl) : PG X (.Tuple es k pos) (gStar X.K t) := by
  refine ⟨fun pins s σ H v u Q I r hw => ?_⟩
  obtain ⟨a, x, xs, e1, hq, hw⟩ := hw
  subst e1
  cases r
  obtain ⟨its, rv, ht, hz⟩ := I.tuple hq
  cases rv with
  | @cons _ y _ its rx rv =>
    have hz' : its.length ≤ sizeLine := by
      rw [← rv.length]
      exact Nat.le_trans (Nat.le_succ _) hz
    refine assign_star (I.ok.hd hc) ht hz' hn hst fun s2 hk hg hd ho => ?_
    obtain ⟨h2, g2, d2, t2, o2⟩ := s2
    obtain ⟨h1, g1, d1, t1, o1⟩ := s
    obtain rfl : g2 = g1 := hg
    obtain rfl : d2 = d1 := hd
    obtain rfl : o2 = o1 := ho
    have I1 : Inv X pins σ H ⟨h2, g2, d2, t2, o2⟩ := I.kept (h' := h2) (t' := t2) hk
    have I2 := I1.laid (a := h2.objs.size) (o := .lst xs) (h' := h2.push { cls := .type "list", data := .seq its.toArray }) (t' := t2) (fun b u e => Heap.get?_push_of_some _ e) (Nat.le_refl _)
      ⟨by rw [rv.length]; exact hz', its, 0, rv, Heap.get?_push_size _ rfl⟩
    exact h.run pins _ σ _ [x, .ref h2.objs.size] _ Q I2 (.cons rx (.cons rfl .nil)) (hw _ (I1.hok.fresh (Nat.le_refl _)))
/-- one of two readings -/
theorem pe_or2 {e : Expr} (h1 : PE X e t) (h2 : PE X e u) : PE X e (fun σ H Q => t σ H Q ∨ u σ H Q) :=
  ⟨fun pins s σ H Q I h => h.elim (h1.run pins s σ H Q I) (h2.run pins s σ H Q I)⟩
/-- one of many readings -/
theorem pe_some {ι : Type} {e : Expr} {t : ι → TE} (h : ∀ i, PE X e (t i)) : PE X e (fun σ H Q => ∃ i, t i σ H Q) :=
  ⟨fun pins s σ H Q I ⟨i, q⟩ => (h i).run pins s σ H Q I q⟩
theorem pi_or2 {tg e : Expr} {t u : TI} (h1 : PI X tg e t) (h2 : PI X tg e u) : PI X tg e (fun σ H R => t σ H R ∨ u σ H R) :=
  ⟨fun pins s σ H Q I h => h.elim (h1.run pins s σ H Q I) (h2.run pins s σ H Q I)⟩
end
end RS

/-! Presses: what they print, how they come round. Plain. -/
namespace RP
mutual
inductive Pr : Type
  | wheel (rim : List Nat)
  | turned (p : Pr) (n : Nat)
  | over (a b : Pr)
  | cut (a b : Pr)
  | held (a b : Pr)
  | taking (ps : Ps)
  | thn (a : Pr) (n : Nat) (b : Pr)
  | dyed (p : Pr) (ds : List (Nat × Nat))
inductive Ps : Type
  | nil
  | cons (p : Pr) (n : Nat) (r : Ps)
end
/-- how many of the first n places have a mark -/
def cnt (f : Nat → Nat) : Nat → Nat
  | 0 => 0
  | n + 1 => cnt f n + (if f n = 46 then 0 else 1)
def total : Ps → Nat
  | .nil => 0
  | .cons _ n r => n + total r
def dye (ds : List (Nat × Nat)) (c : Nat) : Nat := (ds.lookup c).getD c
mutual
def mark : Pr → Nat → Nat
  | .wheel rim, i => rim.getD (i % rim.length) 0
  | .turned p n, i => mark p (i + n)
  | .over a b, i => if mark b i = 46 then mark a i else mark b i
  | .cut a b, i => if mark b i = 46 then 46 else mark a i
  | .held a b, i => if mark b i = 46 then 46 else mark a (cnt (mark b) i)
  | .taking ps, i => markT ps (i / total ps) (i % total ps)
  | .thn a n b, i => if i < n then mark a i else mark b (i - n)
  | .dyed p ds, i => dye ds (mark p i)
def markT : Ps → Nat → Nat → Nat
  | .nil, _, _ => 0
  | .cons p n r, lap, more => if more < n then mark p (lap * n + more) else markT r lap (more - n)
end
/-- a / b, rounded up -/
def up (a b : Nat) : Nat := (a + b - 1) / b
mutual
/-- from where on it comes round, and by which length -/
def round : Pr → Nat × Nat
  | .wheel rim => (0, rim.length)
  | .turned p n => ((round p).1 - n, (round p).2)
  | .over a b => (max (round a).1 (round b).1, Nat.lcm (round a).2 (round b).2)
  | .cut a b => (max (round a).1 (round b).1, Nat.lcm (round a).2 (round b).2)
  | .held a b =>
    if cnt (mark b) ((round b).1 + (round b).2) - cnt (mark b) (round b).1 = 0 then ((round b).1, 1)
    else ((round b).1 + up ((round a).1 - cnt (mark b) (round b).1) (cnt (mark b) ((round b).1 + (round b).2) - cnt (mark b) (round b).1) * (round b).2,
      (round a).2 / Nat.gcd (round a).2 (cnt (mark b) ((round b).1 + (round b).2) - cnt (mark b) (round b).1) * (round b).2)
  | .taking ps => ((roundT ps).1 * total ps, (roundT ps).2 * total ps)
  | .thn _ n b => (n + (round b).1, (round b).2)
  | .dyed p _ => round p
def roundT : Ps → Nat × Nat
  | .nil => (0, 1)
  | .cons p n r => (max (up (round p).1 n) (roundT r).1, Nat.lcm ((round p).2 / Nat.gcd (round p).2 n) (roundT r).2)
end
mutual
/-- rims of some sign, pairs of some place -/
def Ok : Pr → Prop
  | .wheel rim => 0 < rim.length
  | .turned p _ => Ok p
  | .over a b => Ok a ∧ Ok b
  | .cut a b => Ok a ∧ Ok b
  | .held a b => Ok a ∧ Ok b
  | .taking ps => OkT ps ∧ 0 < total ps
  | .thn a _ b => Ok a ∧ Ok b
  | .dyed p _ => Ok p
def OkT : Ps → Prop
  | .nil => True
  | .cons p n r => Ok p ∧ 0 < n ∧ OkT r
end
/-! ### periods -/
def Per (f : Nat → Nat) (b l : Nat) : Prop := 0 < l ∧ ∀ i, b ≤ i → f (i + l) = f i
theorem Per.mul {f : Nat → Nat} {b l : Nat} (h : Per f b l) : ∀ (k i : Nat), b ≤ i → f (i + k * l) = f i
  | 0, i, _ => by rw [Nat.zero_mul]; rfl
  | k + 1, i, hi => by
    rw [Nat.succ_mul, ← Nat.add_assoc, h.2 _ (Nat.le_trans hi (Nat.le_add_right _ _))]
    exact h.mul k i hi
theorem Per.dvd {f : Nat → Nat} {b l m i : Nat} (h : Per f b l) (hd : l ∣ m) (hi : b ≤ i) : f (i + m) = f i := by
  obtain ⟨k, rfl⟩ := hd
  rw [Nat.mul_comm]
  exact h.mul k i hi
theorem cnt_le (f : Nat → Nat) : ∀ n, cnt f n ≤ n
  | 0 => Nat.le_refl _
  | n + 1 => by
    have := cnt_le f n
    show cnt f n + _ ≤ _
    split <;> omega
theorem cnt_mono (f : Nat → Nat) : ∀ {a b : Nat}, a ≤ b → cnt f a ≤ cnt f b := fun {a b} h => by
  induction h with
  | refl => exact Nat.le_refl _
  | step _ ih => exact Nat.le_trans ih (Nat.le_add_right _ _)
/-- the marks of one round -/
def perR (f : Nat → Nat) (b l : Nat) : Nat := cnt f (b + l) - cnt f b
theorem cnt_round {f : Nat → Nat} {b l : Nat} (h : Per f b l) : ∀ i, b ≤ i → cnt f (i + l) = cnt f i + perR f b l := fun i hi => by
  obtain ⟨d, rfl⟩ := Nat.exists_eq_add_of_le hi
  clear hi
  induction d with
  | zero =>
    have := cnt_mono f (Nat.le_add_right b l)
    unfold perR
    rw [Nat.add_zero]
    omega
  | succ d ih =>
    have e : b + (d + 1) + l = b + d + l + 1 := by omega
    have e2 : b + (d + 1) = b + d + 1 := by omega
    rw [e, e2]
    show cnt f (b + d + l) + _ = cnt f (b + d) + _ + _
    rw [ih, h.2 (b + d) (by omega)]
    omega
theorem cnt_rounds {f : Nat → Nat} {b l : Nat} (h : Per f b l) : ∀ k i, b ≤ i → cnt f (i + k * l) = cnt f i + k * perR f b l
  | 0, i, _ => by rw [Nat.zero_mul, Nat.zero_mul]; rfl
  | k + 1, i, hi => by
    rw [Nat.succ_mul, ← Nat.add_assoc, cnt_round h _ (Nat.le_trans hi (Nat.le_add_right _ _)), cnt_rounds h k i hi, Nat.succ_mul]
    omega
theorem up_mul {a b : Nat} (h : 0 < b) : a ≤ up a b * b := by
  unfold up
  have h1 := Nat.div_add_mod (a + b - 1) b
  have h2 := Nat.mod_lt (a + b - 1) h
  rw [Nat.mul_comm]
  omega
theorem dvd_gcd_mul {l m k : Nat} (h : l / Nat.gcd l m ∣ k) : l ∣ k * m := by
  have h1 : Nat.gcd l m ∣ l := Nat.gcd_dvd_left _ _
  have h2 : Nat.gcd l m ∣ m := Nat.gcd_dvd_right _ _
  obtain ⟨x, hx⟩ := h2
  obtain ⟨y, hy⟩ := h
  refine ⟨y * x, ?_⟩
  have e : l / Nat.gcd l m * Nat.gcd l m = l := Nat.div_mul_cancel h1
  calc k * m = (l / Nat.gcd l m * y) * (Nat.gcd l m * x) := by rw [← hy, ← hx]
    _ = (l / Nat.gcd l m * Nat.gcd l m) * (y * x) := by ac_rfl
    _ = l * (y * x) := by rw [e]
/-- a place of a taking press: whose turn, how far -/
def PerT : Ps → Nat → Nat → Prop
  | .nil, _, _ => True
  | .cons p n r, b, l => (∀ i, b * n ≤ i → mark p (i + l * n) = mark p i) ∧ PerT r b l
theorem PerT.at : ∀ (ps : Ps) {b l lap more : Nat}, PerT ps b l → b ≤ lap → markT ps (lap + l) more = markT ps lap more
  | .nil, _, _, _, _, _, _ => by simp [markT]
  | .cons p n r, b, l, lap, more, h, hb => by
    unfold markT
    by_cases hm : more < n
    · rw [if_pos hm, if_pos hm]
      have e : (lap + l) * n + more = lap * n + more + l * n := by rw [Nat.add_mul]; omega
      rw [e]
      refine h.1 _ ?_
      have := Nat.mul_le_mul_right n hb
      omega
    · rw [if_neg hm, if_neg hm]
      exact PerT.at r h.2 hb
theorem PerT.more : ∀ (ps : Ps) {b l b' l' : Nat}, PerT ps b l → b ≤ b' → l ∣ l' → PerT ps b' l'
  | .nil, _, _, _, _, _, _, _ => trivial
  | .cons p n r, b, l, b', l', h, hb, hl => by
    refine ⟨fun i hi => ?_, PerT.more r h.2 hb hl⟩
    obtain ⟨k, rfl⟩ := hl
    have := Nat.mul_le_mul_right n hb
    have e : l * k * n = k * (l * n) := by ac_rfl
    rw [e]
    have hi2 : b * n ≤ i := by omega
    clear e hi
    induction k with
    | zero => rw [Nat.zero_mul, Nat.add_zero]
    | succ k ih => rw [Nat.succ_mul, ← Nat.add_assoc, h.1 _ (by omega), ih]
mutual
theorem per : ∀ p, Ok p → Per (mark p) (round p).1 (round p).2
  | .wheel rim, h => by
    refine ⟨h, fun i _ => ?_⟩
    simp [mark, round]
  | .turned p n, h => by
    have ih := per p h
    refine ⟨ih.1, fun i hi => ?_⟩
    show mark p (i + (round p).2 + n) = mark p (i + n)
    have e : i + (round p).2 + n = i + n + (round p).2 := by omega
    rw [e]
    refine ih.2 _ ?_
    have hi' : (round p).1 - n ≤ i := hi
    omega
  | .over a b, h => by
    have ha := per a h.1
    have hb := per b h.2
    refine ⟨Nat.lcm_pos ha.1 hb.1, fun i hi => ?_⟩
    have hi' : max (round a).1 (round b).1 ≤ i := hi
    show (if mark b (i + Nat.lcm _ _) = 46 then mark a (i + Nat.lcm _ _) else mark b (i + Nat.lcm _ _)) = _
    rw [ha.dvd (Nat.dvd_lcm_left _ _) (by omega), hb.dvd (Nat.dvd_lcm_right _ _) (by omega)]
    rfl
  | .cut a b, h => by
    have ha := per a h.1
    have hb := per b h.2
    refine ⟨Nat.lcm_pos ha.1 hb.1, fun i hi => ?_⟩
    have hi' : max (round a).1 (round b).1 ≤ i := hi
    show (if mark b (i + Nat.lcm _ _) = 46 then 46 else mark a (i + Nat.lcm _ _)) = _
    rw [ha.dvd (Nat.dvd_lcm_left _ _) (by omega), hb.dvd (Nat.dvd_lcm_right _ _) (by omega)]
    rfl
  | .held a b, h => by
    have ha := per a h.1
    have hb := per b h.2
    have hr := cnt_rounds hb
    show Per (mark (.held a b)) (round (.held a b)).1 (round (.held a b)).2
    have hrd : round (.held a b) = if perR (mark b) (round b).1 (round b).2 = 0 then ((round b).1, 1)
        else ((round b).1 + up ((round a).1 - cnt (mark b) (round b).1) (perR (mark b) (round b).1 (round b).2) * (round b).2,
          (round a).2 / Nat.gcd (round a).2 (perR (mark b) (round b).1 (round b).2) * (round b).2) := by
      rw [round]
      rfl
    rw [hrd]
    by_cases h0 : perR (mark b) (round b).1 (round b).2 = 0
    · rw [if_pos h0]
      refine ⟨Nat.one_pos, fun i hi => ?_⟩
      have hi' : (round b).1 ≤ i := hi
      have none : ∀ j, (round b).1 ≤ j → mark b j = 46 := fun j hj => by
        have h1 := cnt_round hb j hj
        rw [h0, Nat.add_zero] at h1
        have hl : 0 < (round b).2 := hb.1
        have h2 := cnt_mono (mark b) (show j + 1 ≤ j + (round b).2 by omega)
        rw [h1] at h2
        have h3 : cnt (mark b) (j + 1) = cnt (mark b) j + (if mark b j = 46 then 0 else 1) := rfl
        rw [h3] at h2
        by_cases hm : mark b j = 46
        · exact hm
        · rw [if_neg hm] at h2
          omega
      show (if mark b (i + 1) = 46 then 46 else _) = (if mark b i = 46 then 46 else _)
      rw [if_pos (none _ (by omega)), if_pos (none _ hi')]
    · rw [if_neg h0]
      have hm : 0 < perR (mark b) (round b).1 (round b).2 := Nat.pos_of_ne_zero h0
      revert hm hr
      generalize perR (mark b) (round b).1 (round b).2 = mr
      intro hr hm
      have hg : 0 < Nat.gcd (round a).2 mr := Nat.gcd_pos_of_pos_left _ ha.1
      have ht : 0 < (round a).2 / Nat.gcd (round a).2 mr := Nat.div_pos (Nat.le_of_dvd ha.1 (Nat.gcd_dvd_left _ _)) hg
      refine ⟨Nat.mul_pos ht hb.1, fun i hi => ?_⟩
      have hi' : (round b).1 + up ((round a).1 - cnt (mark b) (round b).1) mr * (round b).2 ≤ i := hi
      have hbi : (round b).1 ≤ i := Nat.le_trans (Nat.le_add_right _ _) hi'
      show (if mark b (i + (round a).2 / Nat.gcd (round a).2 mr * (round b).2) = 46 then 46 else mark a (cnt (mark b) (i + (round a).2 / Nat.gcd (round a).2 mr * (round b).2))) = _
      rw [hb.mul _ _ hbi, hr _ _ hbi]
      have hge : (round a).1 ≤ cnt (mark b) i := by
        have h1 := cnt_mono (mark b) hi'
        rw [hr _ _ (Nat.le_refl _)] at h1
        have h2 := up_mul (a := (round a).1 - cnt (mark b) (round b).1) hm
        omega
      rw [ha.dvd (dvd_gcd_mul (Nat.dvd_refl _)) hge]
      rfl
  | .taking ps, h => by
    have hp := perT ps h.1
    refine ⟨Nat.mul_pos hp.1 h.2, fun i hi => ?_⟩
    have hi' : (roundT ps).1 * total ps ≤ i := hi
    show markT ps ((i + (roundT ps).2 * total ps) / total ps) ((i + (roundT ps).2 * total ps) % total ps) = markT ps (i / total ps) (i % total ps)
    rw [Nat.add_mul_div_right _ _ h.2, Nat.add_mul_mod_self_right]
    exact PerT.at ps hp.2 ((Nat.le_div_iff_mul_le h.2).mpr hi')
  | .thn a n b, h => by
    have hb := per b h.2
    refine ⟨hb.1, fun i hi => ?_⟩
    have hi' : n + (round b).1 ≤ i := hi
    show (if i + (round b).2 < n then _ else mark b (i + (round b).2 - n)) = (if i < n then _ else mark b (i - n))
    rw [if_neg (by omega), if_neg (by omega)]
    have e : i + (round b).2 - n = i - n + (round b).2 := by omega
    rw [e]
    exact hb.2 _ (by omega)
  | .dyed p ds, h => by
    have ih := per p h
    refine ⟨ih.1, fun i hi => ?_⟩
    show dye ds (mark p (i + (round p).2)) = dye ds (mark p i)
    rw [ih.2 i hi]
theorem perT : ∀ ps, OkT ps → 0 < (roundT ps).2 ∧ PerT ps (roundT ps).1 (roundT ps).2
  | .nil, _ => ⟨Nat.one_pos, trivial⟩
  | .cons p n r, h => by
    have hp := per p h.1
    have hr := perT r h.2.2
    have hg : 0 < Nat.gcd (round p).2 n := Nat.gcd_pos_of_pos_left _ hp.1
    have ht : 0 < (round p).2 / Nat.gcd (round p).2 n := Nat.div_pos (Nat.le_of_dvd hp.1 (Nat.gcd_dvd_left _ _)) hg
    refine ⟨Nat.lcm_pos ht hr.1, fun i hi => ?_, PerT.more r hr.2 (Nat.le_max_right _ _) (Nat.dvd_lcm_right _ _)⟩
    refine hp.dvd (dvd_gcd_mul (Nat.dvd_lcm_left _ _)) ?_
    have h1 := up_mul (a := (round p).1) h.2.1
    have h2 := Nat.mul_le_mul_right n (Nat.le_max_left (up (round p).1 n) (roundT r).1)
    have hi' : max (up (round p).1 n) (roundT r).1 * n ≤ i := hi
    omega
end
end RP

/-! Classes of the text, told by name; their fields. -/
namespace RQ
open PySem PySem.Spec PyProof.Rows L2 Evl TL RC
structure ClsT (K : PySem.W.Frag) (mg : Str → Option Value) (x : Str) (C : Addr) (fs : List Str) : Prop where
  cl : Cls K C
  at_ : mg x = some (.ref C)
  mks : PySem.W.makesIn K C = true
  kp : PySem.W.keepIn K (.ref C) = true
  na : ∀ f ∈ fs, NoAttr K C f
theorem naC {K : PySem.W.Frag} {C : Addr} {f : Str} {fs : List Str} (h : PySem.W.findIn K (.ref C) f = some none) (r : ∀ g ∈ fs, NoAttr K C g) : ∀ g ∈ f :: fs, NoAttr K C g := fun g hg => by
  rcases List.mem_cons.mp hg with e | e
  · rw [e]
    exact h
  · exact r g e
structure MetT (K : PySem.W.Frag) (C : Addr) (m qual : Str) (st : Stmt) (ps : List Str) : Prop where
  ex : ∃ f fd, Fun K m qual st f fd ∧ PySem.W.findIn K (.ref C) m = some (some (.ref f)) ∧ PySem.W.isFn K (.ref f) = true ∧ Binds K fd ps []
/-- at level k the class at C has a method m that keeps sp -/
def HasM (P : Program) (w : World) (K : PySem.W.Frag) (mg : Str → Option Value) (base : Heap) (CX : CXT) (k : Nat) (C : Addr) (m : Str) (ps : List Str) (sp : Sp) : Prop :=
  Cls K C ∧ ∃ f fd, FnOk P w K mg base CX k f fd ps sp ∧ Meth K C m f ∧ Binds K fd ps []
/-- at level k the name x holds the class at C, whose __init__ keeps sp -/
def HasI (P : Program) (w : World) (K : PySem.W.Frag) (mg : Str → Option Value) (base : Heap) (CX : CXT) (k : Nat) (x : Str) (C : Addr) (ps : List Str) (sp : Sp) : Prop :=
  mg x = some (.ref C) ∧ ∃ f fd, FnOk P w K mg base CX k f fd ps sp ∧ Mk K C f ∧ Binds K fd ps []
section
variable {P : Program} {w : World} {K : PySem.W.Frag} {mg : Str → Option Value} {base : Heap} {CX : CXT}
theorem HasM.mono {j k : Nat} {C : Addr} {m : Str} {ps : List Str} {sp : Sp} (h : HasM P w K mg base CX j C m ps sp) (l : j ≤ k) : HasM P w K mg base CX k C m ps sp := by
  obtain ⟨h0, f, fd, h1, h2, h3⟩ := h
  exact ⟨h0, f, fd, h1.mono l, h2, h3⟩
theorem HasI.mono {j k : Nat} {x : Str} {C : Addr} {ps : List Str} {sp : Sp} (h : HasI P w K mg base CX j x C ps sp) (l : j ≤ k) : HasI P w K mg base CX k x C ps sp := by
  obtain ⟨h0, f, fd, h1, h2, h3⟩ := h
  exact ⟨h0, f, fd, h1.mono l, h2, h3⟩
theorem MetT.ok {m qual : Str} {C : Addr} {st : Stmt} {N ps : List Str} {k : Nat} {sp : Sp} (F : MetT K C m qual st ps) (cl : Cls K C) (S : FnScope N ps (defScope st)) (len : ∀ vs H Q E, sp vs H Q E → vs.length = ps.length)
    (hbody : ∀ (f : Addr) (cdv : Value) (A : Around) (outer : List Env) (s : Shared) (H : Hp) (vs : List V) (Q : VK) (E : XK), Room k (A.deeper (envOfC qual (defScope st) s.heap.objs.size f cdv)) → sp vs H Q E →
      ∃ t, PSs (cxOf CX0 P w K mg base N qual (defScope st) f cdv A outer s H E).nox (defBody st) t ∧ t { nx := fun _ H' => Q .non H', rt := Q } (start N vs) H) : HasM P w K mg base CX0 (k + 1) C m ps sp := by
  obtain ⟨f, fd, h1, h2, h3, h4⟩ := F.ex
  exact ⟨cl, f, fd, h1.ok S len (hbody f), ⟨h2, h3, h1.kp⟩, h4⟩
theorem MetT.okI {x qual : Str} {C : Addr} {st : Stmt} {N ps fs : List Str} {k : Nat} {sp : Sp} (F : MetT K C "__init__" qual st ps) (c : ClsT K mg x C fs) (S : FnScope N ps (defScope st)) (len : ∀ vs H Q E, sp vs H Q E → vs.length = ps.length)
    (hbody : ∀ (f : Addr) (cdv : Value) (A : Around) (outer : List Env) (s : Shared) (H : Hp) (vs : List V) (Q : VK) (E : XK), Room k (A.deeper (envOfC qual (defScope st) s.heap.objs.size f cdv)) → sp vs H Q E →
      ∃ t, PSs (cxOf CX0 P w K mg base N qual (defScope st) f cdv A outer s H E).nox (defBody st) t ∧ t { nx := fun _ H' => Q .non H', rt := Q } (start N vs) H) : HasI P w K mg base CX0 (k + 1) x C ps sp := by
  obtain ⟨f, fd, h1, h2, h3, h4⟩ := F.ex
  exact ⟨c.at_, f, fd, h1.ok S len (hbody f), ⟨c.mks, h2, h3, c.kp⟩, h4⟩
end
section
variable {X : Cx} {CX : CXT} {E : XK} {k : Nat} {x m : Str} {C : Addr} {ps : List Str} {sp : Sp} {t : TA} {ta : TE} {e o : Expr} {es : List Expr} {p pos apos : Pos}
theorem pe_hasM {pl : Sem Bool} (h : HasM X.prog X.w X.K X.mg X.base CX k C m ps sp) (hr : Room k X.A) (hx : Passes CX X E) (he : PE X o ta) (ha : PA X (e :: es) t)
    (hst : starEach (e :: es) X.env = (false, eval e X.env) :: starEach es X.env := by rfl) (hpl : (backTo pos (starEach es X.env)).any (·.1) = false := by rfl)
    (ht : eval (.Call (.Attribute o m apos) (e :: es) [] pos) X.env = (do
      let ov ← eval o X.env
      standAt apos.atName
      let (f, first) ← holding [ov] (getMethod ov m pl)
      callWith pos f first (backTo pos (starEach (e :: es) X.env)) (backToKw pos (keywordEach [] X.env))) := by rfl) :
    PE X (.Call (.Attribute o m apos) (e :: es) [] pos) (tMeth C m sp [] E ta t) := by
  obtain ⟨h0, f, fd, h1, h2, h3⟩ := h
  exact pe_meth he h0 h2 h1 hr h3 .nil hx ha hst hpl ht
theorem pe_hasM0 {pl : Sem Bool} (h : HasM X.prog X.w X.K X.mg X.base CX k C m ps sp) (hr : Room k X.A) (hx : Passes CX X E) (he : PE X o ta)
    (ht : eval (.Call (.Attribute o m apos) [] [] pos) X.env = (do
      let ov ← eval o X.env
      standAt apos.atName
      let (f, first) ← holding [ov] (getMethod ov m pl)
      callWith pos f first (backTo pos (starEach [] X.env)) (backToKw pos (keywordEach [] X.env))) := by rfl) :
    PE X (.Call (.Attribute o m apos) [] [] pos) (tMeth C m sp [] E ta tNil) := by
  obtain ⟨h0, f, fd, h1, h2, h3⟩ := h
  exact pe_meth0 he h0 h2 h1 hr h3 .nil hx ht
theorem pe_hasI (h : HasI X.prog X.w X.K X.mg X.base CX k x C ps sp) (hr : Room (k + 1) X.A) (hx : Passes CX X E) (ha : PA X (e :: es) t) (hg : Gl X x := by rfl) (hd : (x == ("__debug__" : Str)) = false := by decide)
    (hs : starEach (e :: es) X.env = (false, eval e X.env) :: starEach es X.env := by rfl) (hpl : (backTo pos (starEach es X.env)).any (·.1) = false := by rfl) :
    PE X (.Call (.Name x p) (e :: es) [] pos) (tMake C sp [] E t) := by
  obtain ⟨h0, f, fd, h1, h2, h3⟩ := h
  exact pe_make h2 h1 hr hg h0 h3 .nil hx ha hd hs hpl
end
/-- o.f as a target -/
def gFld (K : PySem.W.Frag) (ta : TE) (f : Str) : TG := fun y σ H Q => ta σ H fun x H2 => ∃ a C dx fs, x = .ref a ∧ H2 a = some (.ins C dx fs) ∧ Cls K C ∧ NoAttr K C f ∧ fs.length < 1000 ∧ Q σ (upd H2 a (.ins C dx (putF f y fs)))
theorem pg_fld {X : Cx} {o : Expr} {f : Str} {ta : TE} {pos : Pos} (ho : PE X o ta) : PG X (.Attribute o f pos) (gFld X.K ta f) := by
  refine ⟨fun pins s σ H v u Q I r h => ?_⟩
  show wpAny _ _ (do
    let ov ← holding [u] (eval o X.env)
    standAt pos.atName
    holding [u, ov] (setAttr ov f u)
    release [u, ov] []) _ _ s
  refine wpAny_bind (wpAny_holding (thn (ho.run pins s σ H _ I h) fun ov s1 ⟨x, H1, I1, r1, a, C, dx, fs, ex, ea, c, n, l, q⟩ => ?_))
  subst ex
  obtain rfl : ov = Value.ref a := r1
  refine wpAny_bind (wpAny_standAt (wpAny_bind (wpAny_holding (setattr_ok I1 ea c n l r fun s3 I3 => ?_))))
  exact wpAny_release ⟨σ, _, I3, q⟩
/-! ### one of two -/
section
variable {X : Cx}
def or2 (r r' : R2) : R2 := fun x y H Q => r x y H Q ∨ r' x y H Q
theorem ix_or {r r' : R2} (h1 : IxR X r) (h2 : IxR X r') : IxR X (or2 r r') := by
  intro ve sl pins s σ H x y v u Q I rx ry h
  rcases h with h | h
  · exact h1 ve sl pins s σ H x y v u Q I rx ry h
  · exact h2 ve sl pins s σ H x y v u Q I rx ry h
theorem op_or {f : Value → Value → Sem Value} {r r' : R2} (h1 : OpR X f r) (h2 : OpR X f r') : OpR X f (or2 r r') := by
  intro pins s σ H x y v u Q I rx ry h
  rcases h with h | h
  · exact h1 pins s σ H x y v u Q I rx ry h
  · exact h2 pins s σ H x y v u Q I rx ry h
end
/-! ### great numbers -/
@[irreducible] def lim : Nat := 2 ^ 4000
theorem lim_eq : lim = 2 ^ 4000 := by unfold lim; rfl
theorem lim_pos : 0 < lim := by rw [lim_eq]; exact Nat.two_pow_pos _
theorem lim_small {n : Nat} (h : n < 2 ^ 64) : n < lim := by
  rw [lim_eq]
  exact Nat.lt_of_lt_of_le h (Nat.pow_le_pow_right (by decide) (by decide))
theorem lim_mul {i j : Nat} (hi : i < lim) (hj : j < lim) : CMulW (i : Int) (j : Int) := by
  rw [lim_eq] at hi hj
  exact wide_mul (a := 4000) (b := 4000) (by simpa using hi) (by simpa using hj) (by decide) (by decide) (by decide)
theorem lim_div {i : Int} {j : Nat} (h : 0 < j) (hj : j < lim) : CDivW i (j : Int) := by
  rw [lim_eq] at hj
  exact wide_div (b := 4000) (by omega) (by simpa using hj) (by decide) (by decide)
theorem lim_bits {n : Nat} (h : n < lim) : Builtin.Int.intBits (n : Int) ≤ 4000 := by
  unfold Builtin.Int.intBits
  rw [lim_eq] at h
  split
  · omega
  · have := Flt.log2_lt_of (k := 4000) (by decide) (by simpa using h : (n : Int).natAbs < 2 ^ 4000)
    omega
theorem lim_divp {i j : Nat} (h : 0 < j) (hi : i < lim) : CDivP (i : Int) (j : Int) := divp_ok (by omega) (by have := lim_bits hi; omega)
/-! ### fields -/
theorem lk {ks : List Str} {vs : List V} {f : Str} {i : Nat} {v : V} (hi : ks.idxOf f = i) (hl : i < ks.length) (hv : vs[i]? = some v) : (ks.zip vs).lookup f = some v := by
  subst hi
  induction ks generalizing vs with
  | nil => exact absurd hl (Nat.not_lt_zero _)
  | cons k r ih =>
    cases vs with
    | nil => simp at hv
    | cons x y =>
      by_cases e : f = k
      · subst e
        simp [List.idxOf_cons] at hv
        subst hv
        simp [List.lookup_cons]
      · have e2 : (k == f) = false := beq_eq_false_iff_ne.mpr fun q => e q.symm
        have e3 : (f == k) = false := beq_eq_false_iff_ne.mpr e
        rw [List.idxOf_cons, e2] at hv hl
        simp at hv hl
        rw [List.zip_cons_cons, List.lookup_cons, e3]
        exact ih hl hv
theorem lkNo {ks : List Str} {vs : List V} {f : Str} (h : f ∉ ks) : (ks.zip vs).lookup f = none := by
  induction ks generalizing vs with
  | nil => rfl
  | cons k r ih =>
    cases vs with
    | nil => rfl
    | cons x y =>
      have e3 : (f == k) = false := beq_eq_false_iff_ne.mpr fun q => h (q ▸ List.mem_cons_self)
      rw [List.zip_cons_cons, List.lookup_cons, e3]
      exact ih fun q => h (List.mem_cons_of_mem _ q)
theorem putF_new {ks : List Str} {vs : List V} {f : Str} {v : V} (h : f ∉ ks) (hl : ks.length = vs.length) : putF f v (ks.zip vs) = (ks ++ [f]).zip (vs ++ [v]) := by
  induction ks generalizing vs with
  | nil =>
    cases vs with
    | nil => rfl
    | cons x y => cases hl
  | cons k r ih =>
    cases vs with
    | nil => cases hl
    | cons x y =>
      have e3 : ¬ k = f := fun q => h (q ▸ List.mem_cons_self)
      show (if k = f then _ else (k, x) :: putF f v (r.zip y)) = (k, x) :: (r ++ [f]).zip (y ++ [v])
      rw [if_neg e3, ih (fun q => h (List.mem_cons_of_mem _ q)) (by simpa using hl)]
end RQ

/-! Rollers as they stand in the heap. -/
namespace RR
open PySem PySem.Spec PyProof.Rows L2 Evl TL RC RD RE RG RP RQ RS
/-- the roller's class, by number -/
def idx : Pr → Nat
  | .wheel _ => 0 | .turned _ _ => 1 | .over _ _ => 2 | .cut _ _ => 3 | .held _ _ => 4 | .taking _ => 5 | .thn _ _ _ => 6 | .dyed _ _ => 7
def keys : Nat → List Str
  | 0 => ["rim_kept"] | 1 => ["inner_kept", "ahead_kept"] | 2 => ["lower_kept", "upper_kept"] | 3 => ["inner_kept", "cam_kept"]
  | 4 => ["inner_kept", "cam_kept", "cam_begins", "cam_length", "sums_kept", "marks_early", "marks_round"]
  | 5 => ["inners_kept", "manies_kept", "lap_kept"] | 6 => ["inner_kept", "many_kept", "other_kept"] | _ => ["inner_kept", "dyes_kept"]
def Ins (H : Hp) (v : V) (C : Addr) (ks : List Str) (vs : List V) : Prop := ∃ a dx, v = .ref a ∧ H a = some (.ins C dx (ks.zip vs))
theorem Ins.ex {H H' : Hp} {v : V} {C : Addr} {ks : List Str} {vs : List V} (h : Ins H v C ks vs) (e : Ex H H') : Ins H' v C ks vs := by
  obtain ⟨a, dx, h1, h2⟩ := h
  exact ⟨a, dx, h1, e _ _ h2⟩
def manies : Ps → List V
  | .nil => []
  | .cons _ n r => .int (n : Int) :: manies r
/-- the sums of a cam -/
def sums (p : Pr) : List V := (List.range ((round p).1 + (round p).2 + 1)).map fun i => V.int (cnt (mark p) i : Int)
def dyesK (ds : List (Nat × Nat)) : List (Key × V) := ds.map fun d => (Sum.inr (S [d.1]), T [d.2])
mutual
def Roll (cs : Nat → Addr) (H : Hp) : Pr → V → Prop
  | .wheel rim, v => Ins H v (cs 0) (keys 0) [T rim]
  | .turned p n, v => ∃ x, Ins H v (cs 1) (keys 1) [x, .int (n : Int)] ∧ Roll cs H p x
  | .over a b, v => ∃ x y, Ins H v (cs 2) (keys 2) [x, y] ∧ Roll cs H a x ∧ Roll cs H b y
  | .cut a b, v => ∃ x y, Ins H v (cs 3) (keys 3) [x, y] ∧ Roll cs H a x ∧ Roll cs H b y
  | .held a b, v => ∃ x y l, Ins H v (cs 4) (keys 4) [x, y, .int ((round b).1 : Int), .int ((round b).2 : Int), .ref l, .int (cnt (mark b) (round b).1 : Int), .int (perR (mark b) (round b).1 (round b).2 : Int)] ∧
      H l = some (.lst (sums b)) ∧ Roll cs H a x ∧ Roll cs H b y
  | .taking ps, v => ∃ xs l m, Ins H v (cs 5) (keys 5) [.ref l, .ref m, .int (total ps : Int)] ∧ H l = some (.lst xs) ∧ H m = some (.lst (manies ps)) ∧ RollT cs H ps xs
  | .thn a n b, v => ∃ x y, Ins H v (cs 6) (keys 6) [x, .int (n : Int), y] ∧ Roll cs H a x ∧ Roll cs H b y
  | .dyed p ds, v => ∃ x d, Ins H v (cs 7) (keys 7) [x, .ref d] ∧ H d = some (.dK (dyesK ds)) ∧ Roll cs H p x
def RollT (cs : Nat → Addr) (H : Hp) : Ps → List V → Prop
  | .nil, xs => xs = []
  | .cons p _ r, xs => ∃ x ys, xs = x :: ys ∧ Roll cs H p x ∧ RollT cs H r ys
end
mutual
theorem Roll.ex {cs : Nat → Addr} {H H' : Hp} (e : Ex H H') : ∀ {p : Pr} {v : V}, Roll cs H p v → Roll cs H' p v
  | .wheel _, _, h => Ins.ex h e
  | .turned _ _, _, ⟨x, h1, h2⟩ => ⟨x, h1.ex e, Roll.ex e h2⟩
  | .over _ _, _, ⟨x, y, h1, h2, h3⟩ => ⟨x, y, h1.ex e, Roll.ex e h2, Roll.ex e h3⟩
  | .cut _ _, _, ⟨x, y, h1, h2, h3⟩ => ⟨x, y, h1.ex e, Roll.ex e h2, Roll.ex e h3⟩
  | .held _ _, _, ⟨x, y, l, h1, h4, h2, h3⟩ => ⟨x, y, l, h1.ex e, e _ _ h4, Roll.ex e h2, Roll.ex e h3⟩
  | .taking _, _, ⟨xs, l, m, h1, h2, h3, h4⟩ => ⟨xs, l, m, h1.ex e, e _ _ h2, e _ _ h3, RollT.ex e h4⟩
  | .thn _ _ _, _, ⟨x, y, h1, h2, h3⟩ => ⟨x, y, h1.ex e, Roll.ex e h2, Roll.ex e h3⟩
  | .dyed _ _, _, ⟨x, d, h1, h2, h3⟩ => ⟨x, d, h1.ex e, e _ _ h2, Roll.ex e h3⟩
theorem RollT.ex {cs : Nat → Addr} {H H' : Hp} (e : Ex H H') : ∀ {ps : Ps} {xs : List V}, RollT cs H ps xs → RollT cs H' ps xs
  | .nil, _, h => h
  | .cons _ _ _, _, ⟨x, ys, h1, h2, h3⟩ => ⟨x, ys, h1, Roll.ex e h2, RollT.ex e h3⟩
end
theorem Roll.ins {cs : Nat → Addr} {H : Hp} {p : Pr} {v : V} (h : Roll cs H p v) : ∃ a dx vs, v = .ref a ∧ H a = some (.ins (cs (idx p)) dx ((keys (idx p)).zip vs)) := by
  cases p with
  | wheel _ => obtain ⟨a, dx, h1, h2⟩ := h; exact ⟨a, dx, _, h1, h2⟩
  | turned _ _ => obtain ⟨_, ⟨a, dx, h1, h2⟩, _⟩ := h; exact ⟨a, dx, _, h1, h2⟩
  | over _ _ => obtain ⟨_, _, ⟨a, dx, h1, h2⟩, _⟩ := h; exact ⟨a, dx, _, h1, h2⟩
  | cut _ _ => obtain ⟨_, _, ⟨a, dx, h1, h2⟩, _⟩ := h; exact ⟨a, dx, _, h1, h2⟩
  | held _ _ => obtain ⟨_, _, _, ⟨a, dx, h1, h2⟩, _⟩ := h; exact ⟨a, dx, _, h1, h2⟩
  | taking _ => obtain ⟨_, _, _, ⟨a, dx, h1, h2⟩, _⟩ := h; exact ⟨a, dx, _, h1, h2⟩
  | thn _ _ _ => obtain ⟨_, _, ⟨a, dx, h1, h2⟩, _⟩ := h; exact ⟨a, dx, _, h1, h2⟩
  | dyed _ _ => obtain ⟨_, _, ⟨a, dx, h1, h2⟩, _⟩ := h; exact ⟨a, dx, _, h1, h2⟩
theorem idx_lt (p : Pr) : idx p < 8 := by cases p <;> simp [idx]
theorem is_0 {p : Pr} (h : idx p = 0) : ∃ rim', p = .wheel rim' := by
  cases p <;> first | exact ⟨_, rfl⟩ | (simp [idx] at h)
theorem is_1 {p : Pr} (h : idx p = 1) : ∃ p' n', p = .turned p' n' := by
  cases p <;> first | exact ⟨_, _, rfl⟩ | (simp [idx] at h)
theorem is_2 {p : Pr} (h : idx p = 2) : ∃ a' b', p = .over a' b' := by
  cases p <;> first | exact ⟨_, _, rfl⟩ | (simp [idx] at h)
theorem is_3 {p : Pr} (h : idx p = 3) : ∃ a' b', p = .cut a' b' := by
  cases p <;> first | exact ⟨_, _, rfl⟩ | (simp [idx] at h)
theorem is_4 {p : Pr} (h : idx p = 4) : ∃ a' b', p = .held a' b' := by
  cases p <;> first | exact ⟨_, _, rfl⟩ | (simp [idx] at h)
theorem is_5 {p : Pr} (h : idx p = 5) : ∃ ps', p = .taking ps' := by
  cases p <;> first | exact ⟨_, rfl⟩ | (simp [idx] at h)
theorem is_6 {p : Pr} (h : idx p = 6) : ∃ a' n' b', p = .thn a' n' b' := by
  cases p <;> first | exact ⟨_, _, _, rfl⟩ | (simp [idx] at h)
theorem is_7 {p : Pr} (h : idx p = 7) : ∃ p' ds', p = .dyed p' ds' := by
  cases p <;> first | exact ⟨_, _, rfl⟩ | (simp [idx] at h)
theorem no_mark : ∀ i : Fin 8, ("mark" : Str) ∉ keys i.val := by decide +kernel
theorem no_round : ∀ i : Fin 8, ("comes_round" : Str) ∉ keys i.val := by decide +kernel
/-! ### how deep; what must hold of numbers -/
mutual
def dep : Pr → Nat
  | .wheel _ => 1
  | .turned p _ => dep p + 1
  | .over a b => max (dep a) (dep b) + 1
  | .cut a b => max (dep a) (dep b) + 1
  | .held a b => max (dep a) (dep b) + 1
  | .taking ps => depT ps + 1
  | .thn a _ b => max (dep a) (dep b) + 1
  | .dyed p _ => dep p + 1
def depT : Ps → Nat
  | .nil => 0
  | .cons p _ r => max (dep p) (depT r)
end
mutual
/-- how far ahead of a place its parts may be asked -/
def ahd : Pr → Nat
  | .wheel _ => 0
  | .turned p n => ahd p + n
  | .over a b => max (ahd a) (ahd b)
  | .cut a b => max (ahd a) (ahd b)
  | .held a b => max (ahd a) (ahd b)
  | .taking ps => ahdT ps
  | .thn a _ b => max (ahd a) (ahd b)
  | .dyed p _ => ahd p
def ahdT : Ps → Nat
  | .nil => 0
  | .cons p _ r => max (ahd p) (ahdT r)
end
mutual
/-- rims that are no texts too long; cams that are short; numbers that are not too great; pairs -/
def Fit : Pr → Prop
  | .wheel rim => 0 < rim.length ∧ rim.length ≤ 100000
  | .turned p n => Fit p ∧ n < lim
  | .over a b => Fit a ∧ Fit b
  | .cut a b => Fit a ∧ Fit b ∧ (round b).1 + (round b).2 ≤ 100000
  | .held a b => Fit a ∧ Fit b ∧ (round b).1 + (round b).2 ≤ 100000
  | .taking ps => FitT ps ∧ 0 < total ps ∧ total ps < lim ∧ (manies ps).length ≤ 1000
  | .thn a n b => Fit a ∧ Fit b ∧ n < lim
  | .dyed p ds => Fit p ∧ ds.length ≤ 100
def FitT : Ps → Prop
  | .nil => True
  | .cons p n r => Fit p ∧ 0 < n ∧ n < lim ∧ FitT r
end
mutual
theorem Fit.ok : ∀ (p : Pr), Fit p → Ok p
  | .wheel _, h => h.1
  | .turned p _, h => Fit.ok p h.1
  | .over a b, h => ⟨Fit.ok a h.1, Fit.ok b h.2⟩
  | .cut a b, h => ⟨Fit.ok a h.1, Fit.ok b h.2.1⟩
  | .held a b, h => ⟨Fit.ok a h.1, Fit.ok b h.2.1⟩
  | .taking ps, h => ⟨FitT.ok ps h.1, h.2.1⟩
  | .thn a _ b, h => ⟨Fit.ok a h.1, Fit.ok b h.2.1⟩
  | .dyed p _, h => Fit.ok p h.1
theorem FitT.ok : ∀ (ps : Ps), FitT ps → OkT ps
  | .nil, _ => trivial
  | .cons p _ r, h => ⟨Fit.ok p h.1, h.2.1, FitT.ok r h.2.2.2⟩
end
/-- what mark promises: at most so deep -/
def sp_mark (K : PySem.W.Frag) (cs : Nat → Addr) (c : Fin 8) (d : Nat) : Sp := fun vs H Q _ => ∃ (p : Pr) (v : V) (i : Nat), vs = [v, .int (i : Int)] ∧
  (idx p = c.val ∧ Roll cs H p v ∧ dep p ≤ d ∧ Fit p ∧ i + ahd p < lim) ∧ RetV (T [mark p i]) H Q
section
variable {K : PySem.W.Frag} {cs : Nat → Addr} {σ : L2.St} {H H' : Hp} {ta te : TE} {v : V} {p : Pr} {d : Nat}
/-- o.mark(e), whatever o is -/
theorem ev_mark {i : Nat} (ho : Ev ta σ H v) (hr : Roll cs H p v) (hd : dep p ≤ d) (hf : Fit p) (hi : Ev te σ H (.int (i : Int))) (hl : i + ahd p < lim) :
    Ev (fun σ H Q => ∃ c : Fin 8, tMeth (cs c.val) "mark" (sp_mark K cs c d) [] E0 ta (tCons te tNil) σ H Q) σ H (T [mark p i]) := fun H1 e Q q => by
  refine ⟨⟨idx p, idx_lt p⟩, ho H1 e _ fun H2 e2 => ?_⟩
  obtain ⟨a, dx, vs, rfl, ha⟩ := (hr.ex (e.trans e2)).ins
  refine ⟨a, dx, _, rfl, ha, lkNo (no_mark ⟨idx p, idx_lt p⟩), hi H2 (e.trans e2) _ fun H3 e3 => ?_⟩
  exact ⟨p, .ref a, i, rfl, ⟨rfl, hr.ex ((e.trans e2).trans e3), hd, hf, hl⟩, fun H4 e4 => q H4 ((e2.trans e3).trans e4)⟩
/-- a, b = a pair -/
theorem q_asgT2 {D : Ends} {tz : TS} {x y : V} {i j : Nat} (h : EvU te σ H [x, y]) (k : ∀ H1, Ex H H1 → tz D ((σ.set i (some x)).set j (some y)) H1) : tSeq (tAsg te (gTup K 2 (gCons (gName i) (gCons (gName j) gNil)))) tz D σ H :=
  h H (Ex.refl H) _ fun q H1 _ e hq => ⟨q, _, rfl, SqT.of hq, rfl, _, _, rfl, _, _, rfl, rfl, k H1 e⟩
theorem eu_divmod {tb : TE} {i j : Nat} (ha : Ev ta σ H (.int (i : Int))) (hb : Ev tb σ H (.int (j : Int))) (h0 : 0 < j) (hi : i < lim) :
    EvU (tCB (fun xs H Q => ∃ i j, xs = [.int i, .int j] ∧ CDivP i j ∧ ∀ p, H p = none → Q (.ref p) (upd H p (.tup [.int (i / j), .int (i % j)]))) (tCons ta (tCons tb tNil))) σ H [.int ((i / j : Nat) : Int), .int ((i % j : Nat) : Int)] := fun H1 e Q q =>
  ha H1 e _ fun H2 e2 => hb H2 (e.trans e2) _ fun H3 e3 => ⟨(i : Int), (j : Int), rfl, lim_divp h0 hi, fun p hp => by
    have e1 : (i : Int) / (j : Int) = ((i / j : Nat) : Int) := (Int.natCast_ediv i j).symm
    have e4 : (i : Int) % (j : Int) = ((i % j : Nat) : Int) := (Int.natCast_emod i j).symm
    rw [e1, e4]
    exact q p _ (fresh_back (e2.trans e3) hp) ((e2.trans e3).trans (Ex.new hp)) upd_same⟩
theorem ev_mulW {tb : TE} {i j : Nat} (ha : Ev ta σ H (.int (i : Int))) (hb : Ev tb σ H (.int (j : Int))) (hi : i < lim) (hj : j < lim) : Ev (tOp (rI CMulW fun i j => .int (i * j)) ta tb) σ H (.int ((i * j : Nat) : Int)) := by
  rw [Int.natCast_mul]
  exact ev_op ha hb (rv_I (lim_mul hi hj))
theorem ev_divW {tb : TE} {i : Int} {j : Nat} (ha : Ev ta σ H (.int i)) (hb : Ev tb σ H (.int (j : Int))) (h0 : 0 < j) (hj : j < lim) : Ev (tOp (rI CDivW fun i j => .int (i / j)) ta tb) σ H (.int (i / (j : Int))) := ev_op ha hb (rv_I (lim_div h0 hj))
theorem ev_addN {tb : TE} {i j : Nat} (ha : Ev ta σ H (.int (i : Int))) (hb : Ev tb σ H (.int (j : Int))) : Ev (tOp (rI0 fun i j => .int (i + j)) ta tb) σ H (.int ((i + j : Nat) : Int)) := ev_is (ev_i0 ha hb) (by simp)
theorem ev_subN {tb : TE} {i j : Nat} (ha : Ev ta σ H (.int (i : Int))) (hb : Ev tb σ H (.int (j : Int))) (h : j ≤ i) : Ev (tOp (rI0 fun i j => .int (i - j)) ta tb) σ H (.int ((i - j : Nat) : Int)) := ev_is (ev_i0 ha hb) (by congr 1; omega)
/-- a number of a list -/
theorem ev_ixL {tb : TE} {l : Addr} {xs : List V} {i : Nat} {x : V} (ha : Ev ta σ H (.ref l)) (hl : H l = some (.lst xs)) (hb : Ev tb σ H (.int (i : Int))) (hx : xs[i]? = some x) : Ev (tOp (rIxL K) ta tb) σ H x := ev_op ha hb (rv_ixL (SqL.of hl) (atI_nat hx))
theorem sums_len (p : Pr) : (sums p).length = (round p).1 + (round p).2 + 1 := by simp [sums]
theorem sums_at {p : Pr} {i : Nat} (h : i < (round p).1 + (round p).2 + 1) : (sums p)[i]? = some (V.int (cnt (mark p) i : Int)) := by simp [sums, h]
/-- the marks of a cam ahead of a place -/
def sp_ahead (K : PySem.W.Frag) (cs : Nat → Addr) : Sp := fun vs H Q _ => ∃ (a b : Pr) (v : V) (i : Nat), vs = [v, .int (i : Int)] ∧ (Roll cs H (.held a b) v ∧ Fit (.held a b) ∧ i < lim) ∧ RetV (.int (cnt (mark b) i : Int)) H Q
theorem ev_ahead {a b : Pr} {i : Nat} (ho : Ev ta σ H v) (hr : Roll cs H (.held a b) v) (hf : Fit (.held a b)) (hi : Ev te σ H (.int (i : Int))) (hl : i < lim) :
    Ev (tMeth (cs 4) "marks_ahead" (sp_ahead K cs) [] E0 ta (tCons te tNil)) σ H (.int (cnt (mark b) i : Int)) := fun H1 e Q q => ho H1 e _ fun H2 e2 => by
  obtain ⟨p, dx, vs, rfl, ha⟩ := (hr.ex (e.trans e2)).ins
  exact ⟨p, dx, _, rfl, ha, lkNo (by show ("marks_ahead" : Str) ∉ keys 4; decide +kernel), hi H2 (e.trans e2) _ fun H3 e3 => ⟨a, b, .ref p, i, rfl, ⟨hr.ex ((e.trans e2).trans e3), hf, hl⟩, fun H4 e4 => q H4 ((e2.trans e3).trans e4)⟩⟩
theorem lim_100k {n : Nat} (h : n ≤ 100000) : n < lim := lim_small (Nat.lt_of_le_of_lt h (by decide))
theorem dye_val (ds : List (Nat × Nat)) (c : Nat) : (valV (dyesK ds) (Sum.inr (S [c]) : Key)).getD (T [c]) = T [dye ds c] := by
  unfold dye
  induction ds with
  | nil => rfl
  | cons q r ih =>
    obtain ⟨a, b⟩ := q
    by_cases e : a = c
    · subst e
      simp [dyesK, valV]
    · have e2 : (c == a) = false := beq_eq_false_iff_ne.mpr fun x => e x.symm
      rw [List.lookup_cons, e2, ← ih]
      have e3 : ¬ ((Sum.inr (S [a]) : Key) = Sum.inr (S [c])) := fun x => e (by
        have := S_inj.mp (Sum.inr.inj x)
        exact (List.cons.inj this).1)
      simp [dyesK, valV, e3]
theorem ev_dye {tk tx : TE} {dd : Addr} {ds : List (Nat × Nat)} {c : Nat} (hd : Ev ta σ H (.ref dd)) (hH : H dd = some (.dK (dyesK ds))) (hk : Ev tk σ H (T [c])) (hx : Ev tx σ H (T [c])) : Ev (tDGet2 ta tk tx) σ H (T [dye ds c]) := fun H1 e Q q =>
  hd H1 e _ fun H2 e2 => ⟨dd, rfl, .inl ⟨_, .inl ((e.trans e2) _ _ hH)⟩, hk H2 (e.trans e2) _ fun H3 e3 => hx H3 ((e.trans e2).trans e3) _ fun H4 e4 => ⟨_, DGet.k (k := Sum.inr (S [c])) ((((e.trans e2).trans e3).trans e4) _ _ hH), by
    rw [dye_val]
    exact q H4 ((e2.trans e3).trans e4)⟩⟩
/-! ### turns -/
theorem manies_len : ∀ (ps : Ps) {cs : Nat → Addr} {H : Hp} {xs : List V}, RollT cs H ps xs → (manies ps).length = xs.length
  | .nil, _, _, _, h => by
    have h' : _ = [] := h
    rw [h']
    rfl
  | .cons p n r, _, _, _, ⟨x, ys, h1, h2, h3⟩ => by
    rw [h1]
    show (manies r).length + 1 = ys.length + 1
    rw [manies_len r h3]
/-- a field -/
theorem ev_fld {C : Addr} {ks fs : List Str} {vs : List V} {f : Str} {i : Nat} {x : V} (cl : Cls K C) (hn : ∀ g ∈ fs, NoAttr K C g) (ho : Ev ta σ H v) (hv : Ins H v C ks vs) (hf : f ∈ fs) (hi : ks.idxOf f = i) (hl : i < ks.length) (hx : vs[i]? = some x) :
    Ev (tFld K ta f) σ H x := fun H1 e Q q => ho H1 e _ fun H2 e2 => by
  obtain ⟨a, dx, rfl, ha⟩ := hv.ex (e.trans e2)
  exact ⟨a, C, dx, _, x, rfl, ha, cl, hn f hf, lk hi hl hx, q H2 e2⟩
end
end RR

/-! How rollers come round: numbers, promises. -/
namespace RT
open PySem PySem.Spec PyProof.Rows L2 Evl TL RC RD RE RG RP RQ RS RR
def RetU (xs : List V) (H : Hp) (Q : VK) : Prop := ∀ p H2, H p = none → Ex H H2 → H2 p = some (.tup xs) → Q (.ref p) H2
theorem RetU.go {xs : List V} {H H' H2 : Hp} {Q : VK} (k : RetU xs H Q) (e : Ex H H') {p : Addr} (hp : H' p = none) (e2 : Ex H' H2) (h : H2 p = some (.tup xs)) : Q (.ref p) H2 := k p H2 (fresh_back e hp) (e.trans e2) h
def rd2 (p : Pr) : List V := [.int ((round p).1 : Int), .int ((round p).2 : Int)]
/-- all that is reckoned on the way is not too great -/
def Bnd (p : Pr) : Prop := (round p).1 < lim ∧ (round p).2 < lim
mutual
def FitR : Pr → Prop
  | .wheel _ => True
  | .turned p n => FitR p
  | .over a b => FitR a ∧ FitR b ∧ (round (.over a b)).2 < lim
  | .cut a b => FitR a ∧ FitR b ∧ (round (.cut a b)).2 < lim
  | .held a b => FitR a ∧ FitR b ∧ Bnd (.held a b) ∧ ahd b + 100000 < lim
  | .taking ps => FitRT ps ∧ Bnd (.taking ps)
  | .thn a n b => FitR a ∧ FitR b ∧ Bnd (.thn a n b)
  | .dyed p _ => FitR p
def FitRT : Ps → Prop
  | .nil => True
  | .cons p _ r => FitR p ∧ FitRT r
end
theorem lim_wheel {n : Nat} (h : n ≤ 100000) : n < lim := lim_100k h
theorem bnd : ∀ (p : Pr), Fit p → FitR p → Bnd p
  | .wheel rim, h, _ => ⟨lim_pos, lim_100k h.2⟩
  | .turned p n, h, r => by
    have := bnd p h.1 r
    exact ⟨Nat.lt_of_le_of_lt (Nat.sub_le _ _) this.1, this.2⟩
  | .over a b, h, r => ⟨by
      have h1 := bnd a h.1 r.1
      have h2 := bnd b h.2 r.2.1
      show max (round a).1 (round b).1 < lim
      have := h1.1
      have := h2.1
      omega, r.2.2⟩
  | .cut a b, h, r => ⟨by
      have h1 := bnd a h.1 r.1
      have h2 := bnd b h.2.1 r.2.1
      show max (round a).1 (round b).1 < lim
      have := h1.1
      have := h2.1
      omega, r.2.2⟩
  | .held a b, _, r => r.2.2.1
  | .taking ps, _, r => r.2
  | .thn a n b, _, r => r.2.2
  | .dyed p _, h, r => bnd p h.1 r
theorem up_le {a b : Nat} (h : 0 < b) : up a b ≤ a := by
  unfold up
  rcases Nat.eq_zero_or_pos a with e | e
  · subst e
    rw [Nat.zero_add, Nat.div_eq_of_lt (by omega)]
    exact Nat.le_refl _
  · refine (Nat.div_le_iff_le_mul h).mpr ?_
    have : a * 1 ≤ a * b := Nat.mul_le_mul_left _ h
    have h2 : (a - 1) * 1 ≤ (a - 1) * b := Nat.mul_le_mul_left _ h
    have h3 : a * b = (a - 1) * b + b := by
      obtain ⟨c, rfl⟩ := Nat.exists_eq_succ_of_ne_zero (Nat.pos_iff_ne_zero.mp e)
      rw [Nat.succ_mul]
      rfl
    omega
theorem up_int (a : Nat) {b : Nat} (h : 0 < b) : -(-(a : Int) / (b : Int)) = ((up a b : Nat) : Int) := by
  have hb : (0 : Int) < b := by omega
  have h2 := Nat.div_add_mod (a + b - 1) b
  have h3 := Nat.mod_lt (a + b - 1) h
  have h4 : a ≤ up a b * b := up_mul h
  have h5 : up a b * b ≤ a + b - 1 := by
    have : up a b * b = (a + b - 1) / b * b := rfl
    rw [Nat.mul_comm] at h2
    omega
  have hm : (b : Int) * ((up a b : Nat) : Int) = ((up a b * b : Nat) : Int) := by rw [Int.natCast_mul, Int.mul_comm]
  have h1 : -(a : Int) / (b : Int) = -((up a b : Nat) : Int) := by
    refine ((Int.ediv_emod_unique (a := -(a : Int)) (r := ((up a b * b - a : Nat) : Int)) (q := -((up a b : Nat) : Int)) hb).mpr ⟨?_, ?_, ?_⟩).1
    · rw [Int.mul_neg, hm]
      omega
    · omega
    · omega
  rw [h1, Int.neg_neg]
section
variable {K : PySem.W.Frag} {cs : Nat → Addr} {σ : L2.St} {H H' : Hp} {ta tb te : TE} {v : V} {p : Pr} {d : Nat} {D : Ends} {tz : TS}
theorem eu_call {sp : Sp} {dvs vs xs : List V} {E : XK} {ta : TA} (h : EvA ta σ H vs) (hs : ∀ H1, Ex H H1 → ∀ Q, RetU xs H1 Q → ∀ E : XK, sp (vs ++ dvs) H1 Q E) : EvU (tCall sp dvs E ta) σ H xs := fun H1 e Q q =>
  h H1 e _ fun H2 e2 => hs H2 (e.trans e2) _ (fun p H3 hp e3 h3 => q p H3 (fresh_back e2 hp) (e2.trans e3) h3) _
theorem ev_sum {l : Addr} {ns : List Int} (h : Ev te σ H (.ref l)) (hl : SqL K H l (ns.map V.int)) : Ev (tCB (rSum K) (tCons te tNil)) σ H (.int ns.sum) :=
  ev_cb (ea_cons h ea_nil) fun H1 e Q q => ⟨l, ns, rfl, ex_l e hl, q H1 (Ex.refl H1)⟩
/-- xs.append(e), of a long list -/
theorem s_appB {l : Addr} {xs : List V} (hl : H l = some (.lst xs)) (ha : Ev ta σ H (.ref l)) (h : Ev te σ H v) (hz : xs.length < 16777216) (k : ∀ H1, Ex H H1 → D.nx σ (upd H1 l (.lst (xs ++ [v])))) : tDrop (tBM K "list" rAppend ta (tCons te tNil)) D σ H := ha H (Ex.refl H) _ fun H1 e1 =>
  ⟨Or.inl ⟨rfl, xs, sq_of (e1 l _ hl)⟩, h H1 e1 _ fun H2 e2 => ⟨l, xs, v, rfl, rfl, e2 l _ (e1 l _ hl), by rw [big]; exact hz, k H2 (e1.trans e2)⟩⟩
theorem q_forZip {ta : TA} {tu : TS} {g : TG} {a b : Addr} {xs ys : List V} (h : EvA ta σ H [.ref a, .ref b]) (hx : H a = some (.lst xs)) (hy : H b = some (.lst ys)) (hl : xs.length = ys.length) (Pv : Nat → L2.St → Hp → Prop) (h0 : ∀ H1, Ex H H1 → Pv 0 σ H1)
    (hq : ∀ i σ' H', Pv i σ' H' → Ex H H')
    (hs : ∀ (i : Nat) (x y : V) (T : Addr) (σ' : L2.St) (H' : Hp), xs[i]? = some x → ys[i]? = some y → Pv i σ' H' → H' T = none → g (.ref T) σ' (upd H' T (.tup [x, y])) fun σ2 H2 => tu { D with nx := Pv (i + 1), ct := Pv (i + 1), bk := tz D } σ2 H2)
    (hd : ∀ σ' H', Pv xs.length σ' H' → tz D σ' H') : tSeq (tFor (iZip K ta) g tu) tz D σ H :=
  h H (Ex.refl H) _ fun H1 e => ⟨a, b, xs, ys, rfl, SqL.of (e _ _ hx), SqL.of (e _ _ hy), RZ.for_zipL (D := { D with nx := tz D }) hl Pv (h0 H1 e) (fun i σ' H' p => ⟨SqL.of (hq i σ' H' p _ _ hx), SqL.of (hq i σ' H' p _ _ hy)⟩) hs hd⟩
theorem ev_maxN {i j : Nat} (ha : Ev ta σ H (.int (i : Int))) (hb : Ev tb σ H (.int (j : Int))) : Ev (tCB (fun xs H Q => ∃ i j, xs = [.int i, .int j] ∧ Q (.int (if j > i then j else i)) H) (tCons ta (tCons tb tNil))) σ H (.int ((max i j : Nat) : Int)) := fun H1 e Q q =>
  ha H1 e _ fun H2 e2 => hb H2 (e.trans e2) _ fun H3 e3 => ⟨(i : Int), (j : Int), rfl, by
    have e4 : (if (j : Int) > (i : Int) then (j : Int) else (i : Int)) = ((max i j : Nat) : Int) := by split <;> omega
    rw [e4]
    exact q H3 (e2.trans e3)⟩
/-- max(0, a - b) -/
theorem ev_max0 {i j : Nat} {t0 : TE} (h0 : Ev t0 σ H (.int 0)) (ha : Ev ta σ H (.int (i : Int))) (hb : Ev tb σ H (.int (j : Int))) :
    Ev (tCB (fun xs H Q => ∃ i j, xs = [.int i, .int j] ∧ Q (.int (if j > i then j else i)) H) (tCons t0 (tCons (tOp (rI0 fun i j => .int (i - j)) ta tb) tNil))) σ H (.int ((i - j : Nat) : Int)) := fun H1 e Q q =>
  h0 H1 e _ fun H2 e2 => ha H2 (e.trans e2) _ fun H3 e3 => hb H3 ((e.trans e2).trans e3) _ fun H4 e4 => ⟨(i : Int), (j : Int), rfl, rfl, 0, (i : Int) - (j : Int), rfl, by
    have e5 : (if (i : Int) - (j : Int) > 0 then (i : Int) - (j : Int) else 0) = ((i - j : Nat) : Int) := by split <;> omega
    rw [e5]
    exact q H4 ((e2.trans e3).trans e4)⟩
/-- what comes_round promises -/
def sp_round (K : PySem.W.Frag) (cs : Nat → Addr) (c : Fin 8) (d : Nat) : Sp := fun vs H Q _ => ∃ (p : Pr) (v : V), vs = [v] ∧ (idx p = c.val ∧ Roll cs H p v ∧ dep p ≤ d ∧ Fit p ∧ FitR p) ∧ RetU (rd2 p) H Q
theorem eu_round (ho : Ev ta σ H v) (hr : Roll cs H p v) (hd : dep p ≤ d) (hf : Fit p) (hR : FitR p) :
    EvU (fun σ H Q => ∃ c : Fin 8, tMeth (cs c.val) "comes_round" (sp_round K cs c d) [] E0 ta tNil σ H Q) σ H (rd2 p) := fun H1 e Q q => by
  refine ⟨⟨idx p, idx_lt p⟩, ho H1 e _ fun H2 e2 => ?_⟩
  obtain ⟨a, dx, vs, rfl, ha⟩ := (hr.ex (e.trans e2)).ins
  exact ⟨a, dx, _, rfl, ha, lkNo (no_round ⟨idx p, idx_lt p⟩), p, .ref a, rfl, ⟨rfl, hr.ex (e.trans e2), hd, hf, hR⟩, fun q' H3 hp e3 h3 => q q' H3 (fresh_back e2 hp) (e2.trans e3) h3⟩
def sp_common_part (K : PySem.W.Frag) : Sp := fun vs H Q _ => ∃ (a b : Nat), vs = [.int (a : Int), .int (b : Int)] ∧ RetV (.int (Nat.gcd a b : Int)) H Q
def sp_common_multiple (K : PySem.W.Frag) : Sp := fun vs H Q _ => ∃ (a b : Nat), vs = [.int (a : Int), .int (b : Int)] ∧ (0 < a ∧ 0 < b ∧ a < lim ∧ b < lim) ∧ RetV (.int (Nat.lcm a b : Int)) H Q
def sp_rounded_up (K : PySem.W.Frag) : Sp := fun vs H Q _ => ∃ (a b : Nat), vs = [.int (a : Int), .int (b : Int)] ∧ (0 < b ∧ b < lim) ∧ RetV (.int (up a b : Int)) H Q
def both (a b : Pr) : List V := [.int ((max (round a).1 (round b).1 : Nat) : Int), .int (Nat.lcm (round a).2 (round b).2 : Int)]
def sp_both_round (K : PySem.W.Frag) (cs : Nat → Addr) (d : Nat) : Sp := fun vs H Q _ => ∃ (a b : Pr) (x y : V), vs = [x, y] ∧ (Roll cs H a x ∧ Roll cs H b y ∧ dep a ≤ d ∧ dep b ≤ d ∧ Fit a ∧ Fit b ∧ FitR a ∧ FitR b) ∧ RetU (both a b) H Q
def sp_need_short (K : PySem.W.Frag) (cs : Nat → Addr) (d : Nat) : Sp := fun vs H Q _ => ∃ (p : Pr) (v : V), vs = [v] ∧ (Roll cs H p v ∧ dep p ≤ d ∧ Fit p ∧ FitR p ∧ (round p).1 + (round p).2 ≤ 100000) ∧ RetV .non H Q
end
end RT

/-! A tuple without a dict of its own; dict() of one that holds pairs. -/
namespace RDI
open PySem PySem.Spec PyProof.Rows L2 Evl
def PlT (H : Hp) (a : Addr) (xs : List V) : Prop := ∃ o : Obj, o.dict = none ∧ H a = some (.frz o (.tup xs))
theorem PlT.ex {H H' : Hp} {a : Addr} {xs : List V} (e : Ex H H') (h : PlT H a xs) : PlT H' a xs := h.elim fun o g => ⟨o, g.1, e _ _ g.2⟩
theorem PlT.sq {K : PySem.W.Frag} {H : Hp} {a : Addr} {xs : List V} (h : PlT H a xs) : SqT K H a xs := h.elim fun o g => .inl (.inr ⟨o, g.2⟩)
theorem some_list {α : Type} [Inhabited α] {n : Nat} {P : Nat → α → Prop} (h : ∀ j, j < n → ∃ u, P j u) : ∃ us : List α, us.length = n ∧ ∀ (j : Nat) u, us[j]? = some u → P j u := by
  have h' : ∀ j, ∃ u, j < n → P j u := fun j => by
    by_cases c : j < n
    · obtain ⟨u, hu⟩ := h j c
      exact ⟨u, fun _ => hu⟩
    · exact ⟨default, fun z => absurd z c⟩
  obtain ⟨f, hf⟩ := Classical.axiomOfChoice h'
  refine ⟨(List.range n).map f, by simp, fun j u hu => ?_⟩
  rw [List.getElem?_map] at hu
  obtain ⟨i, hi, rfl⟩ := Option.map_eq_some_iff.mp hu
  rw [List.getElem?_range (by
    have := (List.getElem?_eq_some_iff.mp hi).1
    simpa using this)] at hi
  cases hi
  rename_i hj
  exact hf j (by
    have := hj
    by_cases c : j < n
    · exact c
    · simp [List.getElem?_map, c] at hu)
section
variable {X : Cx} {a : Expr} {ta : TE}
/-- tuple(x) of a list: a new plain tuple -/
def kTupF (K : PySem.W.Frag) (x : V) (H : Hp) (Q : VK) : Prop := ∃ p xs, x = .ref p ∧ SqL K H p xs ∧ ∀ (q : Addr) (o : Obj), H q = none → o.dict = none → Q (.ref q) (upd H q (.frz o (.tup xs)))
theorem rl_tupF (pins : List (Addr × Obj)) (s : Shared) (σ : L2.St) (H : Hp) (x : V) (v : Value) (Q : VK) (I : Inv X pins σ H s) (r : RelV x v) (h : kTupF X.K x H Q) : wpAny (model X.prog X.w) X.A (call (.type "tuple") [v]) (EP X pins σ Q) X.xe s := by
  obtain ⟨p, xs, rfl, hs, q⟩ := h
  obtain rfl : v = .ref p := r
  obtain ⟨its, rv, pl, hz⟩ := I.list hs
  refine call_tuple_list pl.isList (fun h' hk => ?_) (by rw [List.size_toArray, ← rv.length]; exact hz)
  have I1 : Inv X pins σ H { s with heap := h' } := I.kept (t' := s.toks) hk
  have I2 := I1.laid (a := h'.objs.size) (o := .frz { cls := .type "tuple", data := .seq its.toArray } (.tup xs)) (h' := h'.push { cls := .type "tuple", data := .seq its.toArray }) (t' := s.toks) (fun b o e => Heap.get?_push_of_some _ e) (Nat.le_refl _)
    (show ObjOk X.prog X.w _ _ _ (.frz _ (.tup xs)) from ⟨Heap.get?_push_size _ rfl, hz, its, rv, IsTup.new _ _⟩)
  exact ⟨.ref h'.objs.size, _, I2, rfl, q _ _ (I1.hok.fresh (Nat.le_refl _)) rfl⟩
theorem pe_tupF {p pos : Pos} (hg : Gl X "tuple") (hm : X.mg "tuple" = none) (ha : PE X a ta) (na : starEach [a] X.env = (false, eval a X.env) :: starEach [] X.env := by rfl) : PE X (.Call (.Name "tuple" p) [a] [] pos) (tThen ta (kTupF X.K)) :=
  ⟨fun pins s σ H Q I h => Call_ (ld_blt I hg hm boot_tuple (PyProof.Rows.callWith_type1 (one_arg ha I h (fun v s2 x H2 I2 r q => rl_tupF pins s2 σ H2 x v Q I2 r q) na) na))⟩
def rDictT (K : PySem.W.Frag) : List V → Hp → VK → Prop := fun xs H Q => ∃ (a : Addr) (ps : List Addr) (kvs : List (Key × V)), xs = [.ref a] ∧ PlT H a (ps.map V.ref) ∧ Paired (fun p kv => SqT K H p [kV kv.1, kv.2]) ps kvs ∧
    ∀ p, H p = none → Q (.ref p) (upd H p (.dK (mergeK [] kvs)))
theorem call_dictT (hcalm : X.calm = true) : CallR X (.type "dict") (rDictT X.K) := by
  intro pins s σ H xs us Q I r q
  obtain ⟨a, ps, kvs, ex, ⟨o, od, hq⟩, hp, q⟩ := q
  subst ex
  obtain ⟨u, eu, rx⟩ := vals1 r
  subst eu
  cases rx
  obtain ⟨hget, hz, its, rv, o', hget', hc, n, hdat⟩ := I.hok a _ hq
  obtain rfl : o' = o := by
    rw [hget] at hget'
    exact (Option.some.inj hget').symm
  have ei := refs_at rv
  subst ei
  rw [List.length_map] at hz
  obtain ⟨prs, rel, hl, hpr⟩ := pairs_of I hp
  obtain ⟨ks, hks, hk⟩ : ∃ ks : List Value, ks.length = prs.length ∧ ∀ (j : Nat) u, ks[j]? = some u → ∃ b q, ps[j]? = some b ∧ prs[j]? = some q ∧ IsTup s.heap b #[u, q.2] ∧ keyIs q.1 u = true :=
    @some_list Value ⟨.none⟩ _ _ fun j hj => by
      obtain ⟨b, u, e1, e2, e3⟩ := hpr j _ (List.getElem?_eq_getElem hj)
      exact ⟨u, b, _, e1, List.getElem?_eq_getElem hj, e2, e3⟩
  have hzip : ∀ (j : Nat) k v, (ks.zip (prs.map Prod.snd))[j]? = some (k, v) → ∃ b q, ps[j]? = some b ∧ prs[j]? = some q ∧ q.2 = v ∧ IsTup s.heap b #[k, v] ∧ keyIs q.1 k = true := fun j k v e => by
    rw [List.getElem?_zip_eq_some] at e
    obtain ⟨e1, e2⟩ := e
    obtain ⟨b, q, g1, g2, g3, g4⟩ := hk j k e1
    rw [List.getElem?_map, g2] at e2
    have e3 : q.2 = v := Option.some.inj e2
    exact ⟨b, q, g1, g2, e3, by rw [← e3]; exact g3, g4⟩
  have hzl : (ks.zip (prs.map Prod.snd)).length = prs.length := by
    rw [List.length_zip, List.length_map, hks, Nat.min_self]
  refine PySem.call_dict_pairs (knd := mixKind X.prog X.w) (kvs := prs) (PairArg.tuple a (ps.map Value.ref).toArray (fun j => ps.getD j 0) (ks.zip (prs.map Prod.snd))) (I.ok.hd hcalm) ⟨⟨o', n, hget, hc, od, hdat⟩, ?_, fun j k v e => ?_⟩ ⟨hzl.symm, fun i key v e => ?_⟩ ?_ fun h' tk hd' k => ?_
  · rw [List.size_toArray, List.length_map, hzl, hl]
  · obtain ⟨b, q, g1, g2, g3, g4, g5⟩ := hzip j k v e
    refine ⟨by simp [g1, List.getD], .inl ?_⟩
    have : ps.getD j 0 = b := by simp [List.getD, g1]
    show s.heap.IsTuple (ps.getD j 0) #[k, v]
    rw [this]
    exact g4
  · obtain ⟨b, q, g1, g2, g3, g4, g5⟩ := hzip i key v e
    exact ⟨q.1, by rw [g2, ← g3], g5⟩
  · rw [hzl, hl]
    exact hz
  · have hm : (s.heap.objs.size == sysModules) = false := beq_eq_false_iff_ne.mpr (Nat.ne_of_gt I.big)
    have hlen : (mergeK [] kvs).length ≤ sizeLine := by
      refine Nat.le_trans (length_mergeK kvs []) ?_
      rw [List.length_nil, Nat.zero_add, rel.length, hl]
      exact hz
    exact ⟨.ref s.heap.objs.size, upd H s.heap.objs.size (.dK (mergeK [] kvs)), I.laid (t' := tk) (fun b o e => k b o (by simp) e) (Nat.le_refl _) (show ObjOk X.prog X.w _ _ _ (.dK (mergeK [] kvs)) from ⟨hlen, hm, merged [] prs, KV.merge rel .nil, hd'⟩), rfl, q _ (I.hok.fresh (Nat.le_refl _))⟩
end
end RDI

/-! Rollers made. -/
namespace RU
open PySem PySem.Spec PyProof.Rows L2 Evl RDI TL RC RD RE RG RP RQ RS RR RT
/-- all that is not a bare new instance is as it was -/
def Kp (H H' : Hp) : Prop := ∀ a o, H a = some o → (∀ C dx, o ≠ .ins C dx []) → H' a = some o
theorem Kp.of {H H' : Hp} {x : Addr} {C dx : Addr} (hx : H x = some (.ins C dx [])) (b : But x H H') : Kp H H' := fun a o h n => b a o (fun e => by
  subst e
  rw [hx] at h
  exact n C dx (Option.some.inj h).symm) h
theorem Kp.ex {H H' : Hp} (e : Ex H H') : Kp H H' := fun a o h _ => e a o h
theorem Ins.kp {H H' : Hp} {v : V} {C : Addr} {ks : List Str} {vs : List V} (h : Ins H v C ks vs) (k : Kp H H') (hn : ks.zip vs ≠ []) : Ins H' v C ks vs := by
  obtain ⟨a, dx, h1, h2⟩ := h
  exact ⟨a, dx, h1, k _ _ h2 fun C dx e => by injection e with _ _ e; exact hn e⟩
mutual
theorem Roll.kp {cs : Nat → Addr} {H H' : Hp} (e : Kp H H') : ∀ {p : Pr} {v : V}, Roll cs H p v → Roll cs H' p v
  | .wheel _, _, h => Ins.kp h e (fun z => nomatch z)
  | .turned _ _, _, ⟨x, h1, h2⟩ => ⟨x, Ins.kp h1 e (fun z => nomatch z), Roll.kp e h2⟩
  | .over _ _, _, ⟨x, y, h1, h2, h3⟩ => ⟨x, y, Ins.kp h1 e (fun z => nomatch z), Roll.kp e h2, Roll.kp e h3⟩
  | .cut _ _, _, ⟨x, y, h1, h2, h3⟩ => ⟨x, y, Ins.kp h1 e (fun z => nomatch z), Roll.kp e h2, Roll.kp e h3⟩
  | .held _ _, _, ⟨x, y, l, h1, h4, h2, h3⟩ => ⟨x, y, l, Ins.kp h1 e (fun z => nomatch z), e _ _ h4 (fun _ _ z => nomatch z), Roll.kp e h2, Roll.kp e h3⟩
  | .taking _, _, ⟨xs, l, m, h1, h2, h3, h4⟩ => ⟨xs, l, m, Ins.kp h1 e (fun z => nomatch z), e _ _ h2 (fun _ _ z => nomatch z), e _ _ h3 (fun _ _ z => nomatch z), RollT.kp e h4⟩
  | .thn _ _ _, _, ⟨x, y, h1, h2, h3⟩ => ⟨x, y, Ins.kp h1 e (fun z => nomatch z), Roll.kp e h2, Roll.kp e h3⟩
  | .dyed _ _, _, ⟨x, d, h1, h2, h3⟩ => ⟨x, d, Ins.kp h1 e (fun z => nomatch z), e _ _ h2 (fun _ _ z => nomatch z), Roll.kp e h3⟩
theorem RollT.kp {cs : Nat → Addr} {H H' : Hp} (e : Kp H H') : ∀ {ps : Ps} {xs : List V}, RollT cs H ps xs → RollT cs H' ps xs
  | .nil, _, h => h
  | .cons _ _ _, _, ⟨x, ys, h1, h2, h3⟩ => ⟨x, ys, h1, Roll.kp e h2, RollT.kp e h3⟩
end
/-- what e evaluates to, told by a property of the heap -/
def EvP (te : TE) (σ : L2.St) (H : Hp) (P : V → Hp → Prop) : Prop := ∀ H1, Ex H H1 → ∀ Q : VK, (∀ v H2, Ex H1 H2 → P v H2 → Q v H2) → te σ H1 Q
/-- the arguments of a class, for a press: what stands in the heap -/
def Args (cs : Nat → Addr) (H : Hp) : Pr → List V → Prop
  | .wheel rim, ws => ws = [T rim]
  | .turned p n, ws => ∃ x, ws = [x, .int (n : Int)] ∧ Roll cs H p x
  | .over a b, ws => ∃ x y, ws = [x, y] ∧ Roll cs H a x ∧ Roll cs H b y
  | .cut a b, ws => ∃ x y, ws = [x, y] ∧ Roll cs H a x ∧ Roll cs H b y
  | .held a b, ws => ∃ x y, ws = [x, y] ∧ Roll cs H a x ∧ Roll cs H b y
  | .taking ps, ws => ∃ xs l m, ws = [.ref l, .ref m] ∧ H l = some (.lst xs) ∧ H m = some (.lst (manies ps)) ∧ RollT cs H ps xs
  | .thn a n b, ws => ∃ x y, ws = [x, .int (n : Int), y] ∧ Roll cs H a x ∧ Roll cs H b y
  | .dyed p _, ws => ∃ (x : V) (d : Addr), ws = [x, .ref d] ∧ Roll cs H p x
theorem Args.len {cs : Nat → Addr} {H : Hp} {p : Pr} {ws : List V} (h : Args cs H p ws) : ws.length = match idx p with | 0 => 1 | 6 => 3 | _ => 2 := by
  cases p <;> first | (obtain ⟨_, _, _, rfl, _⟩ := h; rfl) | (obtain ⟨_, _, rfl, _⟩ := h; rfl) | (obtain ⟨_, rfl, _⟩ := h; rfl) | (subst h; rfl)
/-- pairs of a dye, in the heap -/
def DyP (K : PySem.W.Frag) (H : Hp) (qs : List Addr) (ds : List (Nat × Nat)) : Prop := qs.length = ds.length ∧ ∀ (i : Nat) (q : Addr), qs[i]? = some q → ∃ (c e : Nat), ds[i]? = some (c, e) ∧ SqT K H q [T [c], T [e]]
theorem DyP.ex {K : PySem.W.Frag} {H H' : Hp} {qs : List Addr} {ds : List (Nat × Nat)} (e : Ex H H') (h : DyP K H qs ds) : DyP K H' qs ds := ⟨h.1, fun i q hq => by obtain ⟨c, d, g1, g2⟩ := h.2 i q hq; exact ⟨c, d, g1, ex_t e g2⟩⟩
/-- what __init__ of the dyed promises -/
def sp_init7 (K : PySem.W.Frag) (cs : Nat → Addr) : Sp := fun vs H Q _ => ∃ (p : Pr) (ds : List (Nat × Nat)) (x dx t : Addr) (y : V) (qs : List Addr), vs = [.ref x, y, .ref t] ∧
  (H x = some (.ins (cs 7) dx []) ∧ PlT H t (qs.map V.ref) ∧ DyP K H qs ds ∧ (ds.map Prod.fst).Nodup) ∧
  ∀ H', But x H H' → (∀ G, Roll cs G p y → (∀ a o, (a = x ∨ H a = none) → H' a = some o → G a = some o) → Roll cs G (.dyed p ds) (.ref x)) → Q .non H'
/-- what __init__ promises -/
def sp_init (K : PySem.W.Frag) (cs : Nat → Addr) (c : Nat) (d : Nat) : Sp := fun vs H Q _ => ∃ (p : Pr) (x dx : Addr) (ws : List V), vs = .ref x :: ws ∧
  (idx p = c ∧ H x = some (.ins (cs c) dx []) ∧ Args cs H p ws ∧ dep p ≤ d + 1 ∧ Fit p ∧ FitR p) ∧
  ∀ H', But x H H' → (∀ G, Args cs G p ws → (∀ a o, (a = x ∨ H a = none) → H' a = some o → G a = some o) → Roll cs G p (.ref x)) → Q .non H'
section
variable {K : PySem.W.Frag} {cs : Nat → Addr} {σ : L2.St} {H H' : Hp} {ta tv te : TE} {y : V} {D : Ends} {tz : TS} {x dx C : Addr} {ks : List Str} {vs : List V} {f : Str}
theorem s_fld (cl : Cls K C) (na : NoAttr K C f) (hx : H x = some (.ins C dx (ks.zip vs))) (hl : ks.length = vs.length) (hn : f ∉ ks) (hz : ks.length < 100) (hv : Ev tv σ H y) (ho : ∀ H1, Ev ta σ H1 (.ref x))
    (k : ∀ H1, Ex H H1 → D.nx σ (upd H1 x (.ins C dx ((ks ++ [f]).zip (vs ++ [y]))))) : sFld K ta tv f D σ H :=
  hv H (Ex.refl H) _ fun H1 e => ho H1 H1 (Ex.refl H1) _ fun H2 e2 => ⟨x, C, dx, _, rfl, (e.trans e2) _ _ hx, cl, na, by rw [List.length_zip]; omega, by
    rw [putF_new hn hl]
    exact k H2 (e.trans e2)⟩
theorem q_fld (cl : Cls K C) (na : NoAttr K C f) (hx : H x = some (.ins C dx (ks.zip vs))) (hl : ks.length = vs.length) (hn : f ∉ ks) (hz : ks.length < 100) (hv : Ev tv σ H y) (ho : ∀ H1, Ev ta σ H1 (.ref x))
    (k : ∀ H1, Ex H H1 → tz D σ (upd H1 x (.ins C dx ((ks ++ [f]).zip (vs ++ [y]))))) : tSeq (sFld K ta tv f) tz D σ H := s_fld (D := { D with nx := tz D }) cl na hx hl hn hz hv ho k
/-- a new list stored -/
theorem q_fldL {xs : List V} (cl : Cls K C) (na : NoAttr K C f) (hx : H x = some (.ins C dx (ks.zip vs))) (hl : ks.length = vs.length) (hn : f ∉ ks) (hz : ks.length < 100) (hv : EvL tv σ H xs) (ho : ∀ H1, Ev ta σ H1 (.ref x))
    (k : ∀ p H1, H p = none → Ex H H1 → H1 p = some (.lst xs) → tz D σ (upd H1 x (.ins C dx ((ks ++ [f]).zip (vs ++ [.ref p]))))) : tSeq (sFld K ta tv f) tz D σ H :=
  hv H (Ex.refl H) _ fun p H1 hp e h1 => ho H1 H1 (Ex.refl H1) _ fun H2 e2 => ⟨x, C, dx, _, rfl, (e.trans e2) _ _ hx, cl, na, by rw [List.length_zip]; omega, by
    rw [putF_new hn hl]
    exact k p H2 hp (e.trans e2) (e2 _ _ h1)⟩
/-- two fields at once -/
theorem q_asgT2F {f1 f2 : Str} {y1 y2 : V} (cl : Cls K C) (na1 : NoAttr K C f1) (na2 : NoAttr K C f2) (hx : H x = some (.ins C dx (ks.zip vs))) (hl : ks.length = vs.length) (hn1 : f1 ∉ ks) (hn2 : f2 ∉ ks ++ [f1]) (hz : ks.length < 100)
    (hv : EvU te σ H [y1, y2]) (ho : ∀ H1, Ev ta σ H1 (.ref x)) (k : ∀ H1, But x H H1 → H1 x = some (.ins C dx ((ks ++ [f1] ++ [f2]).zip (vs ++ [y1] ++ [y2]))) → tz D σ H1) :
    tSeq (tAsg te (gTup K 2 (gCons (gFld K ta f1) (gCons (gFld K ta f2) gNil)))) tz D σ H :=
  hv H (Ex.refl H) _ fun p H1 hp e h1 => ⟨p, _, rfl, SqT.of h1, rfl, _, _, rfl, ho H1 H1 (Ex.refl H1) _ fun H2 e2 => ⟨x, C, dx, _, rfl, (e.trans e2) _ _ hx, cl, na1, by rw [List.length_zip]; omega, by
    rw [putF_new hn1 hl]
    refine ⟨_, _, rfl, ho _ _ (Ex.refl _) _ fun H3 e3 => ⟨x, C, dx, _, rfl, e3 _ _ upd_same, cl, na2, by rw [List.length_zip, List.length_append]; show min (ks.length + 1) _ < 1000; omega, rfl, ?_⟩⟩
    rw [putF_new hn2 (by rw [List.length_append, List.length_append, hl]; rfl)]
    exact k _ ((((But.ex (e.trans e2)).put).trans (But.ex e3)).put) upd_same⟩⟩
theorem atI_last {xs : List V} {y : V} (h : xs.getLast? = some y) : atI xs (-1) = some y := by
  have hn : xs ≠ [] := fun e => by rw [e] at h; cases h
  have hp : 0 < xs.length := List.length_pos_iff.mpr hn
  have hi : ixN xs.length (-1) = some (xs.length - 1) := by
    unfold ixN
    simp
    omega
  unfold atI
  rw [hi]
  show xs[xs.length - 1]? = some y
  rw [← h, List.getLast?_eq_getElem?]
theorem ev_ixLast {tb : TE} {l : Addr} {xs : List V} {y : V} (ha : Ev ta σ H (.ref l)) (hl : H l = some (.lst xs)) (hb : Ev tb σ H (.int (-1))) (h : xs.getLast? = some y) : Ev (tOp (rIxL K) ta tb) σ H y := ev_op ha hb (rv_ixL (SqL.of hl) (atI_last h))
theorem ev_intB {b : Bool} (h : Ev te σ H (.bl b)) : Ev (tCB (fun xs H Q => (∃ i, xs = [.int i] ∧ Q (.int i) H) ∨ ∃ k, xs = [.bl k] ∧ Q (.int (if k then 1 else 0)) H) (tCons te tNil)) σ H (.int (if b then 1 else 0)) :=
  ev_cb (ea_cons h ea_nil) fun H1 _ Q q => .inr ⟨b, rfl, q H1 (Ex.refl H1)⟩
def sumsTo (p : Pr) (n : Nat) : List V := (List.range (n + 1)).map fun i => V.int (cnt (mark p) i : Int)
theorem sumsTo_last (p : Pr) (n : Nat) : (sumsTo p n).getLast? = some (V.int (cnt (mark p) n : Int)) := by
  unfold sumsTo
  rw [List.range_succ, List.map_append]
  simp
theorem sumsTo_succ (p : Pr) (n : Nat) : sumsTo p (n + 1) = sumsTo p n ++ [V.int (cnt (mark p) (n + 1) : Int)] := by
  unfold sumsTo
  rw [List.range_succ, List.map_append]
  rfl
theorem sumsTo_len (p : Pr) (n : Nat) : (sumsTo p n).length = n + 1 := by simp [sumsTo]
/-- what is in H' and was not in H0 -/
def new (H0 H' : Hp) : Hp := fun a => match H0 a with | none => H' a | some _ => none
theorem new_some {H0 H' : Hp} {a : Addr} {o : HO} : new H0 H' a = some o ↔ H0 a = none ∧ H' a = some o := by
  unfold new
  cases h : H0 a with
  | none => simp
  | some _ => simp
theorem new_ex {H0 H H' : Hp} (e : Ex H H') : Ex (new H0 H) (new H0 H') := fun a o h => new_some.mpr ⟨(new_some.mp h).1, e _ _ (new_some.mp h).2⟩
theorem new_sub {H0 H' : Hp} : Ex (new H0 H') H' := fun a o h => (new_some.mp h).2
/-- newer is new -/
theorem new_new {H0 H1 H2 : Hp} (e : Ex H0 H1) : Ex (new H1 H2) (new H0 H2) := fun a o h => new_some.mpr ⟨fresh_back e (new_some.mp h).1, (new_some.mp h).2⟩
theorem Args.ex {cs : Nat → Addr} {H H' : Hp} {p : Pr} {ws : List V} (ha : Args cs H p ws) (e1 : Ex H H') : Args cs H' p ws := by
  cases p with
  | wheel _ => exact ha
  | turned _ _ => obtain ⟨y, h1, h2⟩ := ha; exact ⟨y, h1, h2.ex e1⟩
  | over _ _ => obtain ⟨y, z, h1, h2, h3⟩ := ha; exact ⟨y, z, h1, h2.ex e1, h3.ex e1⟩
  | cut _ _ => obtain ⟨y, z, h1, h2, h3⟩ := ha; exact ⟨y, z, h1, h2.ex e1, h3.ex e1⟩
  | held _ _ => obtain ⟨y, z, h1, h2, h3⟩ := ha; exact ⟨y, z, h1, h2.ex e1, h3.ex e1⟩
  | taking _ => obtain ⟨y, l, m, h1, h2, h3, h4⟩ := ha; exact ⟨y, l, m, h1, e1 _ _ h2, e1 _ _ h3, h4.ex e1⟩
  | thn _ _ _ => obtain ⟨y, z, h1, h2, h3⟩ := ha; exact ⟨y, z, h1, h2.ex e1, h3.ex e1⟩
  | dyed _ _ => obtain ⟨y, z, h1, h2⟩ := ha; exact ⟨y, z, h1, h2.ex e1⟩
/-- an instance made: all of it is new since H0 -/
theorem make_roll {H0 : Hp} {c d : Nat} {p : Pr} {ws : List V} {E : XK} {Q : VK} (e0 : Ex H0 H) (hp : idx p = c) (ha : Args cs (new H0 H) p ws) (hd : dep p ≤ d + 1) (hf : Fit p) (hr : FitR p) (k : ∀ v H2, Ex H H2 → Roll cs (new H0 H2) p v → Q v H2) :
    ∀ x dx, H x = none → H dx = none → dx ≠ x → sp_init K cs c d (.ref x :: (ws ++ [])) (upd (upd H dx (.own x)) x (.ins (cs c) dx [])) (fun v H2 => v = .non ∧ Q (.ref x) H2) E := fun x dx hx hdx hne => by
  have e1 : Ex H (upd (upd H dx (.own x)) x (.ins (cs c) dx [])) := (Ex.new hdx).trans (Ex.new (by rw [upd_ne hne.symm]; exact hx))
  rw [List.append_nil]
  refine ⟨p, x, dx, ws, rfl, ⟨hp, upd_same, (ha.ex new_sub).ex e1, hd, hf, hr⟩, fun H' b hR => ?_⟩
  have e2 : Ex H H' := fun a o h => b a o (ne_of_none h hx) (e1 _ _ h)
  refine ⟨rfl, k _ _ e2 (hR _ (ha.ex (new_ex e2)) fun a o hz ho => new_some.mpr ⟨fresh_back e0 ?_, ho⟩)⟩
  rcases hz with z | z
  · rw [z]
    exact hx
  · exact fresh_back e1 z
theorem evp_if {b : Bool} {t : TT} {tb : TE} {P : V → Hp → Prop} (h : EvT t σ H b) (h1 : b = true → EvP ta σ H P) (h2 : b = false → EvP tb σ H P) : EvP (tIf t ta tb) σ H P := fun H1 e Q q => h H1 e _ fun H2 e2 => by
  cases b with
  | true => exact h1 rfl H2 (e.trans e2) _ fun v H3 e3 p => q v H3 (e2.trans e3) p
  | false => exact h2 rfl H2 (e.trans e2) _ fun v H3 e3 p => q v H3 (e2.trans e3) p
/-- arguments, told by a property of the heap -/
def EvAP (ta : TA) (σ : L2.St) (H : Hp) (P : List V → Hp → Prop) : Prop := ∀ H1, Ex H H1 → ∀ Q : List V → Hp → Prop, (∀ vs H2, Ex H1 H2 → P vs H2 → Q vs H2) → ta σ H1 Q
theorem eap_nil : EvAP tNil σ H (fun vs _ => vs = []) := fun H1 _ _ q => q [] H1 (Ex.refl H1) rfl
theorem eap_of {ta : TA} {vs : List V} {P : List V → Hp → Prop} (h : EvA ta σ H vs) (hp : ∀ H1, Ex H H1 → P vs H1) : EvAP ta σ H P := fun H1 e Q q => h H1 e _ fun H2 e2 => q vs H2 e2 (hp H2 (e.trans e2))
theorem eap_cons {tr : TA} {P : List V → Hp → Prop} (h : Ev ta σ H y) (hr : EvAP tr σ H P) : EvAP (tCons ta tr) σ H (fun vs H' => ∃ r, vs = y :: r ∧ P r H') := fun H1 e Q q =>
  h H1 e _ fun H2 e2 => hr H2 (e.trans e2) _ fun vs H3 e3 p => q _ H3 (e2.trans e3) ⟨vs, rfl, p⟩
theorem eap_consP {tr : TA} {P1 : V → Hp → Prop} {P : List V → Hp → Prop} (hm : ∀ v H1 H2, Ex H1 H2 → P1 v H1 → P1 v H2) (h : EvP ta σ H P1) (hr : EvAP tr σ H P) : EvAP (tCons ta tr) σ H (fun vs H' => ∃ v r, vs = v :: r ∧ P1 v H' ∧ P r H') := fun H1 e Q q =>
  h H1 e _ fun v H2 e2 p1 => hr H2 (e.trans e2) _ fun vs H3 e3 p => q _ H3 (e2.trans e3) ⟨v, vs, rfl, hm v H2 H3 e3 p1, p⟩
theorem evp_make {H0 : Hp} {c d : Nat} {p : Pr} {ta : TA} (e0 : Ex H0 H) (h : EvAP ta σ H fun ws H' => Args cs (new H0 H') p ws) (hp : idx p = c) (hd : dep p ≤ d + 1) (hf : Fit p) (hr : FitR p) :
    EvP (tMake (cs c) (sp_init K cs c d) [] E0 ta) σ H (fun v H' => Roll cs (new H0 H') p v) := fun H1 e Q q =>
  h H1 e _ fun ws H2 e2 ha => make_roll ((e0.trans e).trans e2) hp ha hd hf hr fun v H3 e3 hR => q v H3 (e2.trans e3) hR
theorem make_roll7 {H0 : Hp} {p : Pr} {ds : List (Nat × Nat)} {y : V} {t : Addr} {qs : List Addr} {E : XK} {Q : VK} (e0 : Ex H0 H) (hy : Roll cs (new H0 H) p y) (ht : PlT H t (qs.map V.ref)) (hq : DyP K H qs ds) (hn : (ds.map Prod.fst).Nodup) (k : ∀ v H2, Ex H H2 → Roll cs (new H0 H2) (.dyed p ds) v → Q v H2) :
    ∀ x dx, H x = none → H dx = none → dx ≠ x → sp_init7 K cs (.ref x :: ([y, .ref t] ++ [])) (upd (upd H dx (.own x)) x (.ins (cs 7) dx [])) (fun v H2 => v = .non ∧ Q (.ref x) H2) E := fun x dx hx hdx hne => by
  have e1 : Ex H (upd (upd H dx (.own x)) x (.ins (cs 7) dx [])) := (Ex.new hdx).trans (Ex.new (by rw [upd_ne hne.symm]; exact hx))
  refine ⟨p, ds, x, dx, t, y, qs, rfl, ⟨upd_same, ht.ex e1, hq.ex e1, hn⟩, fun H' b hR => ?_⟩
  have e2 : Ex H H' := fun a o h => b a o (ne_of_none h hx) (e1 _ _ h)
  refine ⟨rfl, k _ _ e2 (hR _ (hy.ex (new_ex e2)) fun a o hz ho => new_some.mpr ⟨fresh_back e0 ?_, ho⟩)⟩
  rcases hz with z | z
  · rw [z]
    exact hx
  · exact fresh_back e1 z
theorem evp_make7 {H0 : Hp} {p : Pr} {ds : List (Nat × Nat)} {y : V} {t : Addr} {qs : List Addr} {ta : TA} (e0 : Ex H0 H) (h : EvA ta σ H [y, .ref t]) (hy : Roll cs (new H0 H) p y) (ht : PlT H t (qs.map V.ref)) (hq : DyP K H qs ds) (hn : (ds.map Prod.fst).Nodup) :
    EvP (tMake (cs 7) (sp_init7 K cs) [] E0 ta) σ H (fun v H' => Roll cs (new H0 H') (.dyed p ds) v) := fun H1 e Q q =>
  h H1 e _ fun H2 e2 => make_roll7 ((e0.trans e).trans e2) (hy.ex (new_ex (e.trans e2))) (ht.ex (e.trans e2)) (hq.ex (e.trans e2)) hn fun v H3 e3 hR => q v H3 (e2.trans e3) hR
theorem s_retP {P : V → Hp → Prop} (h : EvP te σ H P) (k : ∀ v H1, Ex H H1 → P v H1 → D.rt v H1) : tRet te D σ H := h H (Ex.refl H) _ k
theorem q_asgP {P : V → Hp → Prop} {i : Nat} (h : EvP te σ H P) (k : ∀ v H1, Ex H H1 → P v H1 → tz D (σ.set i (some v)) H1) : tSeq (tAsg te (gName i)) tz D σ H := h H (Ex.refl H) _ k
def RetP (P : V → Hp → Prop) (H : Hp) (Q : VK) : Prop := ∀ v H', Ex H H' → P v H' → Q v H'
theorem evp_call {sp : Sp} {dvs vs : List V} {E : XK} {ta : TA} {P : V → Hp → Prop} (h : EvA ta σ H vs) (hs : ∀ H1, Ex H H1 → ∀ Q : VK, RetP P H1 Q → ∀ E : XK, sp (vs ++ dvs) H1 Q E) : EvP (tCall sp dvs E ta) σ H P := fun H1 e Q q =>
  h H1 e _ fun H2 e2 => hs H2 (e.trans e2) _ (fun v H3 e3 p => q v H3 (e2.trans e3) p) _
end
end RU

/-! Presses as they are kept: tuples. -/
namespace RV
open PySem PySem.Spec PyProof.Rows L2 Evl RDI TL RC RD RE RG RI RP RQ RS RR RT RU
/-- the words, by the classes' numbers -/
def wd : Nat → List Nat
  | 0 => [119, 104, 101, 101, 108] | 1 => [116, 117, 114, 110, 101, 100] | 2 => [111, 118, 101, 114] | 3 => [99, 117, 116] | 4 => [104, 101, 108, 100]
  | 5 => [116, 97, 107, 105, 110, 103] | 6 => [116, 104, 101, 110] | _ => [100, 121, 101, 100]
mutual
def Kept (K : PySem.W.Frag) (H : Hp) : Pr → V → Prop
  | .wheel rim, v => ∃ a, v = .ref a ∧ SqT K H a [T (wd 0), T rim]
  | .turned p n, v => ∃ a x, v = .ref a ∧ SqT K H a [T (wd 1), x, .int (n : Int)] ∧ Kept K H p x
  | .over a b, v => ∃ c x y, v = .ref c ∧ SqT K H c [T (wd 2), x, y] ∧ Kept K H a x ∧ Kept K H b y
  | .cut a b, v => ∃ c x y, v = .ref c ∧ SqT K H c [T (wd 3), x, y] ∧ Kept K H a x ∧ Kept K H b y
  | .held a b, v => ∃ c x y, v = .ref c ∧ SqT K H c [T (wd 4), x, y] ∧ Kept K H a x ∧ Kept K H b y
  | .taking ps, v => ∃ a t xs, v = .ref a ∧ SqT K H a [T (wd 5), .ref t] ∧ SqT K H t xs ∧ KeptT K H ps xs
  | .thn a n b, v => ∃ c x y, v = .ref c ∧ SqT K H c [T (wd 6), x, .int (n : Int), y] ∧ Kept K H a x ∧ Kept K H b y
  | .dyed p ds, v => ∃ (a : Addr) (x : V) (t : Addr) (qs : List Addr), v = .ref a ∧ SqT K H a [T (wd 7), x, .ref t] ∧ PlT H t (qs.map V.ref) ∧ DyP K H qs ds ∧ Kept K H p x
def KeptT (K : PySem.W.Frag) (H : Hp) : Ps → List V → Prop
  | .nil, xs => xs = []
  | .cons p n r, xs => ∃ (q : Addr) (x : V) (ys : List V), xs = .ref q :: ys ∧ SqT K H q [x, .int (n : Int)] ∧ Kept K H p x ∧ KeptT K H r ys
end
mutual
theorem Kept.ex {K : PySem.W.Frag} {H H' : Hp} (e : Ex H H') : ∀ {p : Pr} {v : V}, Kept K H p v → Kept K H' p v
  | .wheel _, _, ⟨a, h1, h2⟩ => ⟨a, h1, ex_t e h2⟩
  | .turned _ _, _, ⟨a, x, h1, h2, h3⟩ => ⟨a, x, h1, ex_t e h2, Kept.ex e h3⟩
  | .over _ _, _, ⟨c, x, y, h1, h2, h3, h4⟩ => ⟨c, x, y, h1, ex_t e h2, Kept.ex e h3, Kept.ex e h4⟩
  | .cut _ _, _, ⟨c, x, y, h1, h2, h3, h4⟩ => ⟨c, x, y, h1, ex_t e h2, Kept.ex e h3, Kept.ex e h4⟩
  | .held _ _, _, ⟨c, x, y, h1, h2, h3, h4⟩ => ⟨c, x, y, h1, ex_t e h2, Kept.ex e h3, Kept.ex e h4⟩
  | .taking _, _, ⟨a, t, xs, h1, h2, h3, h4⟩ => ⟨a, t, xs, h1, ex_t e h2, ex_t e h3, KeptT.ex e h4⟩
  | .thn _ _ _, _, ⟨c, x, y, h1, h2, h3, h4⟩ => ⟨c, x, y, h1, ex_t e h2, Kept.ex e h3, Kept.ex e h4⟩
  | .dyed _ _, _, ⟨a, x, t, qs, h1, h2, h3, h4, h5⟩ => ⟨a, x, t, qs, h1, ex_t e h2, h3.ex e, h4.ex e, Kept.ex e h5⟩
theorem KeptT.ex {K : PySem.W.Frag} {H H' : Hp} (e : Ex H H') : ∀ {ps : Ps} {xs : List V}, KeptT K H ps xs → KeptT K H' ps xs
  | .nil, _, h => h
  | .cons _ _ _, _, ⟨q, x, ys, h1, h2, h3, h4⟩ => ⟨q, x, ys, h1, ex_t e h2, Kept.ex e h3, KeptT.ex e h4⟩
end
/-- dyes: of letters, each once, to signs -/
def DyeOk (ds : List (Nat × Nat)) : Prop := ds.length ≤ 26 ∧ (ds.map Prod.fst).Nodup ∧ ∀ q ∈ ds, (q.1 ∈ MARKS ∧ q.1 ≠ 46) ∧ q.2 ∈ MARKS
mutual
/-- its dyes are good -/
def NoDye : Pr → Prop
  | .wheel _ => True
  | .turned p _ => NoDye p
  | .over a b => NoDye a ∧ NoDye b
  | .cut a b => NoDye a ∧ NoDye b
  | .held a b => NoDye a ∧ NoDye b
  | .taking ps => NoDyeT ps
  | .thn a _ b => NoDye a ∧ NoDye b
  | .dyed p ds => NoDye p ∧ DyeOk ds
def NoDyeT : Ps → Prop
  | .nil => True
  | .cons p _ r => NoDye p ∧ NoDyeT r
end
def app : Ps → Ps → Ps
  | .nil, b => b
  | .cons p n r, b => .cons p n (app r b)
theorem app_assoc : ∀ a b c : Ps, app (app a b) c = app a (app b c)
  | .nil, _, _ => rfl
  | .cons p n r, b, c => by
    show Ps.cons p n _ = Ps.cons p n _
    rw [app_assoc r b c]
theorem app_nil : ∀ a : Ps, app a .nil = a
  | .nil => rfl
  | .cons p n r => by
    show Ps.cons p n _ = Ps.cons p n _
    rw [app_nil r]
theorem rollT_app {cs : Nat → Addr} {H : Hp} : ∀ {a b : Ps} {xs ys : List V}, RollT cs H a xs → RollT cs H b ys → RollT cs H (app a b) (xs ++ ys)
  | .nil, _, xs, ys, h1, h2 => by
    have e : xs = [] := h1
    subst e
    exact h2
  | .cons p n r, b, xs, ys, ⟨x, zs, e, h3, h4⟩, h2 => by
    subst e
    exact ⟨x, zs ++ ys, rfl, h3, rollT_app h4 h2⟩
/-- hidden: one address -/
def hide (l : Addr) (H : Hp) : Hp := fun a => if a = l then none else H a
theorem hide_some {l a : Addr} {H : Hp} {o : HO} : hide l H a = some o ↔ a ≠ l ∧ H a = some o := by
  unfold hide
  by_cases e : a = l
  · simp [e]
  · simp [e]
theorem hide_sub {l : Addr} {H : Hp} : Ex (hide l H) H := fun a o h => (hide_some.mp h).2
theorem ind_w {i j : Nat} : wd i = wd j ↔ wd i = wd j := Iff.rfl
def sp_roller_of (K : PySem.W.Frag) (cs : Nat → Addr) (d : Nat) : Sp := fun vs H Q _ => ∃ (p : Pr) (v : V), vs = [v] ∧ (Kept K H p v ∧ dep p ≤ d ∧ Fit p ∧ FitR p ∧ NoDye p) ∧ RetP (fun v' H' => Roll cs (new H H') p v') H Q
section
variable {K : PySem.W.Frag} {cs : Nat → Addr} {σ : L2.St} {H : Hp} {ta te : TE} {D : Ends} {tz : TS} {v : V}
/-- a, *b = a tuple -/
theorem q_star {a : Addr} {x : V} {xs : List V} {i j : Nat} (h : Ev te σ H (.ref a)) (hs : SqT K H a (x :: xs)) (k : ∀ l H1, H l = none → Ex H H1 → H1 l = some (.lst xs) → tz D ((σ.set i (some x)).set j (some (.ref l))) H1) :
    tSeq (tAsg te (gStar K (gCons (gName i) (gCons (gName j) gNil)))) tz D σ H :=
  h H (Ex.refl H) _ fun H1 e => ⟨a, x, xs, rfl, ex_t e hs, fun l hl => ⟨_, _, rfl, _, _, rfl, rfl, k l _ (fresh_back e hl) (e.trans (Ex.new hl)) upd_same⟩⟩
theorem ev_wd {z : Str} {i : Nat} (h : z = S (wd i)) : Ev (tC (.str z)) σ H (T (wd i)) := ev_s _ h
theorem ev_eqW {tb : TE} {i j : Nat} (ha : Ev ta σ H (T (wd i))) (hb : Ev tb σ H (T (wd j))) (h : decide (wd i = wd j) = decide (i = j)) : Ev (tOp rEq ta tb) σ H (.bl (decide (i = j))) := by
  rw [← h]
  exact ev_eqT ha hb
theorem eap_imp {ta : TA} {P P' : List V → Hp → Prop} (h : EvAP ta σ H P) (i : ∀ vs H1, Ex H H1 → P vs H1 → P' vs H1) : EvAP ta σ H P' := fun H1 e Q q => h H1 e _ fun vs H2 e2 p => q vs H2 e2 (i vs H2 (e.trans e2) p)
theorem keptT_nil {ps : Ps} (h : KeptT K H ps []) : ps = .nil := by
  cases ps with
  | nil => rfl
  | cons p n r =>
    obtain ⟨q, x, ys, e, _⟩ := h
    cases e
theorem keptT_len : ∀ {ps : Ps} {xs : List V}, KeptT K H ps xs → (manies ps).length = xs.length
  | .nil, xs, h => by
    have e : xs = [] := h
    rw [e]
    rfl
  | .cons p n r, xs, ⟨q, x, ys, e, h2, h3, h4⟩ => by
    rw [e]
    show (manies r).length + 1 = ys.length + 1
    rw [keptT_len h4]
/-- [roller_of(one) for one, many in pairs] -/
theorem evp_lcRoll {H0 : Hp} {t : Addr} {xs : List V} {ps : Ps} {j k d : Nat} {vs : List Nat} (e0 : Ex H0 H) (h : Ev te σ H (.ref t)) (ht : SqT K H t xs) (hk : KeptT K H ps xs) (hz : xs.length ≤ 1000) (hd : depT ps ≤ d) (hf : FitT ps) (hr : FitRT ps) (hn : NoDyeT ps)
    (hw : ∀ x y, wipe (((wipe σ vs).set j (some x)).set k (some y)) vs = wipe σ vs) (hj : ∀ x y, (((wipe σ vs).set j (some x)).set k (some y))[j]? = some (some x)) :
    EvP (tLc (iTup K te) (gTup K 2 (gCons (gName j) (gCons (gName k) gNil))) tYes (tCall (sp_roller_of K cs d) [] E0 (tCons (tVar j) tNil)) vs) σ H (fun v H' => ∃ l rs, v = .ref l ∧ new H0 H' l = some (.lst rs) ∧ RollT cs (new H0 H') ps rs) := fun H1 e Q q =>
  h H1 e _ fun H2 e2 => ⟨t, rfl, ⟨xs, ex_t (e.trans e2) ht⟩, fun Dl hD => by
    have e02 := (e0.trans e).trans e2
    refine lc_it (walk_tup (a := t) (xs := xs)) (fun i H' => ∃ pre r acc, app pre r = ps ∧ KeptT K H2 r (xs.drop i) ∧ depT r ≤ d ∧ FitT r ∧ FitRT r ∧ NoDyeT r ∧ Ex H2 H' ∧ H' Dl = some (.lst acc) ∧ RollT cs (hide Dl (new H0 H')) pre acc ∧ acc.length = i)
      ⟨.nil, ps, [], rfl, hk.ex (e.trans e2), hd, hf, hr, hn, Ex.new hD, upd_same, rfl, rfl⟩ (fun i H' _ hp => ?_) (fun i x H' H'' hi hp y => ?_) (fun H' hp => ?_)
    · obtain ⟨_, _, _, _, _, _, _, _, _, e3, _⟩ := hp
      exact ex_t ((e.trans e2).trans e3) ht
    · obtain ⟨pre, r, acc, hap, hkr, hdr, hfr, hrr, hnr, e3, hDl, hR, hlen⟩ := hp
      obtain ⟨rfl, hx⟩ := y
      cases r with
      | nil =>
        have e4 : xs.drop i = [] := hkr
        rw [List.drop_eq_nil_iff] at e4
        omega
      | cons p n r =>
        obtain ⟨q0, y, ys, hxs, hq0, hky, hkr'⟩ := hkr
        have hx0 : xs[i]? = some (.ref q0) := by
          have := congrArg List.head? hxs
          rw [List.head?_drop] at this
          exact this
        obtain rfl : V.ref q0 = x := Option.some.inj (hx0.symm.trans hx)
        have hdr' : max (dep p) (depT r) ≤ d := hdr
        refine ⟨q0, _, rfl, ex_t e3 hq0, rfl, _, _, rfl, _, _, rfl, rfl, hw _ _, ?_⟩
        simp only [tYes, ↓reduceIte]
        refine ⟨y, hj _ _, p, y, rfl, ⟨hky.ex e3, by omega, hfr.1, hrr.1, hnr.1⟩, fun v' H3 e4 hR' => ?_⟩
        have hD3 := e4 _ _ hDl
        have m1 : ∀ o, Ex (hide Dl (new H0 H'')) (hide Dl (new H0 (upd H3 Dl o))) := fun o a o' ha => by
          obtain ⟨n1, n2⟩ := hide_some.mp ha
          obtain ⟨n3, n4⟩ := new_some.mp n2
          exact hide_some.mpr ⟨n1, new_some.mpr ⟨n3, by rw [upd_ne n1]; exact e4 _ _ n4⟩⟩
        have m2 : ∀ o, Ex (new H'' H3) (hide Dl (new H0 (upd H3 Dl o))) := fun o a o' ha => by
          obtain ⟨n1, n2⟩ := new_some.mp ha
          have n3 : a ≠ Dl := fun z => by
            rw [z, hDl] at n1
            cases n1
          exact hide_some.mpr ⟨n3, new_some.mpr ⟨fresh_back (e02.trans e3) n1, by rw [upd_ne n3]; exact n2⟩⟩
        refine ⟨acc, hD3, by rw [hlen, big]; omega, app pre (.cons p n .nil), r, acc ++ [v'], ?_, ?_, by omega, hfr.2.2.2, hrr.2, hnr.2, ?_, upd_same, ?_, by rw [List.length_append, hlen]; rfl⟩
        · rw [app_assoc]
          exact hap
        · rw [← List.tail_drop, hxs]
          exact hkr'
        · exact (e3.trans e4).mut hD
        · exact rollT_app (hR.ex (m1 _)) ⟨v', [], rfl, hR'.ex (m2 _), rfl⟩
    · obtain ⟨pre, r, acc, hap, hkr, hdr, hfr, hrr, hnr, e3, hDl, hR, hlen⟩ := hp
      rw [List.drop_of_length_le (Nat.le_refl _)] at hkr
      obtain rfl := keptT_nil hkr
      rw [app_nil] at hap
      subst hap
      exact q _ _ (e2.trans e3) ⟨Dl, acc, rfl, new_some.mpr ⟨fresh_back e02 hD, hDl⟩, hR.ex hide_sub⟩⟩
/-- [many for one, many in pairs] -/
theorem el_lcMany {t : Addr} {xs : List V} {ps : Ps} {j k : Nat} {vs : List Nat} (h : Ev te σ H (.ref t)) (ht : SqT K H t xs) (hk : KeptT K H ps xs) (hz : xs.length ≤ 1000)
    (hw : ∀ x y, wipe (((wipe σ vs).set j (some x)).set k (some y)) vs = wipe σ vs) (hj : ∀ x y, (((wipe σ vs).set j (some x)).set k (some y))[k]? = some (some y)) :
    EvL (tLc (iTup K te) (gTup K 2 (gCons (gName j) (gCons (gName k) gNil))) tYes (tVar k) vs) σ H (manies ps) := fun H1 e Q q =>
  h H1 e _ fun H2 e2 => ⟨t, rfl, ⟨xs, ex_t (e.trans e2) ht⟩, fun Dl hD => by
    refine lc_it (walk_tup (a := t) (xs := xs)) (fun i H' => ∃ r acc, KeptT K H2 r (xs.drop i) ∧ acc ++ manies r = manies ps ∧ Ex H2 H' ∧ H' Dl = some (.lst acc) ∧ acc.length = i)
      ⟨ps, [], hk.ex (e.trans e2), rfl, Ex.new hD, upd_same, rfl⟩ (fun i H' _ hp => ?_) (fun i x H' H'' hi hp y => ?_) (fun H' hp => ?_)
    · obtain ⟨_, _, _, _, e3, _⟩ := hp
      exact ex_t ((e.trans e2).trans e3) ht
    · obtain ⟨r, acc, hkr, hap, e3, hDl, hlen⟩ := hp
      obtain ⟨rfl, hx⟩ := y
      cases r with
      | nil =>
        have e4 : xs.drop i = [] := hkr
        rw [List.drop_eq_nil_iff] at e4
        omega
      | cons p n r =>
        obtain ⟨q0, y, ys, hxs, hq0, hky, hkr'⟩ := hkr
        have hx0 : xs[i]? = some (.ref q0) := by
          have := congrArg List.head? hxs
          rw [List.head?_drop] at this
          exact this
        obtain rfl : V.ref q0 = x := Option.some.inj (hx0.symm.trans hx)
        refine ⟨q0, _, rfl, ex_t e3 hq0, rfl, _, _, rfl, _, _, rfl, rfl, hw _ _, ?_⟩
        simp only [tYes, ↓reduceIte]
        refine ⟨_, hj _ _, acc, hDl, by rw [hlen, big]; omega, r, acc ++ [.int (n : Int)], ?_, ?_, e3.mut hD, upd_same, by rw [List.length_append, hlen]; rfl⟩
        · rw [← List.tail_drop, hxs]
          exact hkr'
        · rw [List.append_assoc]
          exact hap
    · obtain ⟨r, acc, hkr, hap, e3, hDl, hlen⟩ := hp
      rw [List.drop_of_length_le (Nat.le_refl _)] at hkr
      obtain rfl := keptT_nil hkr
      have hap' : acc ++ [] = manies ps := hap
      rw [List.append_nil] at hap'
      subst hap'
      exact q Dl H' (fresh_back e2 hD) (e2.trans e3) hDl⟩
/-- a made list as a value of which only the list is told -/
theorem evp_L {xs : List V} (h : EvL te σ H xs) {H0 : Hp} (e0 : Ex H0 H) : EvP te σ H (fun v H' => ∃ m, v = .ref m ∧ new H0 H' m = some (.lst xs)) := fun H1 e Q q =>
  h H1 e _ fun p H2 hp e2 h2 => q _ H2 e2 ⟨p, rfl, new_some.mpr ⟨fresh_back (e0.trans e) hp, h2⟩⟩
end
end RV

/-! Presses as they are handed in: lists and tuples, mixed. -/
namespace RX
open PySem PySem.Spec PyProof.Rows L2 Evl RDI TL RC RD RE RG RI RL RP RQ RS RR RT RU RV
/-- a list or a tuple -/
def Sq (H : Hp) (v : V) (xs : List V) : Prop := ∃ a, v = .ref a ∧ (H a = some (.lst xs) ∨ Rd H a (.tup xs))
theorem Sq.ex {H H' : Hp} {v : V} {xs : List V} (e : Ex H H') (h : Sq H v xs) : Sq H' v xs := by
  obtain ⟨a, h1, h2⟩ := h
  exact ⟨a, h1, h2.imp (e _ _) (ex_rd e)⟩
mutual
/-- the things behind the word -/
def HandR (H : Hp) : Pr → List V → Prop
  | .wheel rim, xs => xs = [T rim]
  | .turned p n, xs => ∃ x ws, xs = [x, .int (n : Int)] ∧ Sq H x (T (wd (idx p)) :: ws) ∧ HandR H p ws
  | .over a b, xs => ∃ x y ws zs, xs = [x, y] ∧ Sq H x (T (wd (idx a)) :: ws) ∧ Sq H y (T (wd (idx b)) :: zs) ∧ HandR H a ws ∧ HandR H b zs
  | .cut a b, xs => ∃ x y ws zs, xs = [x, y] ∧ Sq H x (T (wd (idx a)) :: ws) ∧ Sq H y (T (wd (idx b)) :: zs) ∧ HandR H a ws ∧ HandR H b zs
  | .held a b, xs => ∃ x y ws zs, xs = [x, y] ∧ Sq H x (T (wd (idx a)) :: ws) ∧ Sq H y (T (wd (idx b)) :: zs) ∧ HandR H a ws ∧ HandR H b zs
  | .taking ps, xs => ∃ x ws, xs = [x] ∧ Sq H x ws ∧ HandT H ps ws
  | .thn a n b, xs => ∃ x y ws zs, xs = [x, .int (n : Int), y] ∧ Sq H x (T (wd (idx a)) :: ws) ∧ Sq H y (T (wd (idx b)) :: zs) ∧ HandR H a ws ∧ HandR H b zs
  | .dyed p ds, xs => ∃ (x y : V) (ws qs : List V), xs = [x, y] ∧ Sq H x (T (wd (idx p)) :: ws) ∧ Sq H y qs ∧ qs.length = ds.length ∧
      (∀ (i : Nat) (q : V), qs[i]? = some q → ∃ (c e : Nat), ds[i]? = some (c, e) ∧ Sq H q [T [c], T [e]]) ∧ HandR H p ws
def HandT (H : Hp) : Ps → List V → Prop
  | .nil, xs => xs = []
  | .cons p n r, xs => ∃ q x ws ys, xs = q :: ys ∧ Sq H q [x, .int (n : Int)] ∧ Sq H x (T (wd (idx p)) :: ws) ∧ HandR H p ws ∧ HandT H r ys
end
mutual
theorem HandR.ex {H H' : Hp} (e : Ex H H') : ∀ {p : Pr} {xs : List V}, HandR H p xs → HandR H' p xs
  | .wheel _, _, h => h
  | .turned _ _, _, ⟨x, ws, h1, h2, h3⟩ => ⟨x, ws, h1, h2.ex e, HandR.ex e h3⟩
  | .over _ _, _, ⟨x, y, ws, zs, h1, h2, h3, h4, h5⟩ => ⟨x, y, ws, zs, h1, h2.ex e, h3.ex e, HandR.ex e h4, HandR.ex e h5⟩
  | .cut _ _, _, ⟨x, y, ws, zs, h1, h2, h3, h4, h5⟩ => ⟨x, y, ws, zs, h1, h2.ex e, h3.ex e, HandR.ex e h4, HandR.ex e h5⟩
  | .held _ _, _, ⟨x, y, ws, zs, h1, h2, h3, h4, h5⟩ => ⟨x, y, ws, zs, h1, h2.ex e, h3.ex e, HandR.ex e h4, HandR.ex e h5⟩
  | .taking _, _, ⟨x, ws, h1, h2, h3⟩ => ⟨x, ws, h1, h2.ex e, HandT.ex e h3⟩
  | .thn _ _ _, _, ⟨x, y, ws, zs, h1, h2, h3, h4, h5⟩ => ⟨x, y, ws, zs, h1, h2.ex e, h3.ex e, HandR.ex e h4, HandR.ex e h5⟩
  | .dyed _ _, _, ⟨x, y, ws, qs, h1, h2, h3, h4, h5, h6⟩ => ⟨x, y, ws, qs, h1, h2.ex e, h3.ex e, h4, fun i q hq => by obtain ⟨c, d, g1, g2⟩ := h5 i q hq; exact ⟨c, d, g1, g2.ex e⟩, HandR.ex e h6⟩
theorem HandT.ex {H H' : Hp} (e : Ex H H') : ∀ {ps : Ps} {xs : List V}, HandT H ps xs → HandT H' ps xs
  | .nil, _, h => h
  | .cons _ _ _, _, ⟨q, x, ws, ys, h1, h2, h3, h4, h5⟩ => ⟨q, x, ws, ys, h1, h2.ex e, h3.ex e, HandR.ex e h4, HandT.ex e h5⟩
end
def Hand (H : Hp) (p : Pr) (v : V) : Prop := ∃ ws, Sq H v (T (wd (idx p)) :: ws) ∧ HandR H p ws
theorem Hand.ex {H H' : Hp} {p : Pr} {v : V} (e : Ex H H') (h : Hand H p v) : Hand H' p v := by
  obtain ⟨ws, h1, h2⟩ := h
  exact ⟨ws, h1.ex e, h2.ex e⟩
/-- what a keeper tells -/
def KeptR (K : PySem.W.Frag) (H : Hp) : Pr → List V → Prop
  | .wheel rim, ys => ys = [T rim]
  | .turned p n, ys => ∃ x, ys = [x, .int (n : Int)] ∧ Kept K H p x
  | .over a b, ys => ∃ x y, ys = [x, y] ∧ Kept K H a x ∧ Kept K H b y
  | .cut a b, ys => ∃ x y, ys = [x, y] ∧ Kept K H a x ∧ Kept K H b y
  | .held a b, ys => ∃ x y, ys = [x, y] ∧ Kept K H a x ∧ Kept K H b y
  | .taking ps, ys => ∃ t xs, ys = [.ref t] ∧ SqT K H t xs ∧ KeptT K H ps xs
  | .thn a n b, ys => ∃ x y, ys = [x, .int (n : Int), y] ∧ Kept K H a x ∧ Kept K H b y
  | .dyed p ds, ys => ∃ (x : V) (t : Addr) (qs : List Addr), ys = [x, .ref t] ∧ PlT H t (qs.map V.ref) ∧ DyP K H qs ds ∧ Kept K H p x
theorem KeptR.kept {K : PySem.W.Frag} {H H' : Hp} {p : Pr} {ys : List V} {a : Addr} (h : KeptR K H p ys) (e : Ex H H') (ha : SqT K H' a (T (wd (idx p)) :: ys)) : Kept K H' p (.ref a) := by
  cases p with
  | wheel _ => obtain rfl : ys = _ := h; exact ⟨a, rfl, ha⟩
  | turned _ _ => obtain ⟨x, rfl, h1⟩ := h; exact ⟨a, x, rfl, ha, h1.ex e⟩
  | over _ _ => obtain ⟨x, y, rfl, h1, h2⟩ := h; exact ⟨a, x, y, rfl, ha, h1.ex e, h2.ex e⟩
  | cut _ _ => obtain ⟨x, y, rfl, h1, h2⟩ := h; exact ⟨a, x, y, rfl, ha, h1.ex e, h2.ex e⟩
  | held _ _ => obtain ⟨x, y, rfl, h1, h2⟩ := h; exact ⟨a, x, y, rfl, ha, h1.ex e, h2.ex e⟩
  | taking _ => obtain ⟨t, xs, rfl, h1, h2⟩ := h; exact ⟨a, t, xs, rfl, ha, ex_t e h1, KeptT.ex e h2⟩
  | thn _ _ _ => obtain ⟨x, y, rfl, h1, h2⟩ := h; exact ⟨a, x, y, rfl, ha, h1.ex e, h2.ex e⟩
  | dyed _ _ => obtain ⟨x, t, qs, rfl, h1, h2, h3⟩ := h; exact ⟨a, x, t, qs, rfl, ha, h1.ex e, h2.ex e, h3.ex e⟩
theorem ne_len {xs ys : List V} (e : ys = xs) (h : xs ≠ [] ∧ xs.length ≤ 3) : ys ≠ [] ∧ ys.length ≤ 3 := e ▸ h
theorem KeptR.ne {K : PySem.W.Frag} {H : Hp} {p : Pr} {ys : List V} (h : KeptR K H p ys) : ys ≠ [] ∧ ys.length ≤ 3 := by
  cases p with
  | wheel _ => exact ne_len h ⟨List.cons_ne_nil _ _, Nat.le_of_ble_eq_true rfl⟩
  | turned _ _ => obtain ⟨x, e, h1⟩ := h; exact ne_len e ⟨List.cons_ne_nil _ _, Nat.le_of_ble_eq_true rfl⟩
  | over _ _ => obtain ⟨x, y, e, h1, h2⟩ := h; exact ne_len e ⟨List.cons_ne_nil _ _, Nat.le_of_ble_eq_true rfl⟩
  | cut _ _ => obtain ⟨x, y, e, h1, h2⟩ := h; exact ne_len e ⟨List.cons_ne_nil _ _, Nat.le_of_ble_eq_true rfl⟩
  | held _ _ => obtain ⟨x, y, e, h1, h2⟩ := h; exact ne_len e ⟨List.cons_ne_nil _ _, Nat.le_of_ble_eq_true rfl⟩
  | taking _ => obtain ⟨t, xs, e, h1, h2⟩ := h; exact ne_len e ⟨List.cons_ne_nil _ _, Nat.le_of_ble_eq_true rfl⟩
  | thn _ _ _ => obtain ⟨x, y, e, h1, h2⟩ := h; exact ne_len e ⟨List.cons_ne_nil _ _, Nat.le_of_ble_eq_true rfl⟩
  | dyed _ _ => obtain ⟨x, t, qs, e, _⟩ := h; exact ne_len e ⟨List.cons_ne_nil _ _, Nat.le_of_ble_eq_true rfl⟩
mutual
/-- a press by its form: rims of marks, two to six by turns, of some places -/
def Form : Pr → Prop
  | .wheel rim => rim ≠ [] ∧ rim.length ≤ 30000 ∧ ∀ c ∈ rim, c ∈ MARKS
  | .turned p _ => Form p
  | .over a b => Form a ∧ Form b
  | .cut a b => Form a ∧ Form b
  | .held a b => Form a ∧ Form b
  | .taking ps => FormT ps ∧ 2 ≤ (manies ps).length ∧ (manies ps).length ≤ 6
  | .thn a _ b => Form a ∧ Form b
  | .dyed p _ => Form p
def FormT : Ps → Prop
  | .nil => True
  | .cons p n r => Form p ∧ 0 < n ∧ FormT r
end
section
variable {K : PySem.W.Frag} {σ : L2.St} {H : Hp} {ta tb te : TE} {v : V} {xs : List V}
theorem Sq.lt {a : Addr} (h : H a = some (.lst xs) ∨ Rd H a (.tup xs)) : SqL K H a xs ∨ SqT K H a xs := h.imp SqL.of .inl
theorem ev_lenQ (h : Ev te σ H v) (hs : Sq H v xs) : Ev (tCB (rLenL K) (tCons te tNil)) σ H (.int (xs.length : Int)) := fun H1 e Q q => h H1 e _ fun H2 e2 => by
  obtain ⟨a, rfl, ha⟩ := hs.ex (e.trans e2)
  exact ⟨a, xs, rfl, Sq.lt ha, q H2 e2⟩
theorem ev_ixQ {i : Nat} {x : V} (h : Ev ta σ H v) (hs : Sq H v xs) (hb : Ev tb σ H (.int (i : Int))) (hx : xs[i]? = some x) : Ev (tOp (or2 (rIxL K) (rIxT K)) ta tb) σ H x := fun H1 e Q q => h H1 e _ fun H2 e2 => hb H2 (e.trans e2) _ fun H3 e3 => by
  obtain ⟨a, rfl, ha⟩ := hs.ex ((e.trans e2).trans e3)
  rcases ha with ha | ha
  · exact .inl ⟨a, xs, _, x, rfl, rfl, SqL.of ha, atI_nat hx, q H3 (e2.trans e3)⟩
  · exact .inr ⟨a, xs, _, x, rfl, rfl, .inl ha, atI_nat hx, q H3 (e2.trans e3)⟩
def rSlQ (K : PySem.W.Frag) : V → Option Int → Option Int → Hp → VK → Prop := fun x lo hi H Q => rSlL K x lo hi H Q ∨ rSlT K x lo hi H Q
theorem sl_seq {X : Cx} : SlR X (rSlQ X.K) := SlR.or sl_list sl_tup
/-- v[1:] -/
theorem evp_tail {x : V} {tl : TO} (h : Ev te σ H v) (hs : Sq H v (x :: xs)) (hl : EvO tl σ H (some 1)) : EvP (tSl (rSlQ K) te tl tNoPart) σ H (fun v' H' => Sq H' v' xs) := fun H1 e Q q => h H1 e _ fun H2 e2 => hl H2 (e.trans e2) _ fun H3 e3 => by
  obtain ⟨a, rfl, ha⟩ := hs.ex ((e.trans e2).trans e3)
  have hc : cutV (x :: xs) (some 1) none = xs := by
    unfold cutV
    have h1 : HT.sIx (x :: xs).length 0 (some 1) = 1 := by
      have := HT.sIx_nat (x :: xs).length 0 1
      rw [show ((1 : Nat) : Int) = 1 from rfl] at this
      rw [this, List.length_cons]
      omega
    rw [h1, HT.sIx_none]
    simp
  rcases ha with ha | ha
  · refine .inl ⟨a, _, rfl, SqL.of ha, fun p hp => ?_⟩
    rw [hc]
    exact q _ _ ((e2.trans e3).trans (Ex.new hp)) ⟨p, rfl, .inl upd_same⟩
  · refine .inr ⟨a, _, rfl, .inl ha, fun z => ?_, fun p hp => ?_⟩
    · have h1 : HT.sIx (x :: xs).length 0 (some 1) = 1 := by
        have := HT.sIx_nat (x :: xs).length 0 1
        rw [show ((1 : Nat) : Int) = 1 from rfl] at this
        rw [this, List.length_cons]
        omega
      rw [h1] at z
      omega
    · rw [hc]
      exact q _ _ ((e2.trans e3).trans (Ex.new hp)) ⟨p, rfl, .inr (.inl upd_same)⟩
theorem kit_list : PySem.W.kitAny K (.type "list") [.type "list", .type "tuple"] = some true := kitAny_cons (b := true) (kit_ty (by decide +kernel)) (fun z => nomatch z) fun _ => rfl
theorem kit_tuple : PySem.W.kitAny K (.type "tuple") [.type "list", .type "tuple"] = some true := kitAny_cons (b := false) (kit_ty (by decide +kernel)) (fun _ => kitAny_cons (b := true) (kit_ty (by decide +kernel)) (fun z => nomatch z) fun _ => rfl) fun z => nomatch z
/-- isinstance(v, (list, tuple)) of a number, a text -/
theorem ev_isiA {t : Value} {b : Bool} (h : Ev te σ H v) (ht : ∀ {H1 : Hp}, TyX K H1 v t) (hk : PySem.W.kitAny K t [.type "list", .type "tuple"] = some b) : Ev (tCB (rIsiT K) (tCons te (tCons (tTup (tCons (tC (.ty "list")) (tCons (tC (.ty "tuple")) tNil))) tNil))) σ H (.bl b) := fun H1 e Q q => h H1 e _ fun H2 e2 => by
  refine ⟨by show 2 ≤ sizeLine; decide, fun p hp => ?_⟩
  have e3 := Ex.new (o := .tup [V.ty "list", V.ty "tuple"]) hp
  exact ⟨_, p, _, t, _, b, rfl, upd_same, .cons (.ty _) (.cons (.ty _) .nil), ht, hk, q _ (e2.trans e3)⟩
/-- isinstance(v, (list, tuple)) -/
theorem ev_isiQ (h : Ev te σ H v) (hs : Sq H v xs) : Ev (tCB (rIsiT K) (tCons te (tCons (tTup (tCons (tC (.ty "list")) (tCons (tC (.ty "tuple")) tNil))) tNil))) σ H (.bl true) := fun H1 e Q q => h H1 e _ fun H2 e2 => by
  refine ⟨by show 2 ≤ sizeLine; decide, fun p hp => ?_⟩
  have e3 := Ex.new (o := .tup [V.ty "list", V.ty "tuple"]) hp
  obtain ⟨a, rfl, ha⟩ := hs.ex ((e.trans e2).trans e3)
  have hcl : Paired ClsV [V.ty "list", V.ty "tuple"] [.type "list", .type "tuple"] := .cons (.ty _) (.cons (.ty _) .nil)
  rcases ha with ha | ha
  · exact ⟨_, p, _, .type "list", _, true, rfl, upd_same, hcl, .base (.lst ha), kit_list, q _ (e2.trans e3)⟩
  · rcases ha with ha | ⟨o, ha⟩
    · exact ⟨_, p, _, .type "tuple", _, true, rfl, upd_same, hcl, .base (.tup ha), kit_tuple, q _ (e2.trans e3)⟩
    · exact ⟨_, p, _, .type "tuple", _, true, rfl, upd_same, hcl, .fTuple ha, kit_tuple, q _ (e2.trans e3)⟩
mutual
theorem Kept.map {H H' : Hp} (e : (∀ a xs, SqT K H a xs → SqT K H' a xs) ∧ ∀ a xs, PlT H a xs → PlT H' a xs) : ∀ {p : Pr} {v : V}, Kept K H p v → Kept K H' p v
  | .wheel _, _, ⟨a, h1, h2⟩ => ⟨a, h1, e.1 _ _ h2⟩
  | .turned _ _, _, ⟨a, x, h1, h2, h3⟩ => ⟨a, x, h1, e.1 _ _ h2, Kept.map e h3⟩
  | .over _ _, _, ⟨c, x, y, h1, h2, h3, h4⟩ => ⟨c, x, y, h1, e.1 _ _ h2, Kept.map e h3, Kept.map e h4⟩
  | .cut _ _, _, ⟨c, x, y, h1, h2, h3, h4⟩ => ⟨c, x, y, h1, e.1 _ _ h2, Kept.map e h3, Kept.map e h4⟩
  | .held _ _, _, ⟨c, x, y, h1, h2, h3, h4⟩ => ⟨c, x, y, h1, e.1 _ _ h2, Kept.map e h3, Kept.map e h4⟩
  | .taking _, _, ⟨a, t, xs, h1, h2, h3, h4⟩ => ⟨a, t, xs, h1, e.1 _ _ h2, e.1 _ _ h3, KeptT.map e h4⟩
  | .thn _ _ _, _, ⟨c, x, y, h1, h2, h3, h4⟩ => ⟨c, x, y, h1, e.1 _ _ h2, Kept.map e h3, Kept.map e h4⟩
  | .dyed _ _, _, ⟨a, x, t, qs, h1, h2, h3, h4, h5⟩ => ⟨a, x, t, qs, h1, e.1 _ _ h2, e.2 _ _ h3, ⟨h4.1, fun i q hq => by obtain ⟨c, d, g1, g2⟩ := h4.2 i q hq; exact ⟨c, d, g1, e.1 _ _ g2⟩⟩, Kept.map e h5⟩
theorem KeptT.map {H H' : Hp} (e : (∀ a xs, SqT K H a xs → SqT K H' a xs) ∧ ∀ a xs, PlT H a xs → PlT H' a xs) : ∀ {ps : Ps} {xs : List V}, KeptT K H ps xs → KeptT K H' ps xs
  | .nil, _, h => h
  | .cons _ _ _, _, ⟨q, x, ys, h1, h2, h3, h4⟩ => ⟨q, x, ys, h1, e.1 _ _ h2, Kept.map e h3, KeptT.map e h4⟩
end
/-- [one for one, other in pairs], pairs in a list -/
theorem el_lcFstL {t : Addr} {xs zs : List V} {j k : Nat} {vs : List Nat} (h : Ev te σ H (.ref t)) (ht : H t = some (.lst xs)) (hl : xs.length = zs.length) (hz : xs.length ≤ 1000) (hp : ∀ (i : Nat) x z, xs[i]? = some x → zs[i]? = some z → ∃ q n, x = .ref q ∧ SqT K H q [z, n])
    (hw : ∀ x y, wipe (((wipe σ vs).set j (some x)).set k (some y)) vs = wipe σ vs) (hj : ∀ x y, (((wipe σ vs).set j (some x)).set k (some y))[j]? = some (some x)) :
    EvL (tLc (iList K te) (gTup K 2 (gCons (gName j) (gCons (gName k) gNil))) tYes (tVar j) vs) σ H zs := fun H1 e Q q =>
  h H1 e _ fun H2 e2 => ⟨t, rfl, ⟨xs, SqL.of ((e.trans e2) _ _ ht)⟩, fun Dl hD => by
    refine lc_list (xs := xs) (fun i H' => Ex H2 H' ∧ H' Dl = some (.lst (zs.take i))) ⟨Ex.new hD, upd_same⟩ (fun i H' _ hp => SqL.of (hp.1 _ _ ((e.trans e2) _ _ ht))) (fun i x H' hx hpv => ?_) (fun H' hp => ?_)
    · obtain ⟨e3, hDl⟩ := hpv
      have hiz : i < zs.length := by
        have := (List.getElem?_eq_some_iff.mp hx).1
        omega
      obtain ⟨q0, n, rfl, hq0⟩ := hp i x zs[i] hx (List.getElem?_eq_getElem hiz)
      refine ⟨q0, _, rfl, ex_t ((e.trans e2).trans e3) hq0, rfl, _, _, rfl, _, _, rfl, rfl, hw _ _, ?_⟩
      simp only [tYes, ↓reduceIte]
      refine ⟨_, hj _ _, zs.take i, hDl, by rw [List.length_take, big]; omega, e3.mut hD, ?_⟩
      rw [List.take_succ_eq_append_getElem hiz]
      exact upd_same
    · obtain ⟨e3, hDl⟩ := hp
      rw [hl, List.take_length] at hDl
      exact q Dl H' (fresh_back e2 hD) (e2.trans e3) hDl⟩
/-- tuple(x) of a list: a plain one -/
theorem evp_tupF {l : Addr} (h : Ev te σ H (.ref l)) (hs : H l = some (.lst xs)) : EvP (tThen te (kTupF K)) σ H (fun v' H' => ∃ q, v' = .ref q ∧ PlT H' q xs) := fun H1 e Q q => h H1 e _ fun H2 e2 =>
  ⟨l, xs, rfl, SqL.of ((e.trans e2) _ _ hs), fun p o hp ho => q _ _ (e2.trans (Ex.new hp)) ⟨p, rfl, o, ho, upd_same⟩⟩
/-- a list changed: tuples stay -/
theorem sqT_upd {l : Addr} {zs : List V} {o : HO} (hl : H l = some (.lst zs)) : ∀ a xs, SqT K H a xs → SqT K (upd H l o) a xs := fun a xs h => by
  rcases h with (h | ⟨o', h⟩) | h
  · have n : a ≠ l := fun e => by
      rw [e, hl] at h
      cases h
    exact .inl (.inl (by rw [upd_ne n]; exact h))
  · have n : a ≠ l := fun e => by
      rw [e, hl] at h
      cases h
    exact .inl (.inr ⟨o', by rw [upd_ne n]; exact h⟩)
  · exact .inr h
theorem plT_upd {l : Addr} {zs : List V} {o : HO} (hl : H l = some (.lst zs)) : ∀ a xs, PlT H a xs → PlT (upd H l o) a xs := fun a xs ⟨u, h1, h2⟩ => by
  have n : a ≠ l := fun e => by
    rw [e, hl] at h2
    cases h2
  exact ⟨u, h1, by rw [upd_ne n]; exact h2⟩
theorem keep_upd {l : Addr} {zs : List V} {o : HO} (hl : H l = some (.lst zs)) : (∀ a xs, SqT K H a xs → SqT K (upd H l o) a xs) ∧ ∀ a xs, PlT H a xs → PlT (upd H l o) a xs := ⟨sqT_upd hl, plT_upd hl⟩
theorem keptT_app {H : Hp} : ∀ {a b : Ps} {xs ys : List V}, KeptT K H a xs → KeptT K H b ys → KeptT K H (app a b) (xs ++ ys)
  | .nil, _, xs, ys, h1, h2 => by
    have e : xs = [] := h1
    subst e
    exact h2
  | .cons p n r, b, xs, ys, ⟨q, x, zs, e, h3, h4, h5⟩, h2 => by
    subst e
    exact ⟨q, x, zs ++ ys, rfl, h3, h4, keptT_app h5 h2⟩
theorem handT_nil {ps : Ps} (h : HandT H ps []) : ps = .nil := by
  cases ps with
  | nil => rfl
  | cons p n r =>
    obtain ⟨q, x, ws, ys, e, _⟩ := h
    cases e
theorem handT_len : ∀ {ps : Ps} {xs : List V}, HandT H ps xs → (manies ps).length = xs.length
  | .nil, xs, h => by
    have e : xs = [] := h
    rw [e]
    rfl
  | .cons p n r, xs, ⟨q, x, ws, ys, e, h2, h3, h4, h5⟩ => by
    rw [e]
    show (manies r).length + 1 = ys.length + 1
    rw [handT_len h5]
/-- a tuple of told things -/
theorem evp_tup {tr : TA} {P : List V → Hp → Prop} (hm : ∀ vs H1 H2, Ex H1 H2 → P vs H1 → P vs H2) (hl : ∀ vs H1, P vs H1 → vs.length ≤ 100) (h : EvAP tr σ H P) : EvP (tTup tr) σ H (fun v H' => ∃ q ws, v = .ref q ∧ H' q = some (.tup ws) ∧ P ws H') := fun H1 e Q q =>
  h H1 e _ fun ws H2 e2 p => ⟨by have := hl _ _ p; rw [big]; omega, fun a ha => q _ _ (e2.trans (Ex.new ha)) ⟨a, ws, rfl, upd_same, hm _ _ _ (Ex.new ha) p⟩⟩
theorem evp_imp {P P' : V → Hp → Prop} (h : EvP te σ H P) (i : ∀ v H1, Ex H H1 → P v H1 → P' v H1) : EvP te σ H P' := fun H1 e Q q => h H1 e _ fun v H2 e2 p => q v H2 e2 (i v H2 (e.trans e2) p)
/-- tuple(xs) -/
theorem evp_tupleQ (h : Ev te σ H v) (hs : Sq H v xs) : EvP (tThen te (kTup K)) σ H (fun v' H' => ∃ q, v' = .ref q ∧ SqT K H' q xs) := fun H1 e Q q => h H1 e _ fun H2 e2 => by
  obtain ⟨a, rfl, ha⟩ := hs.ex (e.trans e2)
  rcases ha with ha | ha
  · exact .inl ⟨a, xs, rfl, SqL.of ha, fun p hp => q _ _ (e2.trans (Ex.new hp)) ⟨p, rfl, SqT.of upd_same⟩⟩
  · exact .inr ⟨a, xs, rfl, .inl ha, q _ _ e2 ⟨a, rfl, .inl ha⟩⟩
/-- for over a list or a tuple -/
theorem q_forQ {H0 : Hp} {D : Ends} {tz tu : TS} {g : TG} (h : Ev te σ H v) (e0 : Ex H0 H) (hs : Sq H0 v xs) (Pv : Nat → L2.St → Hp → Prop) (h0 : ∀ H1, Ex H H1 → Pv 0 σ H1) (hx : ∀ i σ' H', Pv i σ' H' → Ex H0 H')
    (hst : ∀ i x σ' H', xs[i]? = some x → Pv i σ' H' → g x σ' H' fun σ2 H2 => tu { D with nx := Pv (i + 1), ct := Pv (i + 1), bk := tz D } σ2 H2) (hd : ∀ σ' H', Pv xs.length σ' H' → tz D σ' H') :
    tSeq (tFor (fun σ H R => iList K te σ H R ∨ iTup K te σ H R) g tu) tz D σ H := by
  obtain ⟨a, rfl, ha⟩ := hs
  rcases ha with ha | ha
  · exact .inl (s_forL (D := { D with nx := tz D }) h (SqL.of (e0 _ _ ha)) Pv h0 (fun i σ' H' _ p => SqL.of (hx i σ' H' p _ _ ha)) hst hd)
  · exact .inr (s_forT (D := { D with nx := tz D }) h (.inl (ex_rd e0 ha)) Pv h0 (fun i σ' H' _ p => .inl (ex_rd (hx i σ' H' p) ha)) hst hd)
/-- xs.append(e), e told by a property -/
theorem s_appP {D : Ends} {P : V → Hp → Prop} {l : Addr} {xs : List V} (hl : H l = some (.lst xs)) (ha : Ev ta σ H (.ref l)) (h : EvP te σ H P) (hz : xs.length < 100000) (k : ∀ v H1, Ex H H1 → P v H1 → D.nx σ (upd H1 l (.lst (xs ++ [v])))) : tDrop (tBM K "list" rAppend ta (tCons te tNil)) D σ H :=
  ha H (Ex.refl H) _ fun H1 e1 => ⟨Or.inl ⟨rfl, xs, sq_of (e1 l _ hl)⟩, h H1 e1 _ fun v H2 e2 p => ⟨l, xs, v, rfl, rfl, e2 l _ (e1 l _ hl), sz_lt hz, k v H2 (e1.trans e2) p⟩⟩
end
theorem putK_new {kvs : List (Key × V)} {k : Key} {v : V} (h : k ∉ kvs.map (·.1)) : putK kvs k v = kvs ++ [(k, v)] := by
  unfold putK
  rw [if_neg]
  intro z
  obtain ⟨kv, h1, h2⟩ := List.any_eq_true.mp z
  exact h (List.mem_map.mpr ⟨kv, h1, of_decide_eq_true h2⟩)
theorem paired_dy {K : PySem.W.Frag} {H : Hp} : ∀ {qs : List Addr} {ds : List (Nat × Nat)}, DyP K H qs ds → Paired (fun p (kv : Key × V) => SqT K H p [kV kv.1, kv.2]) qs (dyesK ds)
  | [], [], _ => .nil
  | [], d :: ds, h => by cases h.1
  | q :: qs, [], h => by cases h.1
  | q :: qs, d :: ds, h => by
    obtain ⟨c, e, g1, g2⟩ := h.2 0 q rfl
    cases g1
    exact .cons g2 (paired_dy ⟨Nat.succ.inj h.1, fun i q' hq => by
      obtain ⟨c', e', g3, g4⟩ := h.2 (i + 1) q' hq
      exact ⟨c', e', g3, g4⟩⟩)
theorem dyesK_nd {ds : List (Nat × Nat)} (h : (ds.map Prod.fst).Nodup) : ((dyesK ds).map Prod.fst).Nodup := by
  have e : (dyesK ds).map Prod.fst = (ds.map Prod.fst).map fun c => (Sum.inr (S [c]) : Key) := by
    unfold dyesK
    rw [List.map_map, List.map_map]
    rfl
  rw [e]
  refine List.Pairwise.map _ (fun a b hab z => hab ?_) h
  have z2 : S [a] = S [b] := Sum.inr.inj z
  have := S_inj.mp z2
  simpa using this
theorem sqT_kp {K : PySem.W.Frag} {H H' : Hp} {a : Addr} {zs : List V} (k : Kp H H') (h : SqT K H a zs) : SqT K H' a zs := by
  rcases h with (h | ⟨o, h⟩) | h
  · exact .inl (.inl (k _ _ h fun _ _ z => nomatch z))
  · exact .inl (.inr ⟨o, k _ _ h fun _ _ z => nomatch z⟩)
  · exact .inr h
theorem plT_kp {H H' : Hp} {a : Addr} {zs : List V} (k : Kp H H') (h : PlT H a zs) : PlT H' a zs := h.elim fun o g => ⟨o, g.1, k _ _ g.2 fun _ _ z => nomatch z⟩
theorem dyP_kp {K : PySem.W.Frag} {H H' : Hp} {qs : List Addr} {ds : List (Nat × Nat)} (k : Kp H H') (h : DyP K H qs ds) : DyP K H' qs ds := ⟨h.1, fun i q hq => by obtain ⟨c, d, g1, g2⟩ := h.2 i q hq; exact ⟨c, d, g1, sqT_kp k g2⟩⟩
theorem valV_at : ∀ {kvs : List (Key × V)} {k : Key} {v : V} {i : Nat}, (kvs.map (·.1)).Nodup → kvs[i]? = some (k, v) → valV kvs k = some v
  | [], _, _, _, _, h => by simp at h
  | (a, b) :: r, k, v, i, nd, h => by
    rw [List.map_cons, List.nodup_cons] at nd
    cases i with
    | zero =>
      simp at h
      obtain ⟨rfl, rfl⟩ := h
      simp [valV]
    | succ i =>
      have h' : r[i]? = some (k, v) := by simpa using h
      have hm : k ∈ r.map (·.1) := List.mem_map.mpr ⟨(k, v), List.mem_of_getElem? h', rfl⟩
      have hne : ¬ a = k := fun e => nd.1 (e ▸ hm)
      have ih := valV_at nd.2 h'
      unfold valV at ih ⊢
      rw [List.find?_cons_of_neg (by simpa using hne)]
      exact ih
theorem merge_new : ∀ (more kvs : List (Key × V)), ((kvs ++ more).map (·.1)).Nodup → mergeK kvs more = kvs ++ more
  | [], kvs, _ => by rw [List.append_nil]; rfl
  | (k, v) :: r, kvs, nd => by
    have e : kvs ++ (k, v) :: r = (kvs ++ [(k, v)]) ++ r := by rw [List.append_assoc]; rfl
    have hk : k ∉ kvs.map (·.1) := fun hm => by
      rw [List.map_append, List.nodup_append] at nd
      exact nd.2.2 k hm k (List.mem_map.mpr ⟨(k, v), List.mem_cons_self, rfl⟩) rfl
    show mergeK (putK kvs k v) r = _
    rw [putK_new hk, merge_new r (kvs ++ [(k, v)]) (by rw [← e]; exact nd), ← e]
/-- x.f = dict(pairs), at the end -/
theorem s_fldDict {K : PySem.W.Frag} {σ : L2.St} {H : Hp} {ta te : TE} {D : Ends} {x dx C t : Addr} {ks : List Str} {vs : List V} {f : Str} {qs : List Addr} {ds : List (Nat × Nat)} (cl : Cls K C) (na : NoAttr K C f) (hx : H x = some (.ins C dx (ks.zip vs))) (hl : ks.length = vs.length) (hn : f ∉ ks) (hz : ks.length < 100)
    (hv : Ev te σ H (.ref t)) (ht : PlT H t (qs.map V.ref)) (hq : DyP K H qs ds) (hnd : (ds.map Prod.fst).Nodup) (ho : ∀ H1, Ev ta σ H1 (.ref x)) (k : ∀ p H1, H p = none → Ex H H1 → H1 p = some (.dK (dyesK ds)) → D.nx σ (upd H1 x (.ins C dx ((ks ++ [f]).zip (vs ++ [.ref p]))))) : sFld K ta (tCB (rDictT K) (tCons te tNil)) f D σ H :=
  hv H (Ex.refl H) _ fun H1 e => ⟨t, qs, dyesK ds, rfl, ht.ex e, paired_dy (hq.ex e), fun p hp => ho _ _ (Ex.refl _) _ fun H2 e2 => by
    rw [merge_new (dyesK ds) [] (dyesK_nd hnd), List.nil_append] at e2
    have e3 : Ex H H2 := (e.trans (Ex.new hp)).trans e2
    exact ⟨x, C, dx, _, rfl, e3 _ _ hx, cl, na, by rw [List.length_zip]; omega, by
      rw [putF_new hn hl]
      exact k p H2 (fresh_back e hp) e3 (e2 _ _ upd_same)⟩⟩
/-- a def's name, as a value -/
theorem pe_gfn {X : Cx} {x : Str} {f : Addr} {pos : Pos} (hm : X.mg x = some (.ref f)) (hg : Gl X x := by rfl) (hd : (x == ("__debug__" : Str)) = false := by decide) : PE X (.Name x pos) (tC (.ref f)) :=
  pe_glob (v := V.ref f) hg hm rfl hd
/-- what a keeper of the things of a press promises -/
def sp_keep (K : PySem.W.Frag) (d : Nat) (c : Nat) : Sp := fun vs H Q _ => ∃ (p : Pr) (v : V) (ws : List V), vs = [v] ∧ (idx p = c ∧ Sq H v ws ∧ HandR H p ws ∧ dep p ≤ d + 1 ∧ Form p ∧ NoDye p) ∧
  RetP (fun v' H' => ∃ q ys, v' = .ref q ∧ SqT K H' q ys ∧ KeptR K H' p ys) H Q
def sp_kept_press (K : PySem.W.Frag) (d : Nat) : Sp := fun vs H Q _ => ∃ (p : Pr) (v : V), vs = [v] ∧ (Hand H p v ∧ dep p ≤ d ∧ Form p ∧ NoDye p) ∧ RetP (fun v' H' => Kept K H' p v') H Q
theorem kept_mono {K : PySem.W.Frag} {p : Pr} : ∀ v' H1 H2, Ex H1 H2 → Kept K H1 p v' → Kept K H2 p v' := fun _ _ _ e h => Kept.ex e h
def sp_need (K : PySem.W.Frag) : Sp := fun vs H Q _ => vs = [.bl true] ∧ RetV .non H Q
end RX

/-! Whether a handed press is small; its parts. -/
namespace RY
open PySem PySem.Spec PyProof.Rows L2 Evl TL RC RD RE RG RI RP RQ RS RR RT RU RV RX
mutual
def parts : Pr → Nat
  | .wheel _ => 1
  | .turned p _ => parts p + 1
  | .over a b => parts a + parts b + 1
  | .cut a b => parts a + parts b + 1
  | .held a b => parts a + parts b + 1
  | .taking ps => partsT ps + 1
  | .thn a _ b => parts a + parts b + 1
  | .dyed p _ => parts p + 1
def partsT : Ps → Nat
  | .nil => 0
  | .cons p _ r => parts p + partsT r
end
mutual
theorem dep_parts : ∀ p : Pr, dep p ≤ parts p
  | .wheel _ => Nat.le_refl _
  | .turned p _ => by have := dep_parts p; show dep p + 1 ≤ parts p + 1; omega
  | .over a b => by have := dep_parts a; have := dep_parts b; show max (dep a) (dep b) + 1 ≤ parts a + parts b + 1; omega
  | .cut a b => by have := dep_parts a; have := dep_parts b; show max (dep a) (dep b) + 1 ≤ parts a + parts b + 1; omega
  | .held a b => by have := dep_parts a; have := dep_parts b; show max (dep a) (dep b) + 1 ≤ parts a + parts b + 1; omega
  | .taking ps => by have := dep_partsT ps; show depT ps + 1 ≤ partsT ps + 1; omega
  | .thn a _ b => by have := dep_parts a; have := dep_parts b; show max (dep a) (dep b) + 1 ≤ parts a + parts b + 1; omega
  | .dyed p _ => by have := dep_parts p; show dep p + 1 ≤ parts p + 1; omega
theorem dep_partsT : ∀ ps : Ps, depT ps ≤ partsT ps
  | .nil => Nat.le_refl _
  | .cons p _ r => by have := dep_parts p; have := dep_partsT r; show max (dep p) (depT r) ≤ parts p + partsT r; omega
end
/-- xs != [] -/
def rNeNil : R2 := fun x y H Q => ∃ a b xs, x = .ref a ∧ y = .ref b ∧ H a = some (.lst xs) ∧ H b = some (.lst []) ∧ Q (.bl (!decide (xs = []))) H
theorem op_neNil {X : Cx} (hu : X.A.units < cLine) : OpR X (compareOp .NotEq) rNeNil := by
  intro pins s σ H x y v u Q I rx ry h
  obtain ⟨a, b, xs, rfl, rfl, ha, hb, q⟩ := h
  cases rx
  cases ry
  obtain ⟨_, its, n, r, hl, e⟩ := I.lstM ha
  obtain ⟨_, its2, n2, r2, hl2, e2⟩ := I.lstM hb
  have hz2 : its2 = [] := List.eq_nil_of_length_eq_zero (by rw [← hl2]; rfl)
  subst hz2
  have L1 : s.heap.IsList a its.toArray := ⟨_, e, rfl, n, rfl⟩
  have L2' : s.heap.IsList b ([] : List Value).toArray := ⟨_, e2, rfl, n2, rfl⟩
  by_cases hx : xs = []
  · subst hx
    have hz : its = [] := List.eq_nil_of_length_eq_zero (by rw [← hl]; rfl)
    subst hz
    exact SeqAt.RcNeAt.lists (e := fun _ => true) L1 L2' rfl hu (fun j h1 _ => absurd h1 (Nat.not_lt_zero _)) X.prog X.w X.xe _ ⟨.bl false, H, I, rfl, q⟩
  · have hne : (its.toArray.size != ([] : List Value).toArray.size) = true := by
      have : its.length ≠ 0 := fun z => hx (List.eq_nil_of_length_eq_zero (by rw [hl]; exact z))
      simpa using this
    rw [decide_eq_false hx] at q
    exact SeqAt.RcNeAt.lists_lengths L1 L2' hne hu X.prog X.w X.xe _ ⟨.bl true, H, I, rfl, q⟩
/-! ### what is looked at -/
def ItV (H : Hp) (v : V) (k : Nat) : Prop := ((∃ n : Int, v = .int n) ∨ ∃ l, v = T l) ∧ k = 0 ∨ (∃ p, Hand H p v ∧ NoDye p ∧ Form p ∧ k = parts p) ∨ (∃ xs, Sq H v xs ∧ ∀ x ∈ xs, ∃ ys, Sq H x ys) ∧ k = 0
def Its (H : Hp) : List V → Nat → Prop
  | [], k => k = 0
  | v :: r, k => ∃ a b, k = a + b ∧ ItV H v a ∧ Its H r b
theorem ItV.ex {H H' : Hp} {v : V} {k : Nat} (e : Ex H H') (h : ItV H v k) : ItV H' v k := by
  rcases h with h | ⟨p, h1, h2⟩ | ⟨⟨xs, h1, h2⟩, h3⟩
  · exact .inl h
  · exact .inr (.inl ⟨p, h1.ex e, h2⟩)
  · exact .inr (.inr ⟨⟨xs, h1.ex e, fun x hx => (h2 x hx).elim fun ys g => ⟨ys, g.ex e⟩⟩, h3⟩)
theorem Its.ex {H H' : Hp} (e : Ex H H') : ∀ {xs : List V} {k : Nat}, Its H xs k → Its H' xs k
  | [], _, h => h
  | _ :: _, _, ⟨a, b, h1, h2, h3⟩ => ⟨a, b, h1, h2.ex e, Its.ex e h3⟩
theorem Its.app {H : Hp} : ∀ {xs ys : List V} {j k : Nat}, Its H xs j → Its H ys k → Its H (xs ++ ys) (j + k)
  | [], ys, j, k, h1, h2 => by
    have e : j = 0 := h1
    subst e
    rw [Nat.zero_add]
    exact h2
  | x :: r, ys, j, k, ⟨a, b, e, h3, h4⟩, h2 => ⟨a, b + k, by omega, h3, Its.app h4 h2⟩
theorem Its.last {H : Hp} : ∀ {xs : List V} {y : V} {k : Nat}, Its H (xs ++ [y]) k → ∃ a b, k = a + b ∧ Its H xs a ∧ ItV H y b
  | [], y, k, ⟨a, b, e, h1, h2⟩ => ⟨0, a, by have : b = 0 := h2; omega, rfl, h1⟩
  | x :: r, y, k, ⟨a, b, e, h1, h2⟩ => by
    obtain ⟨c, d, g1, g2, g3⟩ := Its.last h2
    exact ⟨a + c, d, by omega, ⟨a, c, rfl, h1, g2⟩, g3⟩
theorem its_hand {H : Hp} {p : Pr} {v : V} {ws : List V} (hs : Sq H v (T (wd (idx p)) :: ws)) (hh : HandR H p ws) (hn : NoDye p) (hf : Form p) : ItV H v (parts p) := .inr (.inl ⟨p, ⟨ws, hs, hh⟩, hn, hf, rfl⟩)
section
variable {K : PySem.W.Frag} {σ : L2.St} {H : Hp} {ta tb te tx : TE} {tt : TT} {v : V} {xs ws : List V} {vs : List Nat}
/-- v[1:4] of at most four -/
theorem evp_sl14 {x : V} {tl th : TO} (h : Ev te σ H v) (hs : Sq H v (x :: xs)) (hl : EvO tl σ H (some 1)) (hh : EvO th σ H (some 4)) (h3 : xs.length ≤ 3) : EvP (tSl (rSlQ K) te tl th) σ H (fun v' H' => Sq H' v' xs) := fun H1 e Q q => h H1 e _ fun H2 e2 => hl H2 (e.trans e2) _ fun H3 e3 => hh H3 ((e.trans e2).trans e3) _ fun H4 e4 => by
  obtain ⟨a, rfl, ha⟩ := hs.ex (((e.trans e2).trans e3).trans e4)
  have h1 : HT.sIx (x :: xs).length 0 (some 1) = 1 := by
    have := HT.sIx_nat (x :: xs).length 0 1
    rw [show ((1 : Nat) : Int) = 1 from rfl] at this
    rw [this, List.length_cons]
    omega
  have h4 : HT.sIx (x :: xs).length (x :: xs).length (some 4) = xs.length + 1 := by
    have := HT.sIx_nat (x :: xs).length (x :: xs).length 4
    rw [show ((4 : Nat) : Int) = 4 from rfl] at this
    rw [this, List.length_cons]
    omega
  have hc : cutV (x :: xs) (some 1) (some 4) = xs := by
    unfold cutV
    rw [h1, h4]
    simp
  rcases ha with ha | ha
  · refine .inl ⟨a, _, rfl, SqL.of ha, fun p hp => ?_⟩
    rw [hc]
    exact q _ _ (((e2.trans e3).trans e4).trans (Ex.new hp)) ⟨p, rfl, .inl upd_same⟩
  · refine .inr ⟨a, _, rfl, .inl ha, fun z => ?_, fun p hp => ?_⟩
    · rw [h1] at z
      omega
    · rw [hc]
      exact q _ _ (((e2.trans e3).trans e4).trans (Ex.new hp)) ⟨p, rfl, .inr (.inl upd_same)⟩
/-- a comprehension over a list or a tuple, by places -/
theorem el_lcQ {j : Nat} (ys : List V) (h : Ev te σ H v) (hs : Sq H v xs) (hy : ys.length = xs.length) (hz : xs.length ≤ 40000) (hw : ∀ x, wipe ((wipe σ vs).set j (some x)) vs = wipe σ vs)
    (ht : ∀ (i : Nat) x H1, Ex H H1 → xs[i]? = some x → EvT tt ((wipe σ vs).set j (some x)) H1 true) (he : ∀ (i : Nat) x y H1, Ex H H1 → xs[i]? = some x → ys[i]? = some y → Ev tx ((wipe σ vs).set j (some x)) H1 y) :
    EvL (tLc (fun σ H R => iList K te σ H R ∨ iTup K te σ H R) (gName j) tt tx vs) σ H ys := by
  have hg : given xs.length (fun _ => true) (fun i => ys.getD i .non) = ys := by
    unfold given
    rw [List.filter_eq_self.mpr (fun _ _ => rfl)]
    apply List.ext_getElem
    · simp [hy]
    · intro i h1 h2
      simp [List.getD, h2]
  obtain ⟨a, rfl, ha⟩ := hs
  rw [← hg]
  have he' : ∀ (i : Nat) x H1, Ex H H1 → xs[i]? = some x → Ev tx ((wipe σ vs).set j (some x)) H1 (ys.getD i .non) := fun i x H1 e hx => by
    have hi := (List.getElem?_eq_some_iff.mp hx).1
    have hyi : ys[i]? = some (ys.getD i .non) := by simp [List.getD, hy ▸ hi]
    exact he i x _ H1 e hx hyi
  intro H0 e Q q
  rcases ha with ha | ha
  · exact .inl (el_lcL (fun _ => true) (fun i => ys.getD i .non) h (SqL.of ha) hz hw (fun i x H1 e hx => ht i x H1 e hx) (fun i x H1 e hx _ => he' i x H1 e hx) H0 e Q q)
  · refine .inr (h H0 e _ fun H1 ee => ⟨a, rfl, ⟨xs, .inl (ex_rd (e.trans ee) ha)⟩, fun Dl hD => lc_it (walk_tup (a := a) (xs := xs)) (Cw H1 (fun _ => true) (fun i => ys.getD i .non) Dl) ⟨hD, Ex.new hD, upd_same⟩ (fun i H' _ pv => .inl (ex_rd ((e.trans ee).trans pv.2.1) ha)) (fun i x H2 H3 hi pv y => ?_) (fun H2 pv => q Dl H2 (fresh_back ee pv.1) (ee.trans pv.2.1) pv.2.2)⟩)
    obtain ⟨rfl, hx⟩ := y
    exact ⟨hw x, cw_turn pv (by omega) (ht i x H1 (e.trans ee) hx) (fun _ => he' i x H1 (e.trans ee) hx)⟩
theorem q_parP {D : Ends} {tz : TS} {i j : Nat} {ta : TA} {P : List V → Hp → Prop} (h : EvAP ta σ H P) (hp : ∀ vs H1, P vs H1 → ∃ v w, vs = [v, w]) (k : ∀ v w H1, Ex H H1 → P [v, w] H1 → tz D ((σ.set i (some v)).set j (some w)) H1) : tSeq (tPar i j ta) tz D σ H :=
  h H (Ex.refl H) _ fun vs H1 e p => by
    obtain ⟨v, w, rfl⟩ := hp vs H1 p
    exact ⟨v, w, rfl, k v w H1 e p⟩
theorem evp_lst {zs : List V} (h : EvL te σ H zs) : EvP te σ H (fun v' H' => ∃ l, v' = .ref l ∧ H l = none ∧ H' l = some (.lst zs)) := fun H1 e Q q => h H1 e _ fun p H2 hp e2 h2 => q _ H2 e2 ⟨p, rfl, fresh_back e hp, h2⟩
theorem q_pop {D : Ends} {tz : TS} {i : Nat} {l : Addr} {y : V} (hl : H l = some (.lst (xs ++ [y]))) (ha : Ev ta σ H (.ref l)) (k : ∀ H1, Ex H H1 → tz D (σ.set i (some y)) (upd H1 l (.lst xs))) : tSeq (tAsg (tBM0 K "list" rPop ta) (gName i)) tz D σ H :=
  ha H (Ex.refl H) _ fun H1 e1 => ⟨Or.inl ⟨rfl, _, sq_of (e1 l _ hl)⟩, l, xs ++ [y], y, rfl, rfl, e1 l _ hl, by simp, by
    rw [List.dropLast_concat]
    exact k H1 e1⟩
theorem s_extP {D : Ends} {P : V → Hp → Prop} {l : Addr} (hl : H l = some (.lst xs)) (ha : Ev ta σ H (.ref l)) (h : EvP te σ H P) (hp : ∀ v H1, Ex H H1 → P v H1 → ∃ b zs, v = .ref b ∧ H1 b = some (.lst zs) ∧ xs.length + zs.length ≤ 100000 ∧ D.nx σ (upd H1 l (.lst (xs ++ zs)))) : tDrop (tBM K "list" rExtend ta (tCons te tNil)) D σ H :=
  ha H (Ex.refl H) _ fun H1 e1 => ⟨Or.inl ⟨rfl, xs, sq_of (e1 l _ hl)⟩, h H1 e1 _ fun v H2 e2 p => by
    obtain ⟨b, zs, rfl, g1, g2, g3⟩ := hp v H2 (e1.trans e2) p
    exact ⟨l, b, xs, zs, rfl, rfl, e2 l _ (e1 l _ hl), g1, by rw [big]; omega, g3⟩⟩
theorem handR_its : ∀ {p : Pr} {ws : List V}, HandR H p ws → NoDye p → Form p → idx p ≠ 5 → ∃ k, Its H ws k ∧ k + 1 = parts p ∧ ws.length ≤ 3
  | .wheel rim, _, h, _, _, _ => by
    have e : _ = [T rim] := h
    subst e
    exact ⟨0, ⟨0, 0, rfl, .inl ⟨.inr ⟨rim, rfl⟩, rfl⟩, rfl⟩, rfl, by show 1 ≤ 3; decide⟩
  | .turned p n, _, ⟨x, ws, e, h1, h2⟩, hn, hf, _ => by
    subst e
    exact ⟨parts p, ⟨parts p, 0, rfl, its_hand h1 h2 hn hf, 0, 0, rfl, .inl ⟨.inl ⟨_, rfl⟩, rfl⟩, rfl⟩, rfl, by show 2 ≤ 3; decide⟩
  | .over a b, _, ⟨x, y, ws, zs, e, h1, h2, h3, h4⟩, hn, hf, _ => by
    subst e
    exact ⟨parts a + parts b, ⟨parts a, parts b, rfl, its_hand h1 h3 hn.1 hf.1, parts b, 0, rfl, its_hand h2 h4 hn.2 hf.2, rfl⟩, rfl, by show 2 ≤ 3; decide⟩
  | .cut a b, _, ⟨x, y, ws, zs, e, h1, h2, h3, h4⟩, hn, hf, _ => by
    subst e
    exact ⟨parts a + parts b, ⟨parts a, parts b, rfl, its_hand h1 h3 hn.1 hf.1, parts b, 0, rfl, its_hand h2 h4 hn.2 hf.2, rfl⟩, rfl, by show 2 ≤ 3; decide⟩
  | .held a b, _, ⟨x, y, ws, zs, e, h1, h2, h3, h4⟩, hn, hf, _ => by
    subst e
    exact ⟨parts a + parts b, ⟨parts a, parts b, rfl, its_hand h1 h3 hn.1 hf.1, parts b, 0, rfl, its_hand h2 h4 hn.2 hf.2, rfl⟩, rfl, by show 2 ≤ 3; decide⟩
  | .taking ps, _, _, _, _, h5 => absurd rfl h5
  | .thn a n b, _, ⟨x, y, ws, zs, e, h1, h2, h3, h4⟩, hn, hf, _ => by
    subst e
    exact ⟨parts a + parts b, ⟨parts a, parts b, rfl, its_hand h1 h3 hn.1 hf.1, 0, parts b, by omega, .inl ⟨.inl ⟨_, rfl⟩, rfl⟩, parts b, 0, rfl, its_hand h2 h4 hn.2 hf.2, rfl⟩, rfl, by show 3 ≤ 3; decide⟩
  | .dyed p ds, _, ⟨x, y, ws, qs, e, h1, h2, h3, h4, h5⟩, hn, hf, _ => by
    subst e
    refine ⟨parts p, ⟨parts p, 0, rfl, its_hand h1 h5 hn.1 hf, 0, 0, rfl, .inr (.inr ⟨⟨qs, h2, fun q hq => ?_⟩, rfl⟩), rfl⟩, rfl, by show 2 ≤ 3; decide⟩
    obtain ⟨i, hi⟩ := List.getElem?_of_mem hq
    obtain ⟨c, d, _, g⟩ := h4 i q hi
    exact ⟨_, g⟩
/-- the presses of pairs -/
theorem handT_its : ∀ {ps : Ps} {xs : List V}, HandT H ps xs → NoDyeT ps → FormT ps → ∃ ys, ys.length = xs.length ∧ Its H ys (partsT ps) ∧ ∀ (i : Nat) x y, xs[i]? = some x → ys[i]? = some y → ∃ n, Sq H x [y, n]
  | .nil, xs, h, _, _ => by
    have e : xs = [] := h
    subst e
    exact ⟨[], rfl, rfl, fun i x y hx => by simp at hx⟩
  | .cons p n r, _, ⟨q, x, ws, ys, e, h1, h2, h3, h4⟩, hn, hf => by
    subst e
    obtain ⟨zs, g1, g2, g3⟩ := handT_its h4 hn.2 hf.2.2
    refine ⟨x :: zs, by rw [List.length_cons, List.length_cons, g1], ⟨parts p, partsT r, rfl, its_hand h2 h3 hn.1 hf.1, g2⟩, fun i a b ha hb => ?_⟩
    cases i with
    | zero =>
      simp at ha hb
      subst ha
      subst hb
      exact ⟨_, h1⟩
    | succ i => exact g3 i a b (by simpa using ha) (by simpa using hb)
end
def sp_things_within (K : PySem.W.Frag) : Sp := fun vs H Q _ => ∃ (p : Pr) (v : V) (G : Hp), vs = [v] ∧ (Ex G H ∧ Hand G p v ∧ NoDye p ∧ Form p) ∧
  RetP (fun v' H' => ∃ l zs k, v' = .ref l ∧ new H H' l = some (.lst zs) ∧ Its G zs k ∧ k + 1 = parts p ∧ zs.length ≤ 6) H Q
def sp_is_small (K : PySem.W.Frag) : Sp := fun vs H Q _ => ∃ (p : Pr) (v : V), vs = [v] ∧ (Hand H p v ∧ NoDye p ∧ Form p ∧ parts p ≤ 60) ∧ RetV (.bl true) H Q
def sp_count_parts (K : PySem.W.Frag) (d : Nat) : Sp := fun vs H Q _ => ∃ (p : Pr) (v : V), vs = [v] ∧ (Kept K H p v ∧ dep p ≤ d ∧ NoDye p ∧ Form p) ∧ RetV (.int (parts p : Int)) H Q
end RY

/-! Parts counted; a press rolled. -/
namespace RZ1
open PySem PySem.Spec PyProof.Rows L2 Evl TL RC RD RE RG RI RP RQ RS RR RT RU RV RX RY
def psL : Ps → List Pr
  | .nil => []
  | .cons p _ r => p :: psL r
def kids : Pr → List Pr
  | .wheel _ => []
  | .turned p _ => [p]
  | .over a b => [a, b]
  | .cut a b => [a, b]
  | .held a b => [a, b]
  | .taking ps => psL ps
  | .thn a _ b => [a, b]
  | .dyed p _ => [p]
def sumP : List Pr → Nat
  | [] => 0
  | p :: r => parts p + sumP r
theorem sumP_psL : ∀ ps : Ps, sumP (psL ps) = partsT ps
  | .nil => rfl
  | .cons p _ r => by
    show parts p + sumP (psL r) = parts p + partsT r
    rw [sumP_psL r]
theorem sum_kids (p : Pr) : 1 + sumP (kids p) = parts p := by
  cases p with
  | taking ps =>
    show 1 + sumP (psL ps) = partsT ps + 1
    rw [sumP_psL]
    omega
  | wheel _ => rfl
  | turned p _ => show 1 + (parts p + 0) = parts p + 1; omega
  | dyed p _ => show 1 + (parts p + 0) = parts p + 1; omega
  | over a b => show 1 + (parts a + (parts b + 0)) = parts a + parts b + 1; omega
  | cut a b => show 1 + (parts a + (parts b + 0)) = parts a + parts b + 1; omega
  | held a b => show 1 + (parts a + (parts b + 0)) = parts a + parts b + 1; omega
  | thn a _ b => show 1 + (parts a + (parts b + 0)) = parts a + parts b + 1; omega
theorem depT_mem : ∀ {ps : Ps} {q : Pr}, q ∈ psL ps → dep q ≤ depT ps
  | .nil, _, h => by cases h
  | .cons p _ r, q, h => by
    show dep q ≤ max (dep p) (depT r)
    rcases List.mem_cons.mp h with e | e
    · rw [e]
      omega
    · have := depT_mem e
      omega
theorem dep_kids {p q : Pr} (h : q ∈ kids p) : dep q < dep p := by
  cases p with
  | wheel _ => cases h
  | turned p n => obtain rfl := List.mem_singleton.mp h; exact Nat.lt_succ_self _
  | dyed p n => obtain rfl := List.mem_singleton.mp h; exact Nat.lt_succ_self _
  | taking ps => exact Nat.lt_succ_of_le (depT_mem h)
  | over a b => show dep q < max (dep a) (dep b) + 1; rcases List.mem_cons.mp h with rfl | e; omega; obtain rfl := List.mem_singleton.mp e; omega
  | cut a b => show dep q < max (dep a) (dep b) + 1; rcases List.mem_cons.mp h with rfl | e; omega; obtain rfl := List.mem_singleton.mp e; omega
  | held a b => show dep q < max (dep a) (dep b) + 1; rcases List.mem_cons.mp h with rfl | e; omega; obtain rfl := List.mem_singleton.mp e; omega
  | thn a n b => show dep q < max (dep a) (dep b) + 1; rcases List.mem_cons.mp h with rfl | e; omega; obtain rfl := List.mem_singleton.mp e; omega
theorem noDyeT_mem : ∀ {ps : Ps} {q : Pr}, q ∈ psL ps → NoDyeT ps → NoDye q
  | .cons p _ r, q, h, hn => by
    rcases List.mem_cons.mp h with e | e
    · rw [e]
      exact hn.1
    · exact noDyeT_mem e hn.2
theorem noDye_kids {p q : Pr} (h : q ∈ kids p) (hn : NoDye p) : NoDye q := by
  cases p with
  | wheel _ => cases h
  | turned p n => obtain rfl := List.mem_singleton.mp h; exact hn
  | dyed p n => obtain rfl := List.mem_singleton.mp h; exact hn.1
  | taking ps => exact noDyeT_mem h hn
  | over a b => rcases List.mem_cons.mp h with rfl | e; exact hn.1; obtain rfl := List.mem_singleton.mp e; exact hn.2
  | cut a b => rcases List.mem_cons.mp h with rfl | e; exact hn.1; obtain rfl := List.mem_singleton.mp e; exact hn.2
  | held a b => rcases List.mem_cons.mp h with rfl | e; exact hn.1; obtain rfl := List.mem_singleton.mp e; exact hn.2
  | thn a n b => rcases List.mem_cons.mp h with rfl | e; exact hn.1; obtain rfl := List.mem_singleton.mp e; exact hn.2
/-- presses kept, one by one -/
def KL (K : PySem.W.Frag) (H : Hp) : List Pr → List V → Prop
  | [], zs => zs = []
  | p :: r, zs => ∃ x ys, zs = x :: ys ∧ Kept K H p x ∧ KL K H r ys
theorem KL.len {K : PySem.W.Frag} {H : Hp} : ∀ {ps : List Pr} {zs : List V}, KL K H ps zs → ps.length = zs.length
  | [], zs, h => by
    have e : zs = [] := h
    rw [e]
    rfl
  | p :: r, zs, ⟨x, ys, e, _, h⟩ => by rw [e, List.length_cons, List.length_cons, h.len]
theorem KL.at {K : PySem.W.Frag} {H : Hp} : ∀ {ps : List Pr} {zs : List V} {i : Nat} {x : V}, KL K H ps zs → zs[i]? = some x → ∃ p, ps[i]? = some p ∧ Kept K H p x
  | [], zs, i, x, h, hx => by
    have e : zs = [] := h
    subst e
    simp at hx
  | p :: r, zs, i, x, ⟨y, ys, e, h1, h2⟩, hx => by
    subst e
    cases i with
    | zero => exact ⟨p, rfl, by simp at hx; rw [← hx]; exact h1⟩
    | succ i => exact h2.at (by simpa using hx)
def KidsV (K : PySem.W.Frag) (H : Hp) : Pr → V → List V → Prop
  | .wheel rim, v, zs => (∃ a, v = .ref a ∧ SqT K H a [T (wd 0), T rim]) ∧ zs = []
  | .turned p n, v, zs => ∃ a x, v = .ref a ∧ SqT K H a [T (wd 1), x, .int (n : Int)] ∧ zs = [x]
  | .over _ _, v, zs => ∃ c x y, v = .ref c ∧ SqT K H c [T (wd 2), x, y] ∧ zs = [x, y]
  | .cut _ _, v, zs => ∃ c x y, v = .ref c ∧ SqT K H c [T (wd 3), x, y] ∧ zs = [x, y]
  | .held _ _, v, zs => ∃ c x y, v = .ref c ∧ SqT K H c [T (wd 4), x, y] ∧ zs = [x, y]
  | .taking ps, v, zs => ∃ a t xs, v = .ref a ∧ SqT K H a [T (wd 5), .ref t] ∧ SqT K H t xs ∧ xs.length = zs.length ∧ xs.length ≤ 1000 ∧ ∀ (i : Nat) x z, xs[i]? = some x → zs[i]? = some z → ∃ q n, x = .ref q ∧ SqT K H q [z, n]
  | .thn _ n _, v, zs => ∃ c x y, v = .ref c ∧ SqT K H c [T (wd 6), x, .int (n : Int), y] ∧ zs = [x, y]
  | .dyed _ _, v, zs => ∃ a x t, v = .ref a ∧ SqT K H a [T (wd 7), x, t] ∧ zs = [x]
theorem keptT_kids {K : PySem.W.Frag} {H : Hp} : ∀ {ps : Ps} {xs : List V}, KeptT K H ps xs → ∃ zs, xs.length = zs.length ∧ KL K H (psL ps) zs ∧ ∀ (i : Nat) x z, xs[i]? = some x → zs[i]? = some z → ∃ q n, x = .ref q ∧ SqT K H q [z, n]
  | .nil, xs, h => by
    have e : xs = [] := h
    subst e
    exact ⟨[], rfl, rfl, fun i x z hx => by simp at hx⟩
  | .cons p n r, xs, ⟨q, x, ys, e, h1, h2, h3⟩ => by
    subst e
    obtain ⟨zs, g1, g2, g3⟩ := keptT_kids h3
    refine ⟨x :: zs, by rw [List.length_cons, List.length_cons, g1], ⟨x, zs, rfl, h2, g2⟩, fun i a b ha hb => ?_⟩
    cases i with
    | zero =>
      simp at ha hb
      subst ha
      subst hb
      exact ⟨q, _, rfl, h1⟩
    | succ i => exact g3 i a b (by simpa using ha) (by simpa using hb)
theorem kept_kids {K : PySem.W.Frag} {H : Hp} {p : Pr} {v : V} (h : Kept K H p v) (hn : NoDye p) (hf : Form p) : ∃ zs, KidsV K H p v zs ∧ KL K H (kids p) zs := by
  cases p with
  | wheel _ => obtain ⟨a, h1, h2⟩ := h; exact ⟨[], ⟨⟨a, h1, h2⟩, rfl⟩, rfl⟩
  | turned _ _ => obtain ⟨a, x, h1, h2, h3⟩ := h; exact ⟨[x], ⟨a, x, h1, h2, rfl⟩, ⟨x, [], rfl, h3, rfl⟩⟩
  | over _ _ => obtain ⟨c, x, y, h1, h2, h3, h4⟩ := h; exact ⟨[x, y], ⟨c, x, y, h1, h2, rfl⟩, ⟨x, [y], rfl, h3, y, [], rfl, h4, rfl⟩⟩
  | cut _ _ => obtain ⟨c, x, y, h1, h2, h3, h4⟩ := h; exact ⟨[x, y], ⟨c, x, y, h1, h2, rfl⟩, ⟨x, [y], rfl, h3, y, [], rfl, h4, rfl⟩⟩
  | held _ _ => obtain ⟨c, x, y, h1, h2, h3, h4⟩ := h; exact ⟨[x, y], ⟨c, x, y, h1, h2, rfl⟩, ⟨x, [y], rfl, h3, y, [], rfl, h4, rfl⟩⟩
  | taking ps =>
    obtain ⟨a, t, xs, h1, h2, h3, h4⟩ := h
    obtain ⟨zs, g1, g2, g3⟩ := keptT_kids h4
    have hl := keptT_len h4
    have h6 := hf.2.2
    exact ⟨zs, ⟨a, t, xs, h1, h2, h3, g1, by omega, g3⟩, g2⟩
  | thn _ _ _ => obtain ⟨c, x, y, h1, h2, h3, h4⟩ := h; exact ⟨[x, y], ⟨c, x, y, h1, h2, rfl⟩, ⟨x, [y], rfl, h3, y, [], rfl, h4, rfl⟩⟩
  | dyed _ _ => obtain ⟨a, x, t, qs, h1, h2, h3, h4, h5⟩ := h; exact ⟨[x], ⟨a, x, _, h1, h2, rfl⟩, ⟨x, [], rfl, h5, rfl⟩⟩
theorem formT_mem : ∀ {ps : Ps} {q : Pr}, q ∈ psL ps → FormT ps → Form q
  | .cons p _ r, q, h, hn => by
    rcases List.mem_cons.mp h with e | e
    · rw [e]
      exact hn.1
    · exact formT_mem e hn.2.2
theorem form_kids {p q : Pr} (h : q ∈ kids p) (hn : Form p) : Form q := by
  cases p with
  | wheel _ => cases h
  | turned p n => obtain rfl := List.mem_singleton.mp h; exact hn
  | dyed p n => obtain rfl := List.mem_singleton.mp h; exact hn
  | taking ps => exact formT_mem h hn.1
  | over a b => rcases List.mem_cons.mp h with rfl | e; exact hn.1; obtain rfl := List.mem_singleton.mp e; exact hn.2
  | cut a b => rcases List.mem_cons.mp h with rfl | e; exact hn.1; obtain rfl := List.mem_singleton.mp e; exact hn.2
  | held a b => rcases List.mem_cons.mp h with rfl | e; exact hn.1; obtain rfl := List.mem_singleton.mp e; exact hn.2
  | thn a n b => rcases List.mem_cons.mp h with rfl | e; exact hn.1; obtain rfl := List.mem_singleton.mp e; exact hn.2
def sp_within (K : PySem.W.Frag) : Sp := fun vs H Q _ => ∃ (p : Pr) (v : V) (zs : List V), vs = [v] ∧ KidsV K H p v zs ∧ RetL zs H Q
def sp_rolled (K : PySem.W.Frag) (cs : Nat → Addr) : Sp := fun vs H Q _ => ∃ (p : Pr) (v : V), vs = [v] ∧ (Hand H p v ∧ NoDye p ∧ Form p ∧ parts p ≤ 12 ∧ Fit p ∧ FitR p) ∧
  RetP (fun v' H' => ∃ q k r, v' = .ref q ∧ H' q = some (.tup [k, r]) ∧ Kept K H' p k ∧ Roll cs H' p r) H Q
def sp_need_place (K : PySem.W.Frag) : Sp := fun vs H Q _ => ∃ (n : Nat), vs = [.int (n : Int)] ∧ RetV .non H Q
def sp_mark_at (K : PySem.W.Frag) : Sp := fun vs H Q _ => ∃ (p : Pr) (v : V) (n : Nat), vs = [v, .int (n : Int)] ∧ (Hand H p v ∧ NoDye p ∧ Form p ∧ parts p ≤ 12 ∧ Fit p ∧ FitR p ∧ n + ahd p < lim) ∧ RetV (T [mark p n]) H Q
section
variable {K : PySem.W.Frag} {σ : L2.St} {H : Hp} {te : TE}
theorem ev_ixU {ta tb : TE} {a : Addr} {xs : List V} {i : Nat} {x : V} (ha : Ev ta σ H (.ref a)) (hs : SqT K H a xs) (hb : Ev tb σ H (.int (i : Int))) (hx : xs[i]? = some x) : Ev (tOp (rIxT K) ta tb) σ H x := ev_op ha hb (rv_ixT hs (atI_nat hx))
theorem ev_sumL {ns : List Int} (h : EvL te σ H (ns.map V.int)) : Ev (tCB (rSum K) (tCons te tNil)) σ H (.int ns.sum) := fun H1 e Q q => h H1 e _ fun p H2 _ e2 h2 => ⟨p, ns, rfl, SqL.of h2, q H2 e2⟩
theorem el_if {b : Bool} {t : TT} {ta tb : TE} {xs : List V} (h : EvT t σ H b) (h1 : b = true → EvL ta σ H xs) (h2 : b = false → EvL tb σ H xs) : EvL (tIf t ta tb) σ H xs := fun H1 e Q q => h H1 e _ fun H2 e2 => by
  cases b with
  | true => exact h1 rfl H2 (e.trans e2) _ fun p H3 hp e3 h3 => q p H3 (fresh_back e2 hp) (e2.trans e3) h3
  | false => exact h2 rfl H2 (e.trans e2) _ fun p H3 hp e3 h3 => q p H3 (fresh_back e2 hp) (e2.trans e3) h3
theorem sumP_ints : ∀ ps : List Pr, (ps.map fun q => (parts q : Int)).sum = (sumP ps : Int)
  | [] => rfl
  | p :: r => by
    rw [List.map_cons, List.sum_cons, sumP_ints r]
    show _ = ((parts p + sumP r : Nat) : Int)
    omega
/-- a, b = a told pair -/
theorem q_asgT2P {D : Ends} {tz : TS} {P : V → Hp → Prop} {i j : Nat} (h : EvP te σ H P) (hp : ∀ v H1, P v H1 → ∃ q x y, v = .ref q ∧ H1 q = some (.tup [x, y])) (k : ∀ q x y H1, Ex H H1 → H1 q = some (.tup [x, y]) → P (.ref q) H1 → tz D ((σ.set i (some x)).set j (some y)) H1) :
    tSeq (tAsg te (gTup K 2 (gCons (gName i) (gCons (gName j) gNil)))) tz D σ H := h H (Ex.refl H) _ fun v H1 e p => by
  obtain ⟨q, x, y, rfl, g⟩ := hp v H1 p
  exact ⟨q, _, rfl, SqT.of g, rfl, _, _, rfl, _, _, rfl, rfl, k q x y H1 e g p⟩
/-- [one for one, many in pairs] -/
theorem el_lcFst {t : Addr} {xs zs : List V} {j k : Nat} {vs : List Nat} (h : Ev te σ H (.ref t)) (ht : SqT K H t xs) (hl : xs.length = zs.length) (hz : xs.length ≤ 1000) (hp : ∀ (i : Nat) x z, xs[i]? = some x → zs[i]? = some z → ∃ q n, x = .ref q ∧ SqT K H q [z, n])
    (hw : ∀ x y, wipe (((wipe σ vs).set j (some x)).set k (some y)) vs = wipe σ vs) (hj : ∀ x y, (((wipe σ vs).set j (some x)).set k (some y))[j]? = some (some x)) :
    EvL (tLc (iTup K te) (gTup K 2 (gCons (gName j) (gCons (gName k) gNil))) tYes (tVar j) vs) σ H zs := fun H1 e Q q =>
  h H1 e _ fun H2 e2 => ⟨t, rfl, ⟨xs, ex_t (e.trans e2) ht⟩, fun Dl hD => by
    refine lc_it (walk_tup (a := t) (xs := xs)) (fun i H' => Ex H2 H' ∧ H' Dl = some (.lst (zs.take i))) ⟨Ex.new hD, upd_same⟩ (fun i H' _ hp => ex_t ((e.trans e2).trans hp.1) ht) (fun i x H' H'' hi hpv y => ?_) (fun H' hp => ?_)
    · obtain ⟨e3, hDl⟩ := hpv
      obtain ⟨rfl, hx⟩ := y
      have hiz : i < zs.length := by omega
      obtain ⟨q0, n, rfl, hq0⟩ := hp i x zs[i] hx (List.getElem?_eq_getElem hiz)
      refine ⟨q0, _, rfl, ex_t ((e.trans e2).trans e3) hq0, rfl, _, _, rfl, _, _, rfl, rfl, hw _ _, ?_⟩
      simp only [tYes, ↓reduceIte]
      refine ⟨_, hj _ _, zs.take i, hDl, by rw [List.length_take, big]; omega, e3.mut hD, ?_⟩
      rw [List.take_succ_eq_append_getElem hiz]
      exact upd_same
    · obtain ⟨e3, hDl⟩ := hp
      rw [hl, List.take_length] at hDl
      exact q Dl H' (fresh_back e2 hD) (e2.trans e3) hDl⟩
end
end RZ1

/-! How often a sign stands in a text; marks of rims. -/
namespace RO
open PySem PySem.Spec PyProof.Rows L2 Evl TL RC RD RP
open Builtin Builtin.Str
theorem occ_count (l : List Nat) (c : Nat) : ∀ (n j : Nat) (st : Array Nat × Nat), j + n = l.length + 1 → st.snd ≤ j → st.fst.size ≤ j →
    (forIn (List.range' j n) st (StrLaws.occBody (S l) ⟨#[c]⟩ l.length (l.length + 1))).run.fst.size = st.fst.size + (l.drop j).count c
  | 0, j, st, h, _, _ => by
    rw [List.drop_of_length_le (by omega)]
    rfl
  | n + 1, j, st, h, h1, h2 => by
    rw [List.range'_succ, List.forIn_cons]
    have e := StrLaws.subAt_one (S l) c j
    rw [S_len] at e
    unfold StrLaws.occBody
    have len1 : (⟨#[c]⟩ : Str).length = 1 := rfl
    by_cases hc : l[j]? = some c
    · have hc2 := e.mpr hc
      have hj : j < l.length := (List.getElem?_eq_some_iff.mp hc).1
      rw [if_pos ⟨⟨⟨by omega, h1⟩, hc2.1⟩, hc2.2⟩]
      refine (occ_count l c n (j + 1) (st.fst.push j, j + (⟨#[c]⟩ : Str).length) (by omega) (by rw [len1]; exact Nat.le_refl _) (by simp only [Array.size_push]; omega)).trans ?_
      have ed : l.drop j = c :: l.drop (j + 1) := by
        rw [List.drop_eq_getElem_cons hj]
        congr 1
        exact (List.getElem?_eq_some_iff.mp hc).2
      rw [ed, List.count_cons_self]
      simp only [Array.size_push]
      omega
    · rw [if_neg fun h => hc (e.mp ⟨h.1.2, h.2⟩)]
      refine (occ_count l c n (j + 1) (st.fst, st.snd) (by omega) (by show st.snd ≤ j + 1; omega) (by show st.fst.size ≤ j + 1; omega)).trans ?_
      by_cases hj : j < l.length
      · rw [List.drop_eq_getElem_cons hj, List.count_cons_of_ne]
        intro z
        exact hc (List.getElem?_eq_some_iff.mpr ⟨hj, z⟩)
      · rw [List.drop_of_length_le (by omega), List.drop_of_length_le (by omega)]
theorem count_S (l : List Nat) (c : Nat) : Txt.count (S l) (S [c]) = (l.count c : Int) := by
  show (((occurrences (S l) ⟨#[c]⟩ 0 (S l).length ((S l).length + 1)).length : Nat) : Int) = _
  rw [StrLaws.occ_eq, Array.length_toList, S_len]
  have := occ_count l c (l.length + 1) 0 (#[], 0) (by omega) (Nat.le_refl _) (by simp)
  show (((forIn (List.range' 0 (l.length + 1 - 0)) ((#[] : Array Nat), 0) (StrLaws.occBody (S l) ⟨#[c]⟩ l.length (l.length + 1))).run.fst.size : Nat) : Int) = _
  rw [Nat.sub_zero, this]
  simp
theorem ev_count {σ : L2.St} {H : Hp} {ta tb : TE} {l : List Nat} {c : Nat} {z : Str} (ha : Ev ta σ H (T l)) (hb : Ev tb σ H (.str z)) (hz : z = S [c]) :
    Ev (tM1 (fun x xs H Q => ∃ a b, x = .str a ∧ xs = [.str b] ∧ Q (.int (Txt.count a b)) H) ta tb) σ H (.int (l.count c : Int)) := fun H1 e Q q => by
  subst hz
  exact ha H1 e _ fun H2 e2 => ⟨⟨S l, rfl⟩, hb H2 (e.trans e2) _ fun H3 e3 => ⟨_, _, rfl, rfl, by rw [count_S]; exact q H3 (e2.trans e3)⟩⟩
end RO

/-! Marks counted: of a wheel by rests, of wheels cut by one another by products. Plain. -/
namespace RO1
open RP
def sg (f : Nat → Nat) : Nat → Nat
  | 0 => 0
  | n + 1 => sg f n + f n
theorem sg_congr {f g : Nat → Nat} : ∀ {n : Nat}, (∀ i, i < n → f i = g i) → sg f n = sg g n
  | 0, _ => rfl
  | n + 1, h => by
    show sg f n + f n = sg g n + g n
    rw [sg_congr fun i hi => h i (Nat.lt_succ_of_lt hi), h n (Nat.lt_succ_self n)]
theorem sg_add (f g : Nat → Nat) : ∀ n, sg (fun i => f i + g i) n = sg f n + sg g n
  | 0 => rfl
  | n + 1 => by
    show sg (fun i => f i + g i) n + (f n + g n) = sg f n + f n + (sg g n + g n)
    rw [sg_add f g n]
    omega
theorem sg_mulc (c : Nat) (f : Nat → Nat) : ∀ n, sg (fun i => c * f i) n = c * sg f n
  | 0 => rfl
  | n + 1 => by
    show sg (fun i => c * f i) n + c * f n = c * (sg f n + f n)
    rw [sg_mulc c f n, Nat.mul_add]
theorem sg_mulr (c : Nat) (f : Nat → Nat) (n : Nat) : sg (fun i => f i * c) n = sg f n * c := by
  rw [Nat.mul_comm, ← sg_mulc]
  exact sg_congr fun i _ => Nat.mul_comm _ _
theorem sg_zero : ∀ n, sg (fun _ => 0) n = 0
  | 0 => rfl
  | n + 1 => sg_zero n
theorem sg_swap (f : Nat → Nat → Nat) (n : Nat) : ∀ m, sg (fun i => sg (f i) n) m = sg (fun j => sg (fun i => f i j) m) n
  | 0 => (sg_zero n).symm
  | m + 1 => by
    show sg (fun i => sg (f i) n) m + sg (f m) n = sg (fun j => sg (fun i => f i j) m + f m j) n
    rw [sg_add, sg_swap f n m]
theorem sg_none {f : Nat → Nat} {n : Nat} (h : ∀ i, i < n → f i = 0) : sg f n = 0 := (sg_congr h).trans (sg_zero n)
theorem sg_one {f : Nat → Nat} {s : Nat} : ∀ {n : Nat}, s < n → (∀ i, i < n → i ≠ s → f i = 0) → sg f n = f s
  | 0, h, _ => by omega
  | n + 1, h, h0 => by
    show sg f n + f n = f s
    by_cases e : s = n
    · subst e
      rw [sg_none fun i hi => h0 i (Nat.lt_succ_of_lt hi) (Nat.ne_of_lt hi), Nat.zero_add]
    · rw [sg_one (by omega) fun i hi => h0 i (Nat.lt_succ_of_lt hi), h0 n (Nat.lt_succ_self n) (Ne.symm e), Nat.add_zero]
theorem sg_app (f : Nat → Nat) (a : Nat) : ∀ n, sg f (a + n) = sg f a + sg (fun j => f (a + j)) n
  | 0 => rfl
  | n + 1 => by
    show sg f (a + n) + f (a + n) = sg f a + (sg (fun j => f (a + j)) n + f (a + n))
    rw [sg_app f a n]
    omega
theorem sg_split (f : Nat → Nat) (n : Nat) : ∀ m, sg f (m * n) = sg (fun t => sg (fun j => f (t * n + j)) n) m
  | 0 => by rw [Nat.zero_mul]; rfl
  | m + 1 => by
    rw [Nat.succ_mul, sg_app, sg_split f n m]
    rfl
/-- one place of each round -/
theorem one_at {m n u j s : Nat} (hm : 0 < m) (hu : (m : Int) ∣ n * u - 1) (hs : s < m) : ∃ t, t < m ∧ ∀ t', t' < m → ((t' * n + j) % m = s ↔ t' = t) := by
  have key : ∀ t' : Nat, (t' * n + j) % m = s ↔ (m : Int) ∣ (t' * n + j - s : Int) := fun t' => by
    constructor
    · intro h
      have := Nat.div_add_mod (t' * n + j) m
      refine ⟨(((t' * n + j) / m : Nat) : Int), ?_⟩
      rw [h] at this
      have h2 : ((m * ((t' * n + j) / m) + s : Nat) : Int) = ((t' * n + j : Nat) : Int) := by rw [this]
      rw [Int.natCast_add, Int.natCast_mul, Int.natCast_add, Int.natCast_mul] at h2
      omega
    · intro h
      have e1 : ((t' * n + j : Nat) : Int) % m = (s : Int) % m := by
        rw [Int.natCast_add, Int.natCast_mul]
        exact Int.emod_eq_emod_iff_emod_sub_eq_zero.mpr (Int.emod_eq_zero_of_dvd h)
      rw [← Int.natCast_emod, ← Int.natCast_emod, Nat.mod_eq_of_lt hs] at e1
      exact Int.natCast_inj.mp e1
  have hmI : (0 : Int) < m := by omega
  have t0 : 0 ≤ ((s : Int) - j) * u % m := Int.emod_nonneg _ (by omega)
  have t1 : ((s : Int) - j) * u % m < m := Int.emod_lt_of_pos _ hmI
  obtain ⟨t, ht⟩ : ∃ t : Nat, (t : Int) = ((s : Int) - j) * u % m := ⟨(((s : Int) - j) * u % m).toNat, by omega⟩
  have htd : (m : Int) ∣ (t * n + j - s : Int) := by
    have h1 := Int.mul_ediv_add_emod (((s : Int) - j) * u) m
    have h2 : (t : Int) = ((s : Int) - j) * u - m * (((s : Int) - j) * u / m) := by omega
    have h3 : (t * n + j - s : Int) = ((s : Int) - j) * (n * u - 1) - m * (((s : Int) - j) * u / m * n) := by
      rw [h2, Int.sub_mul, Int.mul_sub, Int.mul_one, Int.mul_assoc, Int.mul_comm (u : Int) n, Int.mul_assoc]
      omega
    rw [h3]
    exact Int.dvd_sub (Int.dvd_trans hu (Int.dvd_mul_left _ _)) (Int.dvd_mul_right _ _)
  refine ⟨t, by omega, fun t' ht' => ⟨fun h => ?_, fun h => by rw [h]; exact (key t).mpr htd⟩⟩
  have hd := Int.dvd_sub ((key t').mp h) htd
  have h4 : (t' * n + j - s - (t * n + j - s) : Int) = (t' - t) * n := by
    rw [Int.sub_mul]
    omega
  rw [h4] at hd
  have h5 : (m : Int) ∣ ((t' : Int) - t) := by
    have e : ((t' : Int) - t) = ((t' : Int) - t) * n * u - ((t' : Int) - t) * (n * u - 1) := by
      rw [Int.mul_sub, Int.mul_one, Int.mul_assoc]
      omega
    rw [e]
    exact Int.dvd_sub (Int.dvd_trans hd (Int.dvd_mul_right _ _)) (Int.dvd_trans hu (Int.dvd_mul_left _ _))
  obtain ⟨k, hk⟩ := h5
  have hk0 : k = 0 := by
    rcases Int.lt_trichotomy k 0 with h | h | h
    · have : (m : Int) * k ≤ m * (-1) := Int.mul_le_mul_of_nonneg_left (by omega) (by omega)
      omega
    · exact h
    · have : (m : Int) * 1 ≤ m * k := Int.mul_le_mul_of_nonneg_left (by omega) (by omega)
      omega
  rw [hk0, Int.mul_zero] at hk
  omega
theorem sg_rests {a : Nat → Nat} {m n u j : Nat} (hm : 0 < m) (ha : ∀ i, a i = a (i % m)) (hu : (m : Int) ∣ n * u - 1) : sg (fun t => a (t * n + j)) m = sg a m := by
  have e1 : sg (fun t => a (t * n + j)) m = sg (fun t => sg (fun s => if s = (t * n + j) % m then a s else 0) m) m := sg_congr fun t _ => by
    rw [sg_one (s := (t * n + j) % m) (Nat.mod_lt _ hm) fun i _ hi => if_neg hi, if_pos rfl]
    exact ha _
  rw [e1, sg_swap]
  refine sg_congr fun s hs => ?_
  obtain ⟨t, ht, h⟩ := one_at (j := j) hm hu hs
  rw [sg_one (s := t) ht fun i hi hn => if_neg fun e => hn ((h i hi).mp e.symm), if_pos ((h t ht).mpr rfl).symm]
theorem sg_prod {a b : Nat → Nat} {m n u : Nat} (hm : 0 < m) (ha : ∀ i, a i = a (i % m)) (hb : ∀ i, b i = b (i % n)) (hu : (m : Int) ∣ n * u - 1) :
    sg (fun i => b i * a i) (m * n) = sg a m * sg b n := by
  rw [sg_split, sg_swap]
  have e : sg (fun j => sg (fun t => b (t * n + j) * a (t * n + j)) m) n = sg (fun j => sg a m * b j) n := sg_congr fun j hj => by
    have e2 : sg (fun t => b (t * n + j) * a (t * n + j)) m = sg (fun t => b j * a (t * n + j)) m := sg_congr fun t _ => by
      have e3 : b (t * n + j) = b j := by
        rw [hb, Nat.add_comm, Nat.add_mul_mod_self_right, ← hb]
      rw [e3]
    rw [e2, sg_mulc, sg_rests hm ha hu, Nat.mul_comm]
  rw [e, sg_mulc]
def ind (c : Nat) : Nat := if c = 46 then 0 else 1
theorem cnt_sg (f : Nat → Nat) : ∀ n, cnt f n = sg (fun i => ind (f i)) n
  | 0 => rfl
  | n + 1 => by
    show cnt f n + _ = sg (fun i => ind (f i)) n + ind (f n)
    rw [cnt_sg f n]
    rfl
theorem cnt_cut {p q : Pr} {m n u : Nat} (hm : 0 < m) (hp : ∀ i, mark p i = mark p (i % m)) (hq : ∀ i, mark q i = mark q (i % n)) (hu : (m : Int) ∣ n * u - 1) :
    cnt (mark (.cut p q)) (m * n) = cnt (mark p) m * cnt (mark q) n := by
  rw [cnt_sg, cnt_sg, cnt_sg, ← sg_prod (a := fun i => ind (mark p i)) (b := fun i => ind (mark q i)) hm (fun i => congrArg ind (hp i)) (fun i => congrArg ind (hq i)) hu]
  refine sg_congr fun i _ => ?_
  show ind (if mark q i = 46 then 46 else mark p i) = ind (mark q i) * ind (mark p i)
  unfold ind
  by_cases h : mark q i = 46
  · rw [if_pos h, if_pos h, if_pos rfl, Nat.zero_mul]
  · rw [if_neg h, if_neg h, Nat.one_mul]
/-- marks of a text -/
def mks (l : List Nat) : Nat := l.length - l.count 46
theorem mks_snoc (l : List Nat) (c : Nat) : mks (l ++ [c]) = mks l + ind c := by
  unfold mks ind
  have := List.count_le_length (a := 46) (l := l)
  rw [List.length_append, List.count_append]
  by_cases h : c = 46
  · subst h
    simp
  · rw [if_neg h, List.count_cons_of_ne h]
    simp
    omega
theorem cnt_take {rim : List Nat} : ∀ {n : Nat}, n ≤ rim.length → cnt (mark (.wheel rim)) n = mks (rim.take n)
  | 0, _ => by rw [List.take_zero]; rfl
  | n + 1, h => by
    have hn : n < rim.length := h
    show cnt (mark (.wheel rim)) n + ind (mark (.wheel rim) n) = _
    rw [cnt_take (Nat.le_of_lt hn), List.take_succ_eq_append_getElem hn, mks_snoc]
    congr 2
    show rim.getD (n % rim.length) 0 = rim[n]
    rw [Nat.mod_eq_of_lt hn]
    simp [hn]
theorem cnt_wheel {rim : List Nat} (h : 0 < rim.length) (n : Nat) : cnt (mark (.wheel rim)) n = n / rim.length * mks rim + mks (rim.take (n % rim.length)) := by
  have hP : Per (mark (.wheel rim)) 0 rim.length := per (.wheel rim) h
  have e : n = n % rim.length + n / rim.length * rim.length := by
    have := Nat.div_add_mod n rim.length
    rw [Nat.mul_comm] at this
    omega
  have h1 := cnt_rounds hP (n / rim.length) (n % rim.length) (Nat.zero_le _)
  rw [← e] at h1
  rw [h1, cnt_take (Nat.le_of_lt (Nat.mod_lt _ h))]
  have h2 : perR (mark (.wheel rim)) 0 rim.length = mks rim := by
    unfold perR
    rw [Nat.zero_add, cnt_take (Nat.le_refl _), List.take_length]
    rfl
  rw [h2, Nat.add_comm]
theorem cnt_whole {rim : List Nat} (h : 0 < rim.length) : cnt (mark (.wheel rim)) rim.length = mks rim := by
  rw [cnt_take (Nat.le_refl _), List.take_length]
end RO1

/-! Walks with draws inside: all but what the drawer owns only grows; G: what is known of the heap. -/
namespace RM
open PySem PySem.Spec PyProof.Rows L2 Evl TL RC RD RE RG RU
/-- what the drawer at b owns -/
def owns (b : Addr) (H : Hp) (p : Addr) : Prop := p = b ∨ ∃ xs, H b = some (.lst xs) ∧ V.ref p ∈ xs
open Classical in
/-- all but what the drawer owns -/
noncomputable def Hd (b : Addr) (H : Hp) : Hp := fun a => if owns b H a then none else H a
theorem Hd_own {b : Addr} {H : Hp} {a : Addr} (h : owns b H a) : Hd b H a = none := if_pos h
theorem Hd_no {b : Addr} {H : Hp} {a : Addr} (h : ¬ owns b H a) : Hd b H a = H a := if_neg h
theorem Hd_sub (b : Addr) (H : Hp) : Ex (Hd b H) H := fun a o h => by
  by_cases c : owns b H a
  · rw [Hd_own c] at h
    cases h
  · rwa [Hd_no c] at h
theorem Hd_some {b : Addr} {H : Hp} {a : Addr} {o : HO} (h : Hd b H a = some o) : ¬ owns b H a := fun c => by
  rw [Hd_own c] at h
  cases h
structure Drw (R : Hp → Prop) (b : Addr) : Prop where
  lst : ∀ {H}, R H → ∃ xs, H b = some (.lst xs) ∧ ∀ p, V.ref p ∈ xs → ∃ o, H p = some o
  same : ∀ {H H1}, R H → (∀ a o, owns b H a → H a = some o → H1 a = some o) → R H1
section
variable {R : Hp → Prop} {b : Addr} {H H1 : Hp}
theorem Drw.own (Dw : Drw R b) (hR : R H) {a : Addr} (h : owns b H a) : ∃ o, H a = some o := by
  obtain ⟨xs, h1, h2⟩ := Dw.lst hR
  rcases h with rfl | ⟨ys, g1, g2⟩
  · exact ⟨_, h1⟩
  · rw [h1] at g1
    cases g1
    exact h2 a g2
theorem owns_of (h : H1 b = H b) {a : Addr} : owns b H1 a ↔ owns b H a := by
  unfold owns
  rw [h]
theorem Drw.ex (Dw : Drw R b) (hR : R H) (e : Ex H H1) : R H1 ∧ Ex (Hd b H) (Hd b H1) := by
  obtain ⟨xs, h1, h2⟩ := Dw.lst hR
  have eb : H1 b = H b := by rw [h1, e _ _ h1]
  refine ⟨Dw.same hR fun a o _ h => e a o h, fun a o h => ?_⟩
  have hn := Hd_some h
  rw [Hd_no hn] at h
  rw [Hd_no fun c => hn ((owns_of eb).mp c)]
  exact e a o h
theorem Drw.fresh (Dw : Drw R b) (hR : R H) {p : Addr} (hp : H p = none) : ¬ owns b H p := fun c => by
  obtain ⟨o, h⟩ := Dw.own hR c
  rw [hp] at h
  cases h
theorem Drw.put (Dw : Drw R b) (hR : R H) {p : Addr} {o : HO} (hn : ¬ owns b H p) : R (upd H p o) ∧ Hd b (upd H p o) = upd (Hd b H) p o := by
  have hb : p ≠ b := fun z => hn (.inl z)
  have eb : (upd H p o) b = H b := upd_ne (Ne.symm hb)
  refine ⟨Dw.same hR fun a x c h => ?_, ?_⟩
  · have : a ≠ p := fun z => hn (z ▸ c)
    rw [upd_ne this]
    exact h
  · funext a
    by_cases c : a = p
    · subst c
      rw [Hd_no fun z => hn ((owns_of eb).mp z), upd_same, upd_same]
    · rw [upd_ne c]
      by_cases d : owns b H a
      · rw [Hd_own d, Hd_own ((owns_of eb).mpr d)]
      · rw [Hd_no d, Hd_no fun z => d ((owns_of eb).mp z), upd_ne c]
end
/-- from H to H', G known, then G' -/
structure Stp (b : Addr) (H H' G G' : Hp) : Prop where
  old : Ex (Hd b H) (Hd b H')
  dom : ∀ a, H a ≠ none → H' a ≠ none
  kn : Ex G G'
  sub : Ex G' (Hd b H')
  new : ∀ a, H a ≠ none → G' a = G a
section
variable {R : Hp → Prop} {b : Addr} {H H1 H2 G G1 G2 : Hp}
theorem Stp.refl (e : Ex G (Hd b H)) : Stp b H H G G := ⟨Ex.refl _, fun _ h => h, Ex.refl _, e, fun _ _ => rfl⟩
theorem Stp.trans (x : Stp b H H1 G G1) (y : Stp b H1 H2 G1 G2) : Stp b H H2 G G2 := ⟨x.old.trans y.old, fun a h => y.dom a (x.dom a h), x.kn.trans y.kn, y.sub, fun a h => (y.new a (x.dom a h)).trans (x.new a h)⟩
theorem ex_dom (e : Ex H H1) (a : Addr) (h : H a ≠ none) : H1 a ≠ none := by
  cases c : H a with
  | none => exact absurd c h
  | some o => rw [e _ _ c]; exact fun z => by cases z
theorem Drw.stp (Dw : Drw R b) (hR : R H) (e : Ex G (Hd b H)) (e1 : Ex H H1) : R H1 ∧ Stp b H H1 G G :=
  ⟨(Dw.ex hR e1).1, (Dw.ex hR e1).2, ex_dom e1, Ex.refl _, e.trans (Dw.ex hR e1).2, fun _ _ => rfl⟩
theorem Drw.stpNew (Dw : Drw R b) (hR : R H) (e : Ex G (Hd b H)) {p : Addr} {o : HO} (hp : H p = none) : R (upd H p o) ∧ Stp b H (upd H p o) G (upd G p o) := by
  have hn := Dw.fresh hR hp
  obtain ⟨r, x⟩ := Dw.put (o := o) hR hn
  have hd : Hd b H p = none := by rw [Hd_no hn]; exact hp
  have hg : G p = none := fresh_back e hd
  refine ⟨r, by rw [x]; exact Ex.new hd, ex_dom (Ex.new hp), Ex.new hg, fun a u h => ?_, fun a h => upd_ne fun z => h (z ▸ hp)⟩
  rw [x]
  by_cases c : a = p
  · subst c
    rw [upd_same] at h ⊢
    exact h
  · rw [upd_ne c] at h ⊢
    exact e _ _ h
end
/-- what a walk that draws promises -/
def RetD (R : Hp → Prop) (b : Addr) (G : Hp) (P : V → Hp → Prop) (H : Hp) (Q : VK) : Prop := ∀ v H' G', R H' → Stp b H H' G G' → P v G' → Q v H'
/-- a value, told by a property of what is known then; draws may happen -/
def EvD (R : Hp → Prop) (b : Addr) (te : TE) (σ : L2.St) (G : Hp) (P : V → Hp → Prop) : Prop := ∀ H, R H → Ex G (Hd b H) → ∀ Q : VK, RetD R b G P H Q → te σ H Q
def EvAD (R : Hp → Prop) (b : Addr) (ta : TA) (σ : L2.St) (G : Hp) (P : List V → Hp → Prop) : Prop := ∀ H, R H → Ex G (Hd b H) → ∀ Q : List V → Hp → Prop, (∀ vs H' G', R H' → Stp b H H' G G' → P vs G' → Q vs H') → ta σ H Q
/-- statements, on the way from H0 and G0 -/
def StD (R : Hp → Prop) (b : Addr) (H0 G0 : Hp) (ts : TS) (D : Ends) (σ : L2.St) (G : Hp) : Prop := ∀ H, R H → Stp b H0 H G0 G → ts D σ H
section
variable {K : PySem.W.Frag} {R : Hp → Prop} {b : Addr} {σ : L2.St} {H0 G0 G : Hp} {te ta tb : TE} {t : TT} {ts tz tu tw : TS} {D : Ends} {v : V} {P P1 P2 : V → Hp → Prop}
theorem ed_ev (Dw : Drw R b) (h : Ev te σ G v) : EvD R b te σ G (fun v' _ => v' = v) := fun H hR e Q q => h H (e.trans (Hd_sub b H)) Q fun H2 e2 => q v H2 G (Dw.stp hR e e2).1 (Dw.stp hR e e2).2 rfl
theorem ed_imp {P' : V → Hp → Prop} (h : EvD R b te σ G P) (i : ∀ v G1, Ex G G1 → P v G1 → P' v G1) : EvD R b te σ G P' := fun H hR e Q q => h H hR e Q fun v H' G' r x p => q v H' G' r x (i v _ x.kn p)
theorem ed_el (Dw : Drw R b) {xs : List V} (h : EvL te σ G xs) : EvD R b te σ G (fun v G' => ∃ p, v = .ref p ∧ G' p = some (.lst xs)) := fun H hR e Q q =>
  h H (e.trans (Hd_sub b H)) _ fun p H1 hp e1 h1 => by
    have hn := Dw.fresh hR hp
    have hd : Hd b H p = none := by rw [Hd_no hn]; exact hp
    obtain ⟨r1, x1⟩ := Dw.ex hR e1
    have hn1 : ¬ owns b H1 p := fun c => by
      obtain ⟨xs, h2, _⟩ := Dw.lst hR
      exact hn ((owns_of (by rw [h2, e1 _ _ h2])).mp c)
    refine q _ H1 (upd G p (.lst xs)) r1 ⟨x1, ex_dom e1, Ex.new (fresh_back e hd), fun a o ha => ?_, fun a h => upd_ne fun z => h (z ▸ hp)⟩ ⟨p, rfl, upd_same⟩
    by_cases c : a = p
    · subst c
      rw [upd_same] at ha
      rw [Hd_no hn1, h1, ha]
    · rw [upd_ne c] at ha
      exact x1 _ _ (e _ _ ha)
theorem ed_eu (Dw : Drw R b) {xs : List V} (h : EvU te σ G xs) : EvD R b te σ G (fun v G' => ∃ p, v = .ref p ∧ G' p = some (.tup xs)) := fun H hR e Q q =>
  h H (e.trans (Hd_sub b H)) _ fun p H1 hp e1 h1 => by
    have hn := Dw.fresh hR hp
    have hd : Hd b H p = none := by rw [Hd_no hn]; exact hp
    obtain ⟨r1, x1⟩ := Dw.ex hR e1
    have hn1 : ¬ owns b H1 p := fun c => by
      obtain ⟨xs, h2, _⟩ := Dw.lst hR
      exact hn ((owns_of (by rw [h2, e1 _ _ h2])).mp c)
    refine q _ H1 (upd G p (.tup xs)) r1 ⟨x1, ex_dom e1, Ex.new (fresh_back e hd), fun a o ha => ?_, fun a h => upd_ne fun z => h (z ▸ hp)⟩ ⟨p, rfl, upd_same⟩
    by_cases c : a = p
    · subst c
      rw [upd_same] at ha
      rw [Hd_no hn1, h1, ha]
    · rw [upd_ne c] at ha
      exact x1 _ _ (e _ _ ha)
theorem ead_nil : EvAD R b tNil σ G (fun vs _ => vs = []) := fun H hR e Q q => q [] H G hR (Stp.refl e) rfl
theorem ead_ev (Dw : Drw R b) {ta : TA} {vs : List V} (h : EvA ta σ G vs) : EvAD R b ta σ G (fun vs' _ => vs' = vs) := fun H hR e Q q => h H (e.trans (Hd_sub b H)) _ fun H2 e2 => q vs H2 G (Dw.stp hR e e2).1 (Dw.stp hR e e2).2 rfl
theorem ead_cons {tr : TA} {P2 : List V → Hp → Prop} (h : EvD R b te σ G P1) (m : ∀ v G1 G2, Ex G1 G2 → P1 v G1 → P1 v G2) (hr : ∀ G1, Ex G G1 → EvAD R b tr σ G1 P2) : EvAD R b (tCons te tr) σ G (fun vs G' => ∃ v r, vs = v :: r ∧ P1 v G' ∧ P2 r G') := fun H hR e Q q =>
  h H hR e _ fun v H1 G1 r1 x1 p1 => hr G1 x1.kn H1 r1 x1.sub _ fun vs H2 G2 r2 x2 p2 => q (v :: vs) H2 G2 r2 (x1.trans x2) ⟨v, vs, rfl, m v _ _ x2.kn p1, p2⟩
theorem ead_imp {ta : TA} {P P' : List V → Hp → Prop} (h : EvAD R b ta σ G P) (i : ∀ v G1, Ex G G1 → P v G1 → P' v G1) : EvAD R b ta σ G P' := fun H hR e Q q => h H hR e Q fun v H' G' r x p => q v H' G' r x (i v _ x.kn p)
theorem q_asgD {i : Nat} (h : EvD R b te σ G P) (k : ∀ v G1, Ex G G1 → P v G1 → StD R b H0 G0 tz D (σ.set i (some v)) G1) : StD R b H0 G0 (tSeq (tAsg te (gName i)) tz) D σ G := fun H hR s =>
  h H hR s.sub _ fun v H1 G1 r1 x1 p1 => k v G1 x1.kn p1 H1 r1 (s.trans x1)
theorem s_asgD {i : Nat} (h : EvD R b te σ G P) (k : ∀ v G1, Ex G G1 → P v G1 → ∀ H, R H → Stp b H0 H G0 G1 → D.nx (σ.set i (some v)) H) : StD R b H0 G0 (tAsg te (gName i)) D σ G := fun H hR s =>
  h H hR s.sub _ fun v H1 G1 r1 x1 p1 => k v G1 x1.kn p1 H1 r1 (s.trans x1)
theorem s_retD (h : EvD R b te σ G P) (k : ∀ v H G1, R H → Stp b H0 H G0 G1 → Ex G G1 → P v G1 → D.rt v H) : StD R b H0 G0 (tRet te) D σ G := fun H hR s => h H hR s.sub _ fun v H1 G1 r1 x1 p1 => k v H1 G1 r1 (s.trans x1) x1.kn p1
theorem sd_when (Dw : Drw R b) {c : Bool} (h : EvT t σ G c) (h1 : c = true → StD R b H0 G0 tu { D with nx := tz D } σ G) (h2 : c = false → StD R b H0 G0 tz D σ G) : StD R b H0 G0 (tSeq (tIfS t tu tNext) tz) D σ G := fun H hR s =>
  q_when (h.mono (s.sub.trans (Hd_sub b H))) (fun hc H1 e1 => h1 hc H1 (Dw.ex hR e1).1 (s.trans (Dw.stp hR s.sub e1).2)) (fun hc H1 e1 => h2 hc H1 (Dw.ex hR e1).1 (s.trans (Dw.stp hR s.sub e1).2))
theorem sd_if (Dw : Drw R b) {c : Bool} (h : EvT t σ G c) (h1 : c = true → StD R b H0 G0 tu { D with nx := tz D } σ G) (h2 : c = false → StD R b H0 G0 tw { D with nx := tz D } σ G) : StD R b H0 G0 (tSeq (tIfS t tu tw) tz) D σ G := fun H hR s =>
  q_if (h.mono (s.sub.trans (Hd_sub b H))) (fun hc H1 e1 => h1 hc H1 (Dw.ex hR e1).1 (s.trans (Dw.stp hR s.sub e1).2)) (fun hc H1 e1 => h2 hc H1 (Dw.ex hR e1).1 (s.trans (Dw.stp hR s.sub e1).2))
/-- pure ones -/
theorem sd_asg (Dw : Drw R b) {i : Nat} (h : Ev te σ G v) (k : StD R b H0 G0 tz D (σ.set i (some v)) G) : StD R b H0 G0 (tSeq (tAsg te (gName i)) tz) D σ G := fun H hR s =>
  q_asg (h.mono (s.sub.trans (Hd_sub b H))) fun H1 e1 => k H1 (Dw.ex hR e1).1 (s.trans (Dw.stp hR s.sub e1).2)
theorem sd_asgL (Dw : Drw R b) {i : Nat} {xs : List V} (h : EvL te σ G xs) (k : ∀ p G1, Ex G G1 → G1 p = some (.lst xs) → StD R b H0 G0 tz D (σ.set i (some (.ref p))) G1) : StD R b H0 G0 (tSeq (tAsg te (gName i)) tz) D σ G := q_asgD (ed_el Dw h) fun v' G1 e p => by
  obtain ⟨p, rfl, h1⟩ := p
  exact k p G1 e h1
theorem sd_asgU (Dw : Drw R b) {i : Nat} {xs : List V} (h : EvU te σ G xs) (k : ∀ p G1, Ex G G1 → G1 p = some (.tup xs) → StD R b H0 G0 tz D (σ.set i (some (.ref p))) G1) : StD R b H0 G0 (tSeq (tAsg te (gName i)) tz) D σ G := q_asgD (ed_eu Dw h) fun v' G1 e p => by
  obtain ⟨p, rfl, h1⟩ := p
  exact k p G1 e h1
theorem if_yes {p q : Prop} (h : p) : (if true = true then p else q) := by
  rw [if_pos rfl]
  exact h
/-- a turn of a list's making -/
theorem lc_step (Dw : Drw R b) {H1 H' G1 G' : Hp} {Dl : Addr} {xs : List V} {tel : TE} {σ2 : L2.St} {Gd : V → Hp → Prop} {Pn : Hp → Prop} (hz : xs.length < 100000) (hD : H1 Dl = none) (r : R H') (s : Stp b H1 H' G1 G') (gD : G' Dl = none) (h3 : Hd b H' Dl = some (.lst xs))
    (h : EvD R b tel σ2 G' Gd) (k : ∀ v H4 G4, R H4 → Stp b H1 H4 G1 G4 → Ex G' G4 → G4 Dl = none → Hd b H4 Dl = some (.lst (xs ++ [v])) → Gd v G4 → Pn H4) :
    tel σ2 H' fun y H4 => ∃ acc, H4 Dl = some (.lst acc) ∧ acc.length < sizeLine ∧ Pn (upd H4 Dl (.lst (acc ++ [y]))) :=
  h H' r s.sub _ fun v H2 G2 r2 x2 gv => by
    have h6 := x2.old _ _ h3
    have hD2 : G2 Dl = none := by
      rw [x2.new Dl fun z => ?_]
      · exact gD
      · have := Hd_sub b H' _ _ h3
        rw [z] at this
        cases this
    obtain ⟨p3, p4⟩ := Dw.put (o := .lst (xs ++ [v])) r2 (Hd_some h6)
    have s2 := s.trans x2
    have hn : Hd b H1 Dl = none := by
      cases c : Hd b H1 Dl with
      | none => rfl
      | some o => rw [Hd_sub b H1 _ _ c] at hD; cases hD
    refine ⟨xs, Hd_sub b H2 _ _ h6, sz_lt hz, k v _ G2 p3 ⟨?_, ?_, s2.kn, ?_, s2.new⟩ x2.kn hD2 (by rw [p4]; exact upd_same) gv⟩
    · rw [p4]
      intro a o ha
      rw [upd_ne (ne_of_none ha hn)]
      exact s2.old _ _ ha
    · intro a ha
      by_cases c : a = Dl
      · rw [c, upd_same]
        exact fun z => by cases z
      · rw [upd_ne c]
        exact s2.dom a ha
    · rw [p4]
      intro a o ha
      rw [upd_ne (ne_of_none ha hD2)]
      exact x2.sub _ _ ha
theorem lc_end (Dw : Drw R b) {H1 H' G1 G' : Hp} {Dl : Addr} {xs : List V} (hD : H1 Dl = none) (s : Stp b H1 H' G1 G') (gD : G' Dl = none) (h3 : Hd b H' Dl = some (.lst xs)) : Stp b H1 H' G1 (upd G' Dl (.lst xs)) :=
  ⟨s.old, s.dom, s.kn.trans (Ex.new gD), fun a o ha => by
    by_cases c : a = Dl
    · subst c
      rw [upd_same] at ha
      rw [h3, ha]
    · rw [upd_ne c] at ha
      exact s.sub _ _ ha, fun a ha => by
    have c : a ≠ Dl := fun z => ha (by rw [z]; exact hD)
    rw [upd_ne c]
    exact s.new a ha⟩
theorem lc_begin (Dw : Drw R b) {H1 G1 : Hp} {Dl : Addr} (hR : R H1) (e : Ex G1 (Hd b H1)) (hD : H1 Dl = none) : R (upd H1 Dl (.lst [])) ∧ Stp b H1 (upd H1 Dl (.lst [])) G1 G1 ∧ G1 Dl = none ∧ Hd b (upd H1 Dl (.lst [])) Dl = some (.lst []) := by
  have hn := Dw.fresh hR hD
  obtain ⟨r, x⟩ := Dw.put (o := .lst []) hR hn
  have hd : Hd b H1 Dl = none := by rw [Hd_no hn]; exact hD
  exact ⟨r, ⟨by rw [x]; exact Ex.new hd, ex_dom (Ex.new hD), Ex.refl _, by rw [x]; exact e.trans (Ex.new hd), fun _ _ => rfl⟩, fresh_back e hd, by rw [x]; exact upd_same⟩
/-- a list by draws, over a range -/
theorem ed_lcR (Dw : Drw R b) {ta : TA} {tel : TE} {vs : List Nat} {j size : Nat} (Gd : V → Hp → Prop) (m : ∀ v G1 G2, Ex G1 G2 → Gd v G1 → Gd v G2) (h : EvAD R b ta σ G (fun vs _ => vs = [.int (size : Int)])) (hz : size ≤ 50000) (hw : ∀ x, wipe ((wipe σ vs).set j (some x)) vs = wipe σ vs)
    (hel : ∀ (i : Nat) G1, i < size → Ex G G1 → EvD R b tel ((wipe σ vs).set j (some (.int (i : Int)))) G1 Gd) :
    EvD R b (tLc (iRng1 ta) (gName j) tYes tel vs) σ G (fun v G' => ∃ p xs, v = .ref p ∧ G' p = some (.lst xs) ∧ xs.length = size ∧ ∀ x ∈ xs, Gd x G') := fun H hR e Q q =>
  h H hR e _ fun ws H1 G1 r1 x1 hv => by
    refine ⟨(size : Int), hv, by omega, by omega, fun Dl hD => ?_⟩
    have hsz : ((size : Int)).toNat = size := by omega
    rw [hsz]
    refine lc_range (lo := 0) (n := size) (fun i H' => ∃ xs G', xs.length = i ∧ (∀ x ∈ xs, Gd x G') ∧ R H' ∧ Stp b H1 H' G1 G' ∧ G' Dl = none ∧ Hd b H' Dl = some (.lst xs))
      ⟨[], G1, rfl, fun x hx => (by cases hx), lc_begin Dw r1 x1.sub hD⟩ (fun i H' hi hp => ?_) (fun H' hp => ?_)
    · obtain ⟨xs, G', h1, h2, h3, h4, h5, h6⟩ := hp
      have ei : (0 : Int) + (i : Int) = (i : Int) := Int.zero_add _
      rw [ei]
      refine ⟨hw _, ?_⟩
      show tel ((wipe σ vs).set j (some (.int (i : Int)))) H' _
      exact lc_step (Pn := fun H' => ∃ xs G', xs.length = i + 1 ∧ (∀ x ∈ xs, Gd x G') ∧ R H' ∧ Stp b H1 H' G1 G' ∧ G' Dl = none ∧ Hd b H' Dl = some (.lst xs)) Dw (by omega) hD h3 h4 h5 h6 (hel i G' hi (x1.kn.trans h4.kn)) fun v H4 G4 r4 s4 e4 d4 l4 g4 => ⟨xs ++ [v], G4, by rw [List.length_append, h1]; rfl, fun x hx => (List.mem_append.mp hx).elim (fun z => m x _ _ e4 (h2 x z)) (fun z => by rw [List.mem_singleton.mp z]; exact g4), r4, s4, d4, l4⟩
    · obtain ⟨xs, G', h1, h2, h3, h4, h5, h6⟩ := hp
      exact q _ H' _ h3 (x1.trans (lc_end Dw hD h4 h5 h6)) ⟨Dl, xs, rfl, upd_same, h1, fun x hx => m x _ _ (Ex.new h5) (h2 x hx)⟩
/-- a list by draws, over a list -/
theorem ed_lcL (Dw : Drw R b) {a : Addr} {xs : List V} {tel : TE} {vs : List Nat} {j : Nat} (Gd : Nat → V → Hp → Prop) (m : ∀ i v G1 G2, Ex G1 G2 → Gd i v G1 → Gd i v G2) (h : Ev ta σ G (.ref a)) (hx : SqL K G a xs) (hz : xs.length ≤ 40000) (hw : ∀ x, wipe ((wipe σ vs).set j (some x)) vs = wipe σ vs)
    (hel : ∀ (i : Nat) x G1, xs[i]? = some x → Ex G G1 → EvD R b tel ((wipe σ vs).set j (some x)) G1 (Gd i)) :
    EvD R b (tLc (iList K ta) (gName j) tYes tel vs) σ G (fun v G' => ∃ p ys, v = .ref p ∧ G' p = some (.lst ys) ∧ ys.length = xs.length ∧ ∀ i y, ys[i]? = some y → Gd i y G') := fun H hR e Q q =>
  h H (e.trans (Hd_sub b H)) _ fun H1 e1 => ⟨a, rfl, ⟨xs, ex_l ((e.trans (Hd_sub b H)).trans e1) hx⟩, fun Dl hD => by
    obtain ⟨r1, x1⟩ := Dw.stp hR e e1
    refine lc_list (xs := xs) (fun i H' => ∃ ys G', ys.length = i ∧ (∀ k y, ys[k]? = some y → Gd k y G') ∧ R H' ∧ Stp b H1 H' G G' ∧ G' Dl = none ∧ Hd b H' Dl = some (.lst ys))
      ⟨[], G, rfl, fun k y hk => (by cases hk), lc_begin Dw r1 x1.sub hD⟩ (fun i H' _ hp => ?_) (fun i x H' hi hp => ?_) (fun H' hp => ?_)
    · obtain ⟨ys, G', h1, h2, h3, h4, h5, h6⟩ := hp
      exact ex_l (h4.kn.trans (h4.sub.trans (Hd_sub b H'))) hx
    · obtain ⟨ys, G', h1, h2, h3, h4, h5, h6⟩ := hp
      have hil := (List.getElem?_eq_some_iff.mp hi).1
      refine ⟨hw _, ?_⟩
      show tel ((wipe σ vs).set j (some x)) H' _
      refine lc_step (Pn := fun H' => ∃ ys G', ys.length = i + 1 ∧ (∀ k y, ys[k]? = some y → Gd k y G') ∧ R H' ∧ Stp b H1 H' G G' ∧ G' Dl = none ∧ Hd b H' Dl = some (.lst ys)) Dw (by omega) hD h3 h4 h5 h6 (hel i x G' hi h4.kn) fun v H4 G4 r4 s4 e4 d4 l4 g4 => ⟨ys ++ [v], G4, by rw [List.length_append, h1]; rfl, fun k y hk => ?_, r4, s4, d4, l4⟩
      rcases Nat.lt_or_ge k ys.length with c | c
      · rw [List.getElem?_append_left c] at hk
        exact m k y _ _ e4 (h2 k y hk)
      · rw [List.getElem?_append_right c] at hk
        have hk0 : k - ys.length = 0 := by
          cases c2 : k - ys.length with
          | zero => rfl
          | succ n => rw [c2] at hk; cases hk
        rw [hk0] at hk
        cases hk
        have : k = i := by omega
        rw [this]
        exact g4
    · obtain ⟨ys, G', h1, h2, h3, h4, h5, h6⟩ := hp
      exact q _ H' _ h3 (x1.trans (lc_end Dw hD h4 h5 h6)) ⟨Dl, ys, rfl, upd_same, h1, fun k y hk => m k y _ _ (Ex.new h5) (h2 k y hk)⟩⟩
/-- x op y -/
theorem ed_op {r : R2} (ha : EvD R b ta σ G P1) (m : ∀ v G1 G2, Ex G1 G2 → P1 v G1 → P1 v G2) (hb : ∀ G1, Ex G G1 → EvD R b tb σ G1 P2)
    (hr : ∀ x y H G1, R H → Ex G G1 → Ex G1 (Hd b H) → P1 x G1 → P2 y G1 → ∀ Q : VK, RetD R b G1 P H Q → r x y H Q) : EvD R b (tOp r ta tb) σ G P := fun H hR e Q q =>
  ha H hR e _ fun x H1 G1 r1 x1 p1 => hb _ x1.kn H1 r1 x1.sub _ fun y H2 G2 r2 x2 p2 => hr x y H2 G2 r2 (x1.trans x2).kn x2.sub (m x _ _ x2.kn p1) p2 _ fun v H3 G3 r3 x3 p3 => q v H3 G3 r3 ((x1.trans x2).trans x3) p3
/-- a op b of ints -/
theorem ed_I {C : Int → Int → Prop} {g : Int → Int → V} {A B : Int → Prop} (ha : EvD R b ta σ G (fun v _ => ∃ i, v = .int i ∧ A i)) (hb : ∀ G1, Ex G G1 → EvD R b tb σ G1 (fun v _ => ∃ j, v = .int j ∧ B j)) (hc : ∀ i j, A i → B j → C i j) (hp : ∀ i j G1, A i → B j → P (g i j) G1) :
    EvD R b (tOp (rI C g) ta tb) σ G P := ed_op ha (fun _ _ _ _ h => h) hb fun x y H G1 hR e e1 ⟨i, ei, ai⟩ ⟨j, ej, bj⟩ Q q => ⟨i, j, ei, ej, hc i j ai bj, q _ H G1 hR (Stp.refl e1) (hp i j _ ai bj)⟩
theorem ed_I0 {g : Int → Int → V} {A B : Int → Prop} (ha : EvD R b ta σ G (fun v _ => ∃ i, v = .int i ∧ A i)) (hb : ∀ G1, Ex G G1 → EvD R b tb σ G1 (fun v _ => ∃ j, v = .int j ∧ B j)) (hp : ∀ i j G1, A i → B j → P (g i j) G1) :
    EvD R b (tOp (rI0 g) ta tb) σ G P := ed_op ha (fun _ _ _ _ h => h) hb fun x y H G1 hR e e1 ⟨i, ei, ai⟩ ⟨j, ej, bj⟩ Q q => ⟨i, j, ei, ej, q _ H G1 hR (Stp.refl e1) (hp i j _ ai bj)⟩
theorem ed_int (Dw : Drw R b) {i : Int} (h : Ev te σ G (.int i)) : EvD R b te σ G (fun v _ => ∃ j, v = .int j ∧ j = i) := ed_imp (ed_ev Dw h) fun v _ _ e => ⟨i, e, rfl⟩
/-- xs[i] -/
theorem ed_ixL {xs : List V} (Dw : Drw R b) (ha : EvL ta σ G xs) (hb : ∀ G1, Ex G G1 → EvD R b tb σ G1 (fun v _ => ∃ i : Int, v = .int i ∧ 0 ≤ i ∧ i < xs.length)) : EvD R b (tOp (rIxL K) ta tb) σ G (fun v _ => v ∈ xs) :=
  ed_op (ed_el Dw ha) (fun v G1 G2 e ⟨p, h1, h2⟩ => ⟨p, h1, e _ _ h2⟩) hb fun x y H G1 hR e e1 ⟨p, h1, h2⟩ ⟨i, h3, h4, h5⟩ Q q => by
    subst h1 h3
    obtain ⟨z, hz⟩ : ∃ z, xs[i.toNat]? = some z := ⟨_, List.getElem?_eq_getElem (by omega)⟩
    exact ⟨p, xs, i, z, rfl, rfl, SqL.of (Hd_sub b H _ _ (e1 _ _ h2)), at_of (j := i.toNat) (by omega) hz, q z H G1 hR (Stp.refl e1) (List.mem_of_getElem? hz)⟩
/-- a sign of a text -/
theorem ed_ixC {a : List Nat} (Dw : Drw R b) (ha : Ev ta σ G (T a)) (hl : a.length ≤ 16777216) (hb : ∀ G1, Ex G G1 → EvD R b tb σ G1 (fun v _ => ∃ i : Int, v = .int i ∧ 0 ≤ i ∧ i < a.length)) : EvD R b (tOp rIxC ta tb) σ G (fun v _ => ∃ c, v = T [c] ∧ c ∈ a) :=
  ed_op (ed_ev Dw ha) (fun v G1 G2 e h => h) hb fun x y H G1 hR e e1 h1 ⟨i, h3, h4, h5⟩ Q q => by
    subst h1 h3
    exact ⟨a, i, rfl, rfl, hl, h4, h5, q _ H G1 hR (Stp.refl e1) ⟨_, rfl, getD_mem (by omega)⟩⟩
/-- (a, b, ..) -/
theorem ed_tup (Dw : Drw R b) {tr : TA} {P2 : List V → Hp → Prop} (m : ∀ vs G1 G2, Ex G1 G2 → P2 vs G1 → P2 vs G2) (hl : ∀ vs G1, P2 vs G1 → vs.length ≤ 100) (h : EvAD R b tr σ G P2) : EvD R b (tTup tr) σ G (fun v G' => ∃ p xs, v = .ref p ∧ G' p = some (.tup xs) ∧ P2 xs G') := fun H hR e Q q =>
  h H hR e _ fun vs H1 G1 r1 x1 p1 => ⟨by rw [big]; have := hl vs _ p1; omega, fun p hp => by
    obtain ⟨p2, p3⟩ := Dw.stpNew (o := .tup vs) r1 x1.sub hp
    exact q _ _ _ p2 (x1.trans p3) ⟨p, vs, rfl, upd_same, m vs _ _ p3.kn p1⟩⟩
/-- [a, b, ..] -/
theorem ed_lst (Dw : Drw R b) {tr : TA} {P2 : List V → Hp → Prop} (m : ∀ vs G1 G2, Ex G1 G2 → P2 vs G1 → P2 vs G2) (hl : ∀ vs G1, P2 vs G1 → vs.length ≤ 100) (h : EvAD R b tr σ G P2) : EvD R b (tLst tr) σ G (fun v G' => ∃ p xs, v = .ref p ∧ G' p = some (.lst xs) ∧ P2 xs G') := fun H hR e Q q =>
  h H hR e _ fun vs H1 G1 r1 x1 p1 => ⟨by rw [big]; have := hl vs _ p1; omega, fun p hp => by
    obtain ⟨p2, p3⟩ := Dw.stpNew (o := .lst vs) r1 x1.sub hp
    exact q _ _ _ p2 (x1.trans p3) ⟨p, vs, rfl, upd_same, m vs _ _ p3.kn p1⟩⟩
theorem ed_call {sp : Sp} {dvs : List V} {E : XK} {ta : TA} {P2 : List V → Hp → Prop} (h : EvAD R b ta σ G P2) (hs : ∀ vs H1 G1, R H1 → Ex G1 (Hd b H1) → Ex G G1 → P2 vs G1 → ∀ Q : VK, RetD R b G1 P H1 Q → ∀ E : XK, sp (vs ++ dvs) H1 Q E) : EvD R b (tCall sp dvs E ta) σ G P := fun H hR e Q q =>
  h H hR e _ fun vs H1 G1 r1 x1 p1 => hs vs H1 G1 r1 x1.sub x1.kn p1 Q (fun v H2 G2 r2 x2 p2 => q v H2 G2 r2 (x1.trans x2) p2) E
/-- a call of known values -/
theorem ed_callV (Dw : Drw R b) {sp : Sp} {dvs vs : List V} {E : XK} {ta : TA} (h : EvA ta σ G vs) (hs : ∀ H1, R H1 → Ex G (Hd b H1) → ∀ Q : VK, RetD R b G P H1 Q → ∀ E : XK, sp (vs ++ dvs) H1 Q E) : EvD R b (tCall sp dvs E ta) σ G P := fun H hR e Q q =>
  h H (e.trans (Hd_sub b H)) _ fun H1 e1 => hs H1 (Dw.ex hR e1).1 (e.trans (Dw.ex hR e1).2) Q (fun v H2 G2 r2 x2 p2 => q v H2 G2 r2 ((Dw.stp hR e e1).2.trans x2) p2) E
theorem signs_of {xs : List V} {A : Nat → Prop} (h : ∀ x ∈ xs, ∃ c, x = T [c] ∧ A c) : ∃ l : List Nat, xs = (l.map fun c => [c]).map T ∧ l.length = xs.length ∧ ∀ c ∈ l, A c := by
  induction xs with
  | nil => exact ⟨[], rfl, rfl, fun y hy => by cases hy⟩
  | cons x r ih =>
    obtain ⟨c, rfl, hc⟩ := h x List.mem_cons_self
    obtain ⟨l, rfl, hl, hA⟩ := ih fun y hy => h y (List.mem_cons_of_mem _ hy)
    exact ⟨c :: l, rfl, by rw [List.length_cons, List.length_cons, hl], fun y hy => (List.mem_cons.mp hy).elim (fun e => by rw [e]; exact hc) (hA y)⟩
theorem flat_signs (l : List Nat) : (l.map fun c => [c]).flatten = l := by
  induction l with
  | nil => rfl
  | cons c r ih => rw [List.map_cons, List.flatten_cons, ih]; rfl
/-- ''.join of signs -/
theorem ed_join {x0 : Str} {size : Nat} {A : Nat → Prop} (hx : x0 = S []) (hz : size ≤ 100000) (h : EvD R b te σ G (fun v G' => ∃ p xs, v = .ref p ∧ G' p = some (.lst xs) ∧ xs.length = size ∧ ∀ x ∈ xs, ∃ c, x = T [c] ∧ A c)) :
    EvD R b (tM1 (rJoin K) (tC (.str x0)) te) σ G (fun v _ => ∃ l, v = T l ∧ l.length = size ∧ ∀ c ∈ l, A c) := fun H hR e Q q => by
  subst hx
  exact ⟨⟨_, rfl⟩, h H hR e _ fun v H1 G1 r1 x1 hp => by
    obtain ⟨p, xs, rfl, hp, hl, hA⟩ := hp
    obtain ⟨l, rfl, hl2, hA2⟩ := signs_of hA
    have hz2 : l.length = size := by rw [← hl, hl2]
    exact ⟨S [], p, (l.map fun c => [c]).map S, rfl, rfl, .inl (SqL.of (by rw [Hd_sub b H1 _ _ (x1.sub _ _ hp), List.map_map (g := V.str)]; rfl)), by rw [sum_lens, S_len, List.length_nil, Nat.mul_zero, flat_signs]; omega, by rw [RE.join_nil, flat_signs]; exact q _ H1 G1 r1 x1 ⟨l, rfl, hz2, hA2⟩⟩⟩
end
end RM

/-! Presses put together, as they are handed in; long cams. -/
namespace RO2
open PySem PySem.Spec PyProof.Rows L2 Evl TL RC RG RP RO1 RQ RR RT RV RX RY
section
variable {G : Hp} {v x y : V} {a b p : Pr} {n : Nat} {rim : List Nat}
theorem hand_wheel (h : Sq G v [T (wd 0), T rim]) : Hand G (.wheel rim) v := ⟨_, h, rfl⟩
theorem hand_turned (h : Sq G v [T (wd 1), x, .int (n : Int)]) (ha : Hand G p x) : Hand G (.turned p n) v := by
  obtain ⟨ws, h1, h2⟩ := ha
  exact ⟨_, h, x, ws, rfl, h1, h2⟩
theorem hand_over (h : Sq G v [T (wd 2), x, y]) (ha : Hand G a x) (hb : Hand G b y) : Hand G (.over a b) v := by
  obtain ⟨ws, h1, h2⟩ := ha
  obtain ⟨zs, h3, h4⟩ := hb
  exact ⟨_, h, x, y, ws, zs, rfl, h1, h3, h2, h4⟩
theorem hand_cut (h : Sq G v [T (wd 3), x, y]) (ha : Hand G a x) (hb : Hand G b y) : Hand G (.cut a b) v := by
  obtain ⟨ws, h1, h2⟩ := ha
  obtain ⟨zs, h3, h4⟩ := hb
  exact ⟨_, h, x, y, ws, zs, rfl, h1, h3, h2, h4⟩
theorem hand_held (h : Sq G v [T (wd 4), x, y]) (ha : Hand G a x) (hb : Hand G b y) : Hand G (.held a b) v := by
  obtain ⟨ws, h1, h2⟩ := ha
  obtain ⟨zs, h3, h4⟩ := hb
  exact ⟨_, h, x, y, ws, zs, rfl, h1, h3, h2, h4⟩
theorem hand_thn (h : Sq G v [T (wd 6), x, .int (n : Int), y]) (ha : Hand G a x) (hb : Hand G b y) : Hand G (.thn a n b) v := by
  obtain ⟨ws, h1, h2⟩ := ha
  obtain ⟨zs, h3, h4⟩ := hb
  exact ⟨_, h, x, y, ws, zs, rfl, h1, h3, h2, h4⟩
theorem sq_tup {t : Addr} {xs : List V} (h : G t = some (.tup xs)) : Sq G (.ref t) xs := ⟨t, rfl, .inr (.inl h)⟩
theorem sq_lst {t : Addr} {xs : List V} (h : G t = some (.lst xs)) : Sq G (.ref t) xs := ⟨t, rfl, .inl h⟩
end
structure CamOk (p : Pr) (far long ahead marks : Nat) : Prop where
  nod : NoDye p
  form : Form p
  prt : parts p ≤ 5
  fit : Fit p
  fitR : FitR p
  ah : ahd p = 0
  rd : round p = (far, long)
  early : cnt (mark p) far = ahead
  lap : cnt (mark p) (far + long) = ahead + marks
  short : far + long ≤ 100000
def RimOk (rim : List Nat) (k : Nat) : Prop := rim.length = k ∧ 0 < k ∧ k ≤ 60 ∧ ∀ c ∈ rim, c ∈ MARKS
theorem RimOk.form {rim : List Nat} {k : Nat} (h : RimOk rim k) : Form (.wheel rim) := ⟨fun z => by
  have := h.1
  rw [z] at this
  have h2 := h.2.1
  simp at this
  omega, by have := h.1; have := h.2.2.1; omega, h.2.2.2⟩
theorem RimOk.fit {rim : List Nat} {k : Nat} (h : RimOk rim k) : Fit (.wheel rim) := ⟨by have := h.1; have := h.2.1; omega, by have := h.1; have := h.2.2.1; omega⟩
theorem cam_then {one other : List Nat} {j k far : Nat} (h1 : RimOk one j) (h2 : RimOk other k) (hf : far ≤ 99940) : CamOk (.thn (.wheel one) far (.wheel other)) far k (cnt (mark (.wheel one)) far) (cnt (mark (.wheel other)) k) where
  nod := ⟨trivial, trivial⟩
  form := ⟨h1.form, h2.form⟩
  prt := Nat.le_of_ble_eq_true rfl
  fit := ⟨h1.fit, h2.fit, lim_100k (by omega)⟩
  fitR := ⟨trivial, trivial, lim_100k (by show far + 0 ≤ 100000; omega), lim_100k (by show other.length ≤ 100000; have := h2.1; have := h2.2.2.1; omega)⟩
  ah := rfl
  rd := by
    show (far + 0, other.length) = (far, k)
    rw [Nat.add_zero, h2.1]
  early := by
    rw [cnt_sg, cnt_sg]
    exact sg_congr fun i hi => congrArg ind (if_pos hi)
  lap := by
    rw [cnt_sg, sg_app]
    congr 1
    · rw [cnt_sg]
      exact sg_congr fun i hi => congrArg ind (if_pos hi)
    · rw [cnt_sg]
      refine sg_congr fun i hi => congrArg ind ?_
      show (if far + i < far then _ else mark (.wheel other) (far + i - far)) = _
      rw [if_neg (by omega), Nat.add_sub_cancel_left]
  short := by have := h2.2.2.1; omega
theorem wheel_per {rim : List Nat} {k m : Nat} (h : rim.length = k) (hd : k ∣ m) (i : Nat) : mark (.wheel rim) i = mark (.wheel rim) (i % m) := by
  show rim.getD (i % rim.length) 0 = rim.getD (i % m % rim.length) 0
  rw [h, Nat.mod_mod_of_dvd _ hd]
theorem cam_two {r0 r1 : List Nat} (h0 : RimOk r0 47) (h1 : RimOk r1 53) : CamOk (.cut (.wheel r0) (.wheel r1)) 0 2491 0 (cnt (mark (.wheel r0)) 47 * cnt (mark (.wheel r1)) 53) where
  nod := ⟨trivial, trivial⟩
  form := ⟨h0.form, h1.form⟩
  prt := Nat.le_of_ble_eq_true rfl
  fit := ⟨h0.fit, h1.fit, by show 0 + r1.length ≤ 100000; have := h1.1; omega⟩
  fitR := ⟨trivial, trivial, lim_100k (by show Nat.lcm r0.length r1.length ≤ 100000; rw [h0.1, h1.1]; decide)⟩
  ah := rfl
  rd := by
    show (max 0 0, Nat.lcm r0.length r1.length) = _
    rw [h0.1, h1.1]
    decide
  early := rfl
  lap := by
    rw [Nat.zero_add, Nat.zero_add]
    exact cnt_cut (m := 47) (n := 53) (u := 8) (by decide) (wheel_per h0.1 (Nat.dvd_refl _)) (wheel_per h1.1 (Nat.dvd_refl _)) (by decide)
  short := by decide
theorem cam_three {r0 r1 r2 : List Nat} (h0 : RimOk r0 37) (h1 : RimOk r1 41) (h2 : RimOk r2 43) :
    CamOk (.cut (.cut (.wheel r0) (.wheel r1)) (.wheel r2)) 0 65231 0 (cnt (mark (.wheel r0)) 37 * cnt (mark (.wheel r1)) 41 * cnt (mark (.wheel r2)) 43) where
  nod := ⟨⟨trivial, trivial⟩, trivial⟩
  form := ⟨⟨h0.form, h1.form⟩, h2.form⟩
  prt := Nat.le_of_ble_eq_true rfl
  fit := ⟨⟨h0.fit, h1.fit, by show 0 + r1.length ≤ 100000; have := h1.1; omega⟩, h2.fit, by show 0 + r2.length ≤ 100000; have := h2.1; omega⟩
  fitR := ⟨⟨trivial, trivial, lim_100k (by show Nat.lcm r0.length r1.length ≤ 100000; rw [h0.1, h1.1]; decide)⟩, trivial, lim_100k (by show Nat.lcm (Nat.lcm r0.length r1.length) r2.length ≤ 100000; rw [h0.1, h1.1, h2.1]; decide)⟩
  ah := rfl
  rd := by
    show (max (max 0 0) 0, Nat.lcm (Nat.lcm r0.length r1.length) r2.length) = _
    rw [h0.1, h1.1, h2.1]
    decide
  early := rfl
  lap := by
    rw [Nat.zero_add, Nat.zero_add, ← cnt_cut (m := 37) (n := 41) (u := 28) (p := .wheel r0) (q := .wheel r1) (by decide) (wheel_per h0.1 (Nat.dvd_refl _)) (wheel_per h1.1 (Nat.dvd_refl _)) (by decide)]
    refine cnt_cut (m := 1517) (n := 43) (u := 882) (by decide) (fun i => ?_) (wheel_per h2.1 (Nat.dvd_refl _)) (by decide)
    show (if mark (.wheel r1) i = 46 then 46 else mark (.wheel r0) i) = (if mark (.wheel r1) (i % 1517) = 46 then 46 else mark (.wheel r0) (i % 1517))
    rw [wheel_per (m := 1517) h0.1 (by decide), wheel_per (m := 1517) h1.1 (by decide)]
  short := by decide
/-- the row of held ones -/
theorem held_row {cam : Pr} {rim : List Nat} {far long ahead marks late k : Nat} (h : CamOk cam far long ahead marks) (hr : RimOk rim k) : round (.held (.thn (.wheel [97]) late (.wheel rim)) cam) =
    if marks = 0 then (far, 1) else (far + up (late - ahead) marks * long, k / Nat.gcd k marks * long) := by
  have e : ahead + marks - ahead = marks := by omega
  unfold round
  rw [h.rd]
  show (if cnt (mark cam) (far + long) - cnt (mark cam) far = 0 then (far, 1) else (far + up (late + 0 - cnt (mark cam) far) (cnt (mark cam) (far + long) - cnt (mark cam) far) * long, rim.length / Nat.gcd rim.length (cnt (mark cam) (far + long) - cnt (mark cam) far) * long)) = _
  rw [h.lap, h.early, e, hr.1, Nat.add_zero]
theorem held_ok {cam : Pr} {rim : List Nat} {far long ahead marks late k : Nat} (h : CamOk cam far long ahead marks) (hr : RimOk rim k) (hl : late < 2 ^ 100) :
    NoDye (.held (.thn (.wheel [97]) late (.wheel rim)) cam) ∧ Form (.held (.thn (.wheel [97]) late (.wheel rim)) cam) ∧ parts (.held (.thn (.wheel [97]) late (.wheel rim)) cam) ≤ 12 ∧
    Fit (.held (.thn (.wheel [97]) late (.wheel rim)) cam) ∧ FitR (.held (.thn (.wheel [97]) late (.wheel rim)) cam) := by
  have l1 : (2 : Nat) ^ 100 ≤ lim := by
    rw [lim_eq]
    exact Nat.pow_le_pow_right (by decide) (by decide)
  have l2 : (2 : Nat) ^ 120 ≤ lim := by
    rw [lim_eq]
    exact Nat.pow_le_pow_right (by decide) (by decide)
  have hll : late < lim := Nat.lt_of_lt_of_le hl l1
  have h97 : RimOk [97] 1 := ⟨rfl, by decide, by decide, by decide⟩
  have hk := hr.2.2.1
  refine ⟨⟨⟨trivial, trivial⟩, h.nod⟩, ⟨⟨h97.form, hr.form⟩, h.form⟩, ?_, ⟨⟨h97.fit, hr.fit, hll⟩, h.fit, ?_⟩, ⟨trivial, trivial, ?_, ?_⟩, h.fitR, ?_, ?_⟩
  · show 1 + 1 + 1 + parts cam + 1 ≤ 12
    have := h.prt
    omega
  · rw [h.rd]
    exact h.short
  · show late + 0 < lim
    exact hll
  · show rim.length < lim
    exact lim_100k (by have := hr.1; omega)
  · have hs := h.short
    have hb : round (.held (.thn (.wheel [97]) late (.wheel rim)) cam) = _ := held_row h hr
    unfold Bnd
    rw [hb]
    by_cases hm : marks = 0
    · rw [if_pos hm]
      exact ⟨lim_100k (by show far ≤ 100000; omega), lim_100k (by show 1 ≤ 100000; decide)⟩
    · rw [if_neg hm]
      have hu : up (late - ahead) marks ≤ late := Nat.le_trans (up_le (by omega)) (Nat.sub_le _ _)
      refine ⟨Nat.lt_of_lt_of_le ?_ l2, lim_small ?_⟩
      · show far + up (late - ahead) marks * long < _
        have h1 : up (late - ahead) marks * long ≤ 2 ^ 100 * 100000 := Nat.mul_le_mul (by omega) (by omega)
        have h2 : (2 : Nat) ^ 100 * 100000 + 100000 < 2 ^ 120 := by decide
        omega
      · show k / Nat.gcd k marks * long < _
        have h1 : k / Nat.gcd k marks * long ≤ 60 * 100000 := Nat.mul_le_mul (Nat.le_trans (Nat.div_le_self _ _) hk) (by omega)
        have h2 : 60 * 100000 < (2 : Nat) ^ 64 := by decide
        omega
  · rw [h.ah]
    exact lim_100k (by decide)
end RO2

/-! More of walks with draws: loops, pairs, presses put together. -/
namespace RK
open PySem PySem.Spec PyProof.Rows L2 Evl TL RC RD RE RG RP RR RT RV RX RU RM RO2
section
variable {K : PySem.W.Frag} {R : Hp → Prop} {b : Addr} {σ : L2.St} {H0 G0 G : Hp} {te ta tb tc : TE} {t : TT} {ts tz tu tw : TS} {D : Ends} {v w : V} {P P1 P2 : V → Hp → Prop}
/-- where a walk stands: slots and what is known -/
def Kn (R : Hp → Prop) (b : Addr) (H0 G0 : Hp) (Pv : L2.St → Hp → Prop) : L2.St → Hp → Prop := fun σ2 H2 => ∃ G2, R H2 ∧ Stp b H0 H2 G0 G2 ∧ Pv σ2 G2
theorem sd_par (Dw : Drw R b) {i j : Nat} {ta : TA} (h : EvA ta σ G [v, w]) (k : StD R b H0 G0 tz D ((σ.set i (some v)).set j (some w)) G) : StD R b H0 G0 (tSeq (tPar i j ta) tz) D σ G := fun H hR s =>
  h H (s.sub.trans (Hd_sub b H)) _ fun H1 e1 => ⟨v, w, rfl, k H1 (Dw.ex hR e1).1 (s.trans (Dw.stp hR s.sub e1).2)⟩
theorem sd_end (Dw : Drw R b) {i : Nat} {Pv : L2.St → Hp → Prop} (h : Ev te σ G v) (hD : D.nx = Kn R b H0 G0 Pv) (k : Pv (σ.set i (some v)) G) : StD R b H0 G0 (tAsg te (gName i)) D σ G := fun H hR s =>
  s_asg (h.mono (s.sub.trans (Hd_sub b H))) fun H1 e1 => by
    rw [hD]
    exact ⟨G, (Dw.ex hR e1).1, s.trans (Dw.stp hR s.sub e1).2, k⟩
theorem sd_forR1 (Dw : Drw R b) {ta : TA} {j n : Nat} (h : EvAD R b ta σ G (fun vs _ => vs = [.int (n : Int)])) (hn : n ≤ 100000) (Pv : Nat → L2.St → Hp → Prop) (h0 : ∀ G1, Ex G G1 → Pv 0 σ G1)
    (hs : ∀ (i : Nat) σ' G', i < n → Pv i σ' G' → StD R b H0 G0 tu { D with nx := Kn R b H0 G0 (Pv (i + 1)), ct := Kn R b H0 G0 (Pv (i + 1)), bk := tz D } (σ'.set j (some (.int (i : Int)))) G')
    (hd : ∀ σ' G', Pv n σ' G' → StD R b H0 G0 tz D σ' G') : StD R b H0 G0 (tSeq (tFor (iRng1 ta) (gName j) tu) tz) D σ G := fun H hR s =>
  h H hR s.sub _ fun vs H1 G1 r1 x1 hv => ⟨(n : Int), hv, by omega, by omega, by
    rw [show ((n : Int)).toNat = n by omega]
    exact for_range (lo := 0) (n := n) (fun i => Kn R b H0 G0 (Pv i)) ⟨G1, r1, s.trans x1, h0 G1 x1.kn⟩ (fun i σ' H' hi p => by
      have e0 : (0 : Int) + (i : Int) = (i : Int) := Int.zero_add _
      rw [e0]
      obtain ⟨G', r', s', p'⟩ := p
      exact hs i σ' G' hi p' H' r' s') fun σ' H' p => by
        obtain ⟨G', r', s', p'⟩ := p
        exact hd σ' G' p' H' r' s'⟩
theorem sd_forNL (Dw : Drw R b) {xs : List V} {tl : TE} {j : Nat} (h : EvL tl σ G xs) (Pv : Nat → L2.St → Hp → Prop) (h0 : ∀ G1, Ex G G1 → Pv 0 σ G1)
    (hs : ∀ (i : Nat) x σ' G' (p : Addr), xs[i]? = some x → G' p = some (.lst xs) → Pv i σ' G' → StD R b H0 G0 tu { D with nx := Kn R b H0 G0 (fun σ2 G2 => G2 p = some (.lst xs) ∧ Pv (i + 1) σ2 G2), ct := Kn R b H0 G0 (fun σ2 G2 => G2 p = some (.lst xs) ∧ Pv (i + 1) σ2 G2), bk := tz D } (σ'.set j (some x)) G')
    (hd : ∀ σ' G', Pv xs.length σ' G' → StD R b H0 G0 tz D σ' G') : StD R b H0 G0 (tSeq (tFor (iList K tl) (gName j) tu) tz) D σ G := fun H hR s =>
  ed_el Dw h H hR s.sub _ fun v H1 G1 r1 x1 hv => by
    obtain ⟨p, rfl, hp⟩ := hv
    refine ⟨p, rfl, ⟨xs, SqL.of (Hd_sub b H1 _ _ (x1.sub _ _ hp))⟩, for_list (xs := xs) (fun i => Kn R b H0 G0 (fun σ2 G2 => G2 p = some (.lst xs) ∧ Pv i σ2 G2)) ⟨G1, r1, s.trans x1, hp, h0 G1 x1.kn⟩ (fun i σ' H' _ q => ?_) (fun i x σ' H' hi q => ?_) (fun σ' H' q => ?_)⟩
    · obtain ⟨G', r', s', q1, q2⟩ := q
      exact SqL.of (Hd_sub b H' _ _ (s'.sub _ _ q1))
    · obtain ⟨G', r', s', q1, q2⟩ := q
      exact hs i x σ' G' p hi q1 q2 H' r' s'
    · obtain ⟨G', r', s', q1, q2⟩ := q
      exact hd σ' G' q2 H' r' s'
theorem sd_cut {Pm : L2.St → Hp → Prop} (h : StD R b H0 G0 tu { D with nx := Kn R b H0 G0 Pm } σ G) (k : ∀ σ' G', Pm σ' G' → StD R b H0 G0 tz D σ' G') : StD R b H0 G0 (tCut tu tz) D σ G := fun H hR s =>
  q_cut (M := Kn R b H0 G0 Pm) (h H hR s) fun σ' H' hM => by
    obtain ⟨G', r', s', p'⟩ := hM
    exact k σ' G' p' H' r' s'
/-- an if at the end, the walk ends alike -/
theorem sd_ifN (Dw : Drw R b) {Pv : L2.St → Hp → Prop} {c : Bool} (hD : D.nx = Kn R b H0 G0 Pv) (h : EvT t σ G c) (h1 : c = true → StD R b H0 G0 tu D σ G) (h2 : c = false → Pv σ G) : StD R b H0 G0 (tIfS t tu tNext) D σ G := fun H hR s =>
  s_when (h.mono (s.sub.trans (Hd_sub b H))) (fun hc H1 e1 => h1 hc H1 (Dw.ex hR e1).1 (s.trans (Dw.stp hR s.sub e1).2)) (fun hc H1 e1 => by
    rw [hD]
    exact ⟨G, (Dw.ex hR e1).1, s.trans (Dw.stp hR s.sub e1).2, h2 hc⟩)
/-- a test that fails, then nothing -/
theorem sd_no {Pv : L2.St → Hp → Prop} (hD : D.nx = Kn R b H0 G0 Pv) (h : EvD R b te σ G (fun v _ => v = .bl false)) (k : ∀ G1, Ex G G1 → Pv σ G1) : StD R b H0 G0 (tIfS (tTest te) tu tNext) D σ G := fun H hR s =>
  h H hR s.sub _ fun v H1 G1 r1 x1 p1 => ⟨false, p1, by
    show D.nx σ H1
    rw [hD]
    exact ⟨G1, r1, s.trans x1, k G1 x1.kn⟩⟩
theorem q_no (h : EvD R b te σ G (fun v _ => v = .bl false)) (k : ∀ G1, Ex G G1 → StD R b H0 G0 tz D σ G1) : StD R b H0 G0 (tSeq (tIfS (tTest te) tu tNext) tz) D σ G := fun H hR s =>
  h H hR s.sub _ fun v H1 G1 r1 x1 p1 => ⟨false, p1, k G1 x1.kn H1 r1 (s.trans x1)⟩
theorem sd_asgUEnd (Dw : Drw R b) {i : Nat} {xs : List V} {Pv : L2.St → Hp → Prop} (h : EvU te σ G xs) (hD : D.nx = Kn R b H0 G0 Pv) (k : ∀ p G1, Ex G G1 → G1 p = some (.tup xs) → Pv (σ.set i (some (.ref p))) G1) : StD R b H0 G0 (tAsg te (gName i)) D σ G := s_asgD (ed_eu Dw h) fun v G1 e hp H r s => by
  obtain ⟨p, rfl, hp⟩ := hp
  rw [hD]
  exact ⟨G1, r, s, k p G1 e hp⟩
theorem retU_of (Dw : Drw R b) {H : Hp} (hR : R H) (e : Ex G (Hd b H)) {xs : List V} {Q : VK} (q : RetD R b G P H Q) (hP : ∀ p G', Ex G G' → G' p = some (.tup xs) → P (.ref p) G') : RetU xs H Q := fun p H1 hp e1 h1 => by
  have hn := Dw.fresh hR hp
  have hd : Hd b H p = none := by rw [Hd_no hn]; exact hp
  obtain ⟨r1, x1⟩ := Dw.ex hR e1
  have hn1 : ¬ owns b H1 p := fun c => by
    obtain ⟨xs, h2, _⟩ := Dw.lst hR
    exact hn ((owns_of (by rw [h2, e1 _ _ h2])).mp c)
  have hg := fresh_back e hd
  refine q _ H1 (upd G p (.tup xs)) r1 ⟨x1, ex_dom e1, Ex.new hg, fun a o ha => ?_, fun a h => upd_ne fun z => h (z ▸ hp)⟩ (hP p _ (Ex.new hg) upd_same)
  by_cases c : a = p
  · subst c
    rw [upd_same] at ha
    rw [Hd_no hn1, h1, ha]
  · rw [upd_ne c] at ha
    exact x1 _ _ (e _ _ ha)
/-- two pairs of ints -/
theorem rv_neP {H : Hp} {p q : Addr} {i j k l : Int} (hp : SqT K H p [.int i, .int j]) (hq : SqT K H q [.int k, .int l]) : RV (rNeD K) (.ref p) (.ref q) H (.bl (!decide (i = k ∧ j = l))) := fun H1 e Q q' =>
  ⟨.tuple [.int i, .int j], .tuple [.int k, .int l], .tup (ex_t e hp) (.cons (.int i) (.cons (.int j) .nil)), .tup (ex_t e hq) (.cons (.int k) (.cons (.int l) .nil)),
    by simp [SeqAt.shaped, PyData.canLay0, PyData.canLayAll0, PyData.depth, PyData.depthAll], by simp [SeqAt.shaped, PyData.canLay0, PyData.canLayAll0, PyData.depth, PyData.depthAll], by
    have e2 : PyData.eqv (.tuple [.int i, .int j]) (.tuple [.int k, .int l]) = decide (i = k ∧ j = l) := by
      simp only [PyData.eqv, PyData.eqvAll]
      by_cases c : i = k <;> by_cases d : j = l <;> simp [c, d]
    rw [e2]
    exact q' H1 (Ex.refl H1)⟩
/-! ### presses -/
def HE (A : Pr → Prop) : V → Hp → Prop := fun v G => ∃ p, A p ∧ Hand G p v
theorem HE.mono {A : Pr → Prop} : ∀ v G1 G2, Ex G1 G2 → HE A v G1 → HE A v G2 := fun v G1 G2 e ⟨p, h1, h2⟩ => ⟨p, h1, h2.ex e⟩
theorem HE.imp {A A' : Pr → Prop} {v : V} {G : Hp} (h : HE A v G) (i : ∀ p, A p → A' p) : HE A' v G := h.elim fun p hp => ⟨p, i p hp.1, hp.2⟩
theorem ed_he (Dw : Drw R b) {p : Pr} (h : Ev te σ G v) (hp : Hand G p v) : EvD R b te σ G (HE fun q => q = p) := fun H hR e Q q => ed_ev Dw h H hR e Q fun v' H' G' r s z => q v' H' G' r s ⟨p, rfl, by rw [z]; exact hp.ex s.kn⟩
theorem ed_wd (Dw : Drw R b) {z : Str} {i : Nat} (h : z = S (wd i)) : EvD R b (tC (.str z)) σ G (fun v _ => v = T (wd i)) := ed_ev Dw (ev_wd h)
theorem ed_wheel (Dw : Drw R b) {z : Str} {A : List Nat → Prop} (hz : z = S (wd 0)) (h : ∀ G1, Ex G G1 → EvD R b te σ G1 (fun v _ => ∃ rim, v = T rim ∧ A rim)) : EvD R b (tTup (tCons (tC (.str z)) (tCons te tNil))) σ G (HE fun p => ∃ rim, A rim ∧ p = .wheel rim) :=
  ed_imp (ed_tup Dw (fun vs G1 G2 e p => p) (fun vs G1 p => by obtain ⟨v, r, rfl, h1, w, r2, rfl, h2, rfl⟩ := p; exact Nat.le_of_ble_eq_true rfl)
    (ead_cons (ed_wd Dw hz) (fun _ _ _ _ h => h) fun G1 e1 => ead_cons (h G1 e1) (fun _ _ _ _ h => h) fun G2 e2 => ead_nil)) fun v G1 e ⟨t, xs, h1, h2, x, r, h3, h4, y, r2, h5, ⟨rim, h6, h7⟩, h8⟩ => by
      subst h1 h3 h4 h5 h6 h8
      exact ⟨_, ⟨rim, h7, rfl⟩, hand_wheel (sq_tup h2)⟩
theorem ed_two (Dw : Drw R b) {z : Str} {i : Nat} {f : Pr → Pr → Pr} {A B : Pr → Prop} (hz : z = S (wd i)) (hf : ∀ {G : Hp} {v x y : V} {p q : Pr}, Sq G v [T (wd i), x, y] → Hand G p x → Hand G q y → Hand G (f p q) v)
    (ha : ∀ G1, Ex G G1 → EvD R b ta σ G1 (HE A)) (hb : ∀ G1, Ex G G1 → EvD R b tb σ G1 (HE B)) : EvD R b (tTup (tCons (tC (.str z)) (tCons ta (tCons tb tNil)))) σ G (HE fun p => ∃ a c, A a ∧ B c ∧ p = f a c) :=
  ed_imp (ed_tup Dw (fun vs G1 G2 e p => by
      obtain ⟨v, r, h1, h2, x, r2, h3, h4, y, r3, h5, h6, h7⟩ := p
      exact ⟨v, r, h1, h2, x, r2, h3, h4.mono _ _ _ e, y, r3, h5, h6.mono _ _ _ e, h7⟩) (fun vs G1 p => by obtain ⟨v, r, rfl, h1, x, r2, rfl, h2, y, r3, rfl, h3, rfl⟩ := p; exact Nat.le_of_ble_eq_true rfl)
    (ead_cons (ed_wd Dw hz) (fun _ _ _ _ h => h) fun G1 e1 => ead_cons (ha G1 e1) HE.mono fun G2 e2 => ead_cons (hb G2 (e1.trans e2)) HE.mono fun G3 e3 => ead_nil)) fun v G1 e ⟨t, xs, h1, h2, x, r, h3, h4, y, r2, h5, ⟨a, h6, h7⟩, u, r3, h8, ⟨c, h9, h10⟩, h11⟩ => by
      subst h1 h3 h4 h5 h8 h11
      exact ⟨_, ⟨a, c, h6, h9, rfl⟩, hf (sq_tup h2) h7 h10⟩
theorem ed_thn (Dw : Drw R b) {z : Str} {A B : Pr → Prop} {N : Nat → Prop} (hz : z = S (wd 6))
    (ha : ∀ G1, Ex G G1 → EvD R b ta σ G1 (HE A)) (hn : ∀ G1, Ex G G1 → EvD R b tc σ G1 (fun v _ => ∃ n : Nat, v = .int (n : Int) ∧ N n)) (hb : ∀ G1, Ex G G1 → EvD R b tb σ G1 (HE B)) :
    EvD R b (tTup (tCons (tC (.str z)) (tCons ta (tCons tc (tCons tb tNil))))) σ G (HE fun p => ∃ a n c, A a ∧ N n ∧ B c ∧ p = .thn a n c) :=
  ed_imp (ed_tup Dw (fun vs G1 G2 e p => by
      obtain ⟨v, r, h1, h2, x, r2, h3, h4, n, rn, h12, h13, y, r3, h5, h6, h7⟩ := p
      exact ⟨v, r, h1, h2, x, r2, h3, h4.mono _ _ _ e, n, rn, h12, h13, y, r3, h5, h6.mono _ _ _ e, h7⟩) (fun vs G1 p => by obtain ⟨v, r, rfl, h1, x, r2, rfl, h2, n, rn, rfl, h4, y, r3, rfl, h3, rfl⟩ := p; exact Nat.le_of_ble_eq_true rfl)
    (ead_cons (ed_wd Dw hz) (fun _ _ _ _ h => h) fun G1 e1 => ead_cons (ha G1 e1) HE.mono fun G2 e2 => ead_cons (hn G2 (e1.trans e2)) (fun _ _ _ _ h => h) fun G3 e3 => ead_cons (hb G3 ((e1.trans e2).trans e3)) HE.mono fun G4 e4 => ead_nil))
    fun v G1 e ⟨t, xs, h1, h2, x, r, h3, h4, y, r2, h5, ⟨a, h6, h7⟩, k, rn, h12, ⟨n, h13, h14⟩, u, r3, h8, ⟨c, h9, h10⟩, h11⟩ => by
      subst h1 h3 h4 h5 h8 h11 h12 h13
      exact ⟨_, ⟨a, n, c, h6, h14, h9, rfl⟩, hand_thn (sq_tup h2) h7 h10⟩
theorem ed_turned (Dw : Drw R b) {z : Str} {A : Pr → Prop} {N : Nat → Prop} (hz : z = S (wd 1))
    (ha : ∀ G1, Ex G G1 → EvD R b ta σ G1 (HE A)) (hn : ∀ G1, Ex G G1 → EvD R b tc σ G1 (fun v _ => ∃ n : Nat, v = .int (n : Int) ∧ N n)) :
    EvD R b (tTup (tCons (tC (.str z)) (tCons ta (tCons tc tNil)))) σ G (HE fun p => ∃ a n, A a ∧ N n ∧ p = .turned a n) :=
  ed_imp (ed_tup Dw (fun vs G1 G2 e p => by
      obtain ⟨v, r, h1, h2, x, r2, h3, h4, n, rn, h12, h13, h7⟩ := p
      exact ⟨v, r, h1, h2, x, r2, h3, h4.mono _ _ _ e, n, rn, h12, h13, h7⟩) (fun vs G1 p => by obtain ⟨v, r, rfl, h1, x, r2, rfl, h2, n, rn, rfl, h4, rfl⟩ := p; exact Nat.le_of_ble_eq_true rfl)
    (ead_cons (ed_wd Dw hz) (fun _ _ _ _ h => h) fun G1 e1 => ead_cons (ha G1 e1) HE.mono fun G2 e2 => ead_cons (hn G2 (e1.trans e2)) (fun _ _ _ _ h => h) fun G3 e3 => ead_nil))
    fun v G1 e ⟨t, xs, h1, h2, x, r, h3, h4, y, r2, h5, ⟨a, h6, h7⟩, k, rn, h12, ⟨n, h13, h14⟩, h11⟩ => by
      subst h1 h3 h4 h5 h11 h12 h13
      exact ⟨_, ⟨a, n, h6, h14, rfl⟩, hand_turned (sq_tup h2) h7⟩
end
end RK

/-! The reel: great cells, rests of cells, how many draws, all mixed. -/
namespace RN
open PySem PySem.Spec PyProof.Rows L2 Evl TL RC RD RE RG RU RM
def Reel (b : Addr) (H : Hp) : Prop := ∃ (g q : Addr) (gs qs : List Int) (c t : Int), H b = some (.lst [.ref g, .ref q, .int c, .int t]) ∧ H g = some (.lst (gs.map V.int)) ∧ H q = some (.lst (qs.map V.int)) ∧
  gs.length ≤ 63 ∧ 0 < qs.length ∧ qs.length ≤ 64 ∧ (∀ x ∈ qs, 0 ≤ x ∧ x < 1000003) ∧ 0 ≤ c ∧ 0 ≤ t ∧ t < 2 ^ 127
theorem reelDrw (b : Addr) : Drw (Reel b) b where
  lst := fun ⟨g, q, gs, qs, c, t, h1, h2, h3, _⟩ => ⟨_, h1, fun p hp => by
    simp at hp
    rcases hp with rfl | rfl
    · exact ⟨_, h2⟩
    · exact ⟨_, h3⟩⟩
  same := fun ⟨g, q, gs, qs, c, t, h1, h2, h3, h4⟩ h => ⟨g, q, gs, qs, c, t, h _ _ (.inl rfl) h1, h _ _ (.inr ⟨_, h1, by simp⟩) h2, h _ _ (.inr ⟨_, h1, by simp⟩) h3, h4⟩
section
variable {K : PySem.W.Frag} {σ : L2.St} {H H1 : Hp} {ta tb te : TE} {D : Ends} {tz : TS} {b : Addr}
/-- xs != [] -/
theorem et_neNil {p : Addr} {xs : List V} (ha : Ev ta σ H (.ref p)) (hp : H p = some (.lst xs)) : EvT (tTest (tOp RY.rNeNil ta (tLst tNil))) σ H (!decide (xs = [])) :=
  et_test (ev_opL ha el_nil fun q H1 hq e => rv_val fun H2 e2 Q k => ⟨p, q, xs, rfl, rfl, (e.trans e2) _ _ hp, e2 _ _ hq, k⟩)
/-- xs[i] = a new list -/
theorem q_setLL {l : Addr} {xs ys : List V} {j : Nat} (hl : H l = some (.lst xs)) (h : EvL te σ H ys) (ho : ∀ H1, Ev ta σ H1 (.ref l)) (hi : ∀ H1, Ev tb σ H1 (.int (j : Int))) (hj : j < xs.length)
    (k : ∀ p H1, H p = none → Ex H H1 → H1 p = some (.lst ys) → tz D σ (upd H1 l (.lst (xs.set j (.ref p))))) : tSeq (tAsg te (gSub ta tb rSetL)) tz D σ H :=
  h H (Ex.refl H) _ fun p H1 hp e1 h1 => ho H1 H1 (Ex.refl H1) _ fun H2 e2 => hi H2 H2 (Ex.refl H2) _ fun H3 e3 =>
    ⟨l, xs, (j : Int), j, rfl, rfl, ((e1.trans e2).trans e3) l _ hl, ixN_nat hj, k p H3 hp ((e1.trans e2).trans e3) ((e2.trans e3) _ _ h1)⟩
/-- what is no part of the drawer stays -/
theorem hd_ex {xs : List V} (hb : H b = some (.lst xs)) (h : ∀ a o, ¬ owns b H a → H a = some o → H1 a = some o ∧ ¬ owns b H1 a) : Ex (Hd b H) (Hd b H1) := fun a o ha => by
  have hn := Hd_some ha
  rw [Hd_no hn] at ha
  obtain ⟨h1, h2⟩ := h a o hn ha
  rw [Hd_no h2]
  exact h1
/-- the drawer written anew: its lists are those that it had or new ones -/
theorem reel_put {g q m : Addr} {gs qs ns : List Int} {c t c' t' : Int} (hb : H b = some (.lst [.ref g, .ref q, .int c, .int t])) (hg : H g = some (.lst (gs.map V.int))) (hq : H q = some (.lst (qs.map V.int))) (e : Ex H H1)
    (hm : H m = none ∨ m = g) (h1 : H1 m = some (.lst (ns.map V.int))) (z0 : ns.length ≤ 63) (z1 : 0 < qs.length) (z2 : qs.length ≤ 64) (z3 : ∀ x ∈ qs, 0 ≤ x ∧ x < 1000003) (z4 : 0 ≤ c') (z5 : 0 ≤ t') (z6 : t' < 2 ^ 127) :
    Reel b (upd H1 b (.lst [.ref m, .ref q, .int c', .int t'])) ∧ Ex (Hd b H) (Hd b (upd H1 b (.lst [.ref m, .ref q, .int c', .int t']))) := by
  have ne_cells : ∀ {a : Addr} {l : List Int}, H a = some (.lst (l.map V.int)) → a ≠ b := fun {a l} h z => by
    rw [z, hb] at h
    cases l with
    | nil => cases h
    | cons x r => cases h
  have qb := ne_cells hq
  have mb : m ≠ b := by
    rcases hm with h | h
    · exact (ne_of_none hb h).symm
    · rw [h]; exact ne_cells hg
  refine ⟨⟨m, q, ns, qs, c', t', upd_same, by rw [upd_ne mb]; exact h1, by rw [upd_ne qb]; exact e _ _ hq, z0, z1, z2, z3, z4, z5, z6⟩, hd_ex hb fun a o hn ha => ?_⟩
  have ab : a ≠ b := fun z => hn (.inl z)
  refine ⟨by rw [upd_ne ab]; exact e _ _ ha, fun ho => ?_⟩
  rcases ho with z | ⟨xs, hx, hax⟩
  · exact ab z
  · rw [upd_same] at hx
    cases hx
    simp at hax
    rcases hax with z | z
    · rcases hm with h | h
      · rw [z, h] at ha; cases ha
      · exact hn (.inr ⟨_, hb, by rw [z, h]; simp⟩)
    · exact hn (.inr ⟨_, hb, by rw [z]; simp⟩)
end
def sp_draw_reel : Sp := fun vs H Q _ => ∃ (b : Addr) (k : Int) (G : Hp), vs = [.ref b, .int k] ∧ ((Reel b H ∧ Ex G (Hd b H)) ∧ 0 < k ∧ k < 2 ^ 100) ∧ RetD (Reel b) b G (fun v _ => ∃ d, v = .int d ∧ 0 ≤ d ∧ d < k) H Q
def sp_make_reel (K : PySem.W.Frag) : Sp := fun vs H Q _ => ∃ (a : Addr) (ns : List Int), vs = [.ref a] ∧ (SqL K H a (ns.map V.int) ∧ ns.length ≤ 63) ∧ ∀ b H', Reel b H' → Ex H H' → Ex H (Hd b H') → Q (.ref b) H'
theorem cut_all {xs : List V} {k : Nat} (h : xs.length ≤ k) : cutV xs none (some (k : Int)) = xs := by
  have h2 := HT.sIx_nat xs.length xs.length k
  have e : min k xs.length = xs.length := Nat.min_eq_right h
  unfold cutV
  rw [h2, e]
  show List.take (xs.length - 0) (List.drop 0 xs) = xs
  rw [Nat.sub_zero, List.drop_zero, List.take_length]
theorem cut_tail {x : V} {r : List V} : cutV (x :: r) (some 1) none = r := by
  unfold cutV
  have h1 := HT.sIx_nat (x :: r).length 0 1
  rw [show ((1 : Nat) : Int) = 1 from rfl] at h1
  rw [h1]
  have h2 : min 1 (x :: r).length = 1 := by simp
  rw [h2]
  show List.take ((x :: r).length - 1) r = _
  rw [List.length_cons, Nat.add_sub_cancel, List.take_length]
theorem filt_ints (p : Int → Bool) (f : Int → Int) : ∀ ns : List Int, ((ns.map V.int).filter fun v => match v with | .int i => p i | _ => false).map (fun v => match v with | .int i => V.int (f i) | v => v) = ((ns.filter p).map f).map V.int
  | [] => rfl
  | n :: r => by
    have ih := filt_ints p f r
    by_cases c : p n = true
    · rw [List.map_cons, List.filter_cons_of_pos c, List.filter_cons_of_pos (by exact c), List.map_cons, ih]
      rfl
    · rw [List.map_cons, List.filter_cons_of_neg c, List.filter_cons_of_neg (by exact c), ih]
end RN

/-! list(text); xs[::-1]. -/
namespace RLS
open PySem PySem.Spec PyProof.Rows L2 Evl TL RA RC RD
section
variable {X : Cx}
def signsV (x : Str) : List V := x.cps.toList.map fun c => V.str ⟨#[c]⟩
theorem signsV_S (l : List Nat) : signsV (S l) = l.map fun c => T [c] := by
  unfold signsV S
  rfl
def rListT : List V → Hp → VK → Prop := fun xs H Q => ∃ x : Str, xs = [.str x] ∧ x.cps.size ≤ 16777216 ∧ ∀ l, H l = none → Q (.ref l) (upd H l (.lst (signsV x)))
theorem call_listT (hcalm : X.calm = true) : CallR X (.type "list") rListT := by
  intro pins s σ H xs us Q I r q
  obtain ⟨x, rfl, hx, q⟩ := q
  obtain ⟨u, rfl, rx⟩ := vals1 r
  obtain ⟨t, rfl⟩ := rx
  refine call_list_str (I.ok.hd hcalm) x t (hn := by rw [big]; exact hx) fun h' tk acc c hk hS hacc => ?_
  have hrv : Vals (signsV x) acc.toList := by
    unfold signsV
    have key : ∀ (us : List Value) (cs : List Nat), us.length = cs.length → (∀ (j : Nat) (u : Value), us[j]? = some u → ∃ c t, cs[j]? = some c ∧ u = Value.str ⟨#[c]⟩ t) → Vals (cs.map fun c => V.str ⟨#[c]⟩) us := by
      intro us
      induction us with
      | nil =>
        intro cs hl _
        cases cs with
        | nil => exact .nil
        | cons c r => cases hl
      | cons u us ih =>
        intro cs hl hj
        cases cs with
        | nil => cases hl
        | cons c r =>
          obtain ⟨c', t', g1, g2⟩ := hj 0 u rfl
          cases g1
          exact .cons ⟨t', g2⟩ (ih r (Nat.succ.inj hl) fun j u' hu => hj (j + 1) u' hu)
    refine key _ _ (by rw [Array.length_toList, Array.length_toList]; exact hacc.1) fun j u hu => ?_
    obtain ⟨c', t', hc, rfl⟩ := hacc.2 j u (by simpa using hu)
    exact ⟨c', t', by simpa using hc, rfl⟩
  have hz : (signsV x).length ≤ sizeLine := by
    unfold signsV
    rw [List.length_map, Array.length_toList, big]
    exact hx
  exact ⟨.ref s.heap.objs.size, _, I.laid (o := .lst (signsV x)) (t' := tk) (h' := h') hk (Nat.le_refl _) (show ObjOk X.prog X.w _ _ _ (.lst (signsV x)) from ⟨hz, acc.toList, c, hrv, by simpa using hS⟩), rfl, q _ (I.hok.fresh (Nat.le_refl _))⟩
theorem fm_congr {α β : Type} {f g : α → Option β} : ∀ {l : List α}, (∀ x ∈ l, f x = g x) → l.filterMap f = l.filterMap g
  | [], _ => rfl
  | x :: r, h => by
    rw [List.filterMap_cons, List.filterMap_cons, h x List.mem_cons_self, fm_congr fun y hy => h y (List.mem_cons_of_mem _ hy)]
theorem range_rev (its : List Value) : ((List.range its.length).map fun k => its.length - 1 - k).filterMap (its[·]?) = its.reverse := by
  have e : ((List.range its.length).map fun k => its.length - 1 - k).filterMap (its[·]?) = (List.range its.length).map fun k => its.getD (its.length - 1 - k) .none := by
    rw [List.filterMap_map, ← List.filterMap_eq_map]
    refine fm_congr fun k hk => ?_
    have hk' : k < its.length := List.mem_range.mp hk
    have h1 : its.length - 1 - k < its.length := by omega
    simp [h1]
  apply List.ext_getElem?
  intro i
  rw [e]
  by_cases h : i < its.length
  · rw [List.getElem?_map, List.getElem?_range h, List.getElem?_reverse h]
    have h1 : its.length - 1 - i < its.length := by omega
    simp [h1]
  · rw [List.getElem?_eq_none (by simp; omega), List.getElem?_eq_none (by simp; omega)]
theorem pick_rev (its : List Value) : slicePick its.toArray none none (some (-1)) = its.reverse.toArray := by
  unfold slicePick
  congr 1
  rw [← range_rev]
  have eb : sliceBounds none none (some (-1)) its.toArray.size = ((its.length : Int) - 1, -1, -1) := by
    simp [sliceBounds]
  rw [eb]
  have er : sliceRange ((its.length : Int) - 1) (-1) (-1) = (List.range its.length).map fun k => its.length - 1 - k := by
    unfold sliceRange
    rw [if_neg (by decide)]
    by_cases h : its.length = 0
    · rw [h]
      rfl
    · rw [if_pos (by omega)]
      have e1 : (((its.length : Int) - 1 - (-1) - (-1) - 1) / (-(-1))).toNat = its.length := by
        have : ((its.length : Int) - 1 - (-1) - (-1) - 1) / (-(-1)) = its.length := by
          rw [show (-(-1) : Int) = 1 by decide, Int.ediv_one]
          omega
        rw [this]
        omega
      show List.map (fun k => ((its.length : Int) - 1 + -1 * ↑k).toNat) (List.range (((its.length : Int) - 1 - (-1) - (-1) - 1) / (-(-1))).toNat) = _
      rw [e1]
      refine List.map_congr_left fun k hk => ?_
      have := List.mem_range.mp hk
      omega
  show List.filterMap _ (sliceRange ((its.length : Int) - 1) (-1) (-1)) = _
  rw [er]
  refine fm_congr fun k _ => ?_
  simp
theorem vals_app : ∀ {xs ys : List V} {us vs : List Value}, Vals xs us → Vals ys vs → Vals (xs ++ ys) (us ++ vs)
  | _, _, _, _, .nil, h => h
  | _, _, _, _, .cons a b, h => .cons a (vals_app b h)
theorem vals_rev : ∀ {xs : List V} {us : List Value}, Vals xs us → Vals xs.reverse us.reverse
  | _, _, .nil => .nil
  | _, _, .cons a b => by
    rw [List.reverse_cons, List.reverse_cons]
    exact vals_app (vals_rev b) (.cons a .nil)
def tRev (K : PySem.W.Frag) (te : TE) (tl th : TO) (ts : TE) : TE := fun σ H Q => te σ H fun x H1 => tl σ H1 fun lo H2 => th σ H2 fun hi H3 => ts σ H3 fun y H4 =>
  lo = none ∧ hi = none ∧ ∃ a xs, x = .ref a ∧ y = .int (-1) ∧ SqL K H4 a xs ∧ ∀ p, H4 p = none → Q (.ref p) (upd H4 p (.lst xs.reverse))
theorem pe_rev {e st : Expr} {lo hi : Option Expr} {te ts : TE} {tl th : TO} {p2 pos : Pos} (he : PE X e te) (hl : PO X lo tl) (hu : PO X hi th) (hs : PE X st ts) :
    PE X (.Subscript e (.Slice lo hi (some st) p2) pos) (tRev X.K te tl th ts) := by
  refine ⟨fun pins s σ H Q I h => ?_⟩
  refine Subscript_ (thn (he.run pins s σ H _ I h) fun v s1 hh => ?_)
  obtain ⟨x, H1, I1, r1, q1⟩ := hh
  refine wpAny_Slice (thn (hl.run pins s1 σ H1 _ I1 q1) fun vl s2 hh2 => ?_)
  obtain ⟨l, H2, I2, pl, q2⟩ := hh2
  refine thn (hu.run pins s2 σ H2 _ I2 q2) fun vu s3 hh3 => ?_
  obtain ⟨u, H3, I3, pu, q3⟩ := hh3
  show wpAny _ _ (eval st X.env) _ _ s3
  refine thn (hs.run pins s3 σ H3 _ I3 q3) fun vs s4 hh4 => ?_
  obtain ⟨y, H4, I4, r4, rfl, rfl, a, xs, rfl, rfl, hx, q⟩ := hh4
  have hv : v = .ref a := r1
  obtain ⟨tk, rfl⟩ := r4
  obtain ⟨its, r, ht, hz⟩ := I4.list hx
  have hlen := r.length
  have I5 : Inv X pins σ H4 { s4 with heap := s4.heap.push { cls := .type "slice", data := .fields #[vl, vu, .int (-1) tk] } } :=
    I4.kept (t' := s4.toks) fun b ob q => Heap.get?_push_of_some _ q
  have hl5 : (s4.heap.push { cls := .type "slice", data := .fields #[vl, vu, .int (-1) tk] }).IsList a its.toArray := ht.isList.push _
  have ht5 : ({ s4 with heap := s4.heap.push { cls := .type "slice", data := .fields #[vl, vu, .int (-1) tk] } } : Shared).TypeIs v "list" := by
    rw [hv]
    exact hl5.typeIs
  show wpAny (model X.prog X.w) X.A (subscriptTail e (.Slice lo hi (some st) p2) v (.ref s4.heap.objs.size)) (EP X pins σ Q) X.xe { s4 with heap := s4.heap.push { cls := .type "slice", data := .fields #[vl, vu, .int (-1) tk] } }
  refine tail_any (T := "list") (ops := [v, .ref s4.heap.objs.size]) ht5 F.slot_list_getitem.lookup ?_ (by with_unfolding_all rfl)
  subst hv
  refine wpAny_getItem_list_slice (st := some (-1)) hl5 (Heap.IsSliceOf.new ..) pl pu (.int _ _) (by decide) ?_ (by rw [List.size_toArray]; omega)
  rw [pick_rev]
  refine ⟨.ref _, _, I5.laid (t' := s4.toks) (o := .lst xs.reverse) (fun b ob q => Heap.get?_push_of_some _ q) (Nat.le_refl _) ?_, rfl, q _ (I5.hok.fresh (Nat.le_refl _))⟩
  exact ⟨by rw [List.length_reverse]; exact hz, its.reverse, 0, vals_rev r, Heap.get?_push_size _ rfl⟩
end
end RLS

/-! So many marks of a press, as a text. Plain. -/
namespace RST
open RC RD RP RO1 L2
def strip (p : Pr) (n : Nat) : List Nat := (List.range n).map (mark p)
theorem strip_len (p : Pr) (n : Nat) : (strip p n).length = n := by simp [strip]
theorem strip_get {p : Pr} {n i : Nat} (h : i < n) : (strip p n)[i]? = some (mark p i) := by
  unfold strip
  rw [List.getElem?_map, List.getElem?_range h]
  rfl
/-- equal, place by place -/
theorem strip_ext {p : Pr} {n : Nat} {l : List Nat} (hl : l.length = n) (h : ∀ i, i < n → l[i]? = some (mark p i)) : l = strip p n := by
  apply List.ext_getElem?
  intro i
  by_cases c : i < n
  · rw [h i c, strip_get c]
  · rw [List.getElem?_eq_none (by omega), List.getElem?_eq_none (by rw [strip_len]; omega)]
theorem strip_take {p : Pr} {n m : Nat} (h : n ≤ m) : (strip p m).take n = strip p n :=
  strip_ext (by rw [List.length_take, strip_len]; omega) fun i hi => by rw [List.getElem?_take_of_lt hi, strip_get (by omega)]
theorem strip_drop (p : Pr) (n m : Nat) : (strip p (n + m)).drop m = strip (.turned p m) n :=
  strip_ext (by rw [List.length_drop, strip_len]; omega) fun i hi => by
    rw [List.getElem?_drop, strip_get (by omega)]
    show some (mark p (m + i)) = some (mark p (i + m))
    rw [Nat.add_comm]
theorem strip_thn (a b : Pr) (m n : Nat) : strip a (min n m) ++ strip b (n - min n m) = strip (.thn a m b) n :=
  strip_ext (by rw [List.length_append, strip_len, strip_len]; omega) fun i hi => by
    show _ = some (if i < m then mark a i else mark b (i - m))
    by_cases c : i < min n m
    · rw [List.getElem?_append_left (by rw [strip_len]; exact c), strip_get c, if_pos (by omega)]
    · rw [List.getElem?_append_right (by rw [strip_len]; omega), strip_len, strip_get (by omega), if_neg (by omega)]
      congr 2
      omega
theorem strip_dyed (p : Pr) (ds : List (Nat × Nat)) (n : Nat) : (strip p n).map (dye ds) = strip (.dyed p ds) n := by
  unfold strip
  rw [List.map_map]
  rfl
theorem strip_over (a b : Pr) (n : Nat) : (List.range n).map (fun k => if (strip b n).getD k 0 = 46 then (strip a n).getD k 0 else (strip b n).getD k 0) = strip (.over a b) n := by
  refine strip_ext (by simp) fun i hi => ?_
  rw [List.getElem?_map, List.getElem?_range hi]
  simp [List.getD, strip_get hi, mark]
theorem strip_cut (a b : Pr) (n : Nat) : (List.range n).map (fun k => if (strip b n).getD k 0 = 46 then 46 else (strip a n).getD k 0) = strip (.cut a b) n := by
  refine strip_ext (by simp) fun i hi => ?_
  rw [List.getElem?_map, List.getElem?_range hi]
  simp [List.getD, strip_get hi, mark]
theorem strip_succ (p : Pr) (n : Nat) : strip p (n + 1) = strip p n ++ [mark p n] := by
  unfold strip
  rw [List.range_succ, List.map_append]
  rfl
theorem strip_count (p : Pr) : ∀ n, (strip p n).count 46 + cnt (mark p) n = n
  | 0 => rfl
  | n + 1 => by
    have ih := strip_count p n
    rw [strip_succ, List.count_append]
    show _ + (cnt (mark p) n + _) = _
    by_cases c : mark p n = 46
    · rw [if_pos c, c]
      simp
      omega
    · rw [if_neg c, List.count_cons_of_ne c]
      simp
      omega
theorem strip_add (p : Pr) (n m : Nat) : strip p (n + m) = strip p n ++ (List.range m).map fun j => mark p (n + j) := by
  refine (strip_ext (by simp [strip_len]) fun i hi => ?_).symm
  by_cases c : i < n
  · rw [List.getElem?_append_left (by rw [strip_len]; exact c), strip_get c]
  · rw [List.getElem?_append_right (by rw [strip_len]; omega), strip_len, List.getElem?_map, List.getElem?_range (by omega)]
    simp
    congr 1
    omega
/-- what stands from one place to another -/
theorem strip_mid {p : Pr} {n a b : Nat} (h : a + b ≤ n) : ((strip p n).drop a).take b = (List.range b).map fun j => mark p (a + j) := by
  apply List.ext_getElem?
  intro i
  by_cases c : i < b
  · rw [List.getElem?_take_of_lt c, List.getElem?_drop, strip_get (by omega), List.getElem?_map, List.getElem?_range c]
    rfl
  · rw [List.getElem?_eq_none (by simp [strip_len]; omega), List.getElem?_eq_none (by simp; omega)]
theorem strip_tail_count {p : Pr} (a b : Nat) : ((strip p (a + b)).drop a).count 46 + (cnt (mark p) (a + b) - cnt (mark p) a) = b := by
  have h1 := strip_count p (a + b)
  have h2 := strip_count p a
  have h3 : (strip p (a + b)).count 46 = (strip p a).count 46 + ((strip p (a + b)).drop a).count 46 := by
    rw [← List.count_append, ← strip_take (p := p) (n := a) (m := a + b) (by omega), List.take_append_drop]
  have h4 := cnt_mono (mark p) (a := a) (b := a + b) (by omega)
  omega
/-! ### by turns -/
def lapL : Ps → Nat → List Nat
  | .nil, _ => []
  | .cons p n r, t => ((List.range n).map fun j => mark p (t * n + j)) ++ lapL r t
theorem lapL_len : ∀ (ps : Ps) (t : Nat), (lapL ps t).length = total ps
  | .nil, _ => rfl
  | .cons p n r, t => by
    show (_ ++ lapL r t).length = n + total r
    rw [List.length_append, lapL_len r t]
    simp
theorem lapL_get : ∀ (ps : Ps) (t : Nat) {m : Nat}, m < total ps → (lapL ps t)[m]? = some (markT ps t m)
  | .nil, _, m, h => absurd h (Nat.not_lt_zero _)
  | .cons p n r, t, m, h => by
    show (_ ++ lapL r t)[m]? = some (if m < n then mark p (t * n + m) else markT r t (m - n))
    by_cases c : m < n
    · rw [List.getElem?_append_left (by simp; exact c), if_pos c, List.getElem?_map, List.getElem?_range c]
      rfl
    · rw [List.getElem?_append_right (by simp; omega), if_neg c]
      simp only [List.length_map, List.length_range]
      exact lapL_get r t (by
        have h' : m < n + total r := h
        omega)
theorem laps_strip {ps : Ps} (h0 : 0 < total ps) : ∀ k, ((List.range k).map (lapL ps)).flatten = strip (.taking ps) (k * total ps)
  | 0 => by rw [Nat.zero_mul]; rfl
  | k + 1 => by
    rw [List.range_succ, List.map_append, List.flatten_append, laps_strip h0 k, Nat.succ_mul, strip_add]
    congr 1
    show lapL ps k ++ [] = _
    rw [List.append_nil]
    apply List.ext_getElem?
    intro i
    by_cases c : i < total ps
    · rw [lapL_get ps k c, List.getElem?_map, List.getElem?_range c]
      show _ = some (markT ps ((k * total ps + i) / total ps) ((k * total ps + i) % total ps))
      rw [Nat.add_comm, Nat.add_mul_div_right _ _ h0, Nat.add_mul_mod_self_right, Nat.div_eq_of_lt c, Nat.mod_eq_of_lt c, Nat.zero_add]
    · rw [List.getElem?_eq_none (by rw [lapL_len]; omega), List.getElem?_eq_none (by simp; omega)]
theorem repT_get (l : List Nat) (h : 0 < l.length) : ∀ (k : Nat) {i : Nat}, i < k * l.length → (repT l k)[i]? = some (l.getD (i % l.length) 0)
  | 0, i, hi => by rw [Nat.zero_mul] at hi; exact absurd hi (Nat.not_lt_zero _)
  | k + 1, i, hi => by
    have e : repT l (k + 1) = l ++ repT l k := by
      show (List.replicate (k + 1) l).flatten = _
      rw [List.replicate_succ, List.flatten_cons]
      rfl
    rw [e]
    by_cases c : i < l.length
    · rw [List.getElem?_append_left c, Nat.mod_eq_of_lt c]
      simp [List.getD, c]
    · rw [List.getElem?_append_right (by omega), repT_get l h k (by rw [Nat.succ_mul] at hi; omega), ← Nat.mod_eq_sub_mod (by omega)]
theorem strip_wheel {rim : List Nat} (h : 0 < rim.length) (n : Nat) : (repT rim (n / rim.length + 1)).take n = strip (.wheel rim) n := by
  have hn : n < (n / rim.length + 1) * rim.length := by
    have := Nat.div_add_mod n rim.length
    have := Nat.mod_lt n h
    rw [Nat.add_mul, Nat.one_mul, Nat.mul_comm]
    omega
  refine strip_ext ?_ fun i hi => ?_
  · rw [List.length_take]
    have : (repT rim (n / rim.length + 1)).length = (n / rim.length + 1) * rim.length := by
      show (List.replicate _ rim).flatten.length = _
      simp
    omega
  · rw [List.getElem?_take_of_lt hi, repT_get rim h _ (by omega)]
    rfl
end RST

/-! Presses as tuples, all through. -/
namespace RTU
open PySem PySem.Spec PyProof.Rows L2 Evl RDI TL RC RD RE RG RP RR RU RV RX RLS RST
def DyH (H : Hp) (qs : List Addr) (ds : List (Nat × Nat)) : Prop := qs.length = ds.length ∧ ∀ (i : Nat) (q : Addr), qs[i]? = some q → ∃ (c e : Nat), ds[i]? = some (c, e) ∧ H q = some (.tup [T [c], T [e]])
theorem DyH.ex {H H' : Hp} {qs : List Addr} {ds : List (Nat × Nat)} (e : Ex H H') (h : DyH H qs ds) : DyH H' qs ds := ⟨h.1, fun i q hq => by obtain ⟨c, d, g1, g2⟩ := h.2 i q hq; exact ⟨c, d, g1, e _ _ g2⟩⟩
theorem DyH.p {K : PySem.W.Frag} {H : Hp} {qs : List Addr} {ds : List (Nat × Nat)} (h : DyH H qs ds) : DyP K H qs ds := ⟨h.1, fun i q hq => by obtain ⟨c, d, g1, g2⟩ := h.2 i q hq; exact ⟨c, d, g1, SqT.of g2⟩⟩
mutual
def Tu (H : Hp) : Pr → V → Prop
  | .wheel rim, v => ∃ a, v = .ref a ∧ H a = some (.tup [T (wd 0), T rim])
  | .turned p n, v => ∃ a x, v = .ref a ∧ H a = some (.tup [T (wd 1), x, .int (n : Int)]) ∧ Tu H p x
  | .over a b, v => ∃ c x y, v = .ref c ∧ H c = some (.tup [T (wd 2), x, y]) ∧ Tu H a x ∧ Tu H b y
  | .cut a b, v => ∃ c x y, v = .ref c ∧ H c = some (.tup [T (wd 3), x, y]) ∧ Tu H a x ∧ Tu H b y
  | .held a b, v => ∃ c x y, v = .ref c ∧ H c = some (.tup [T (wd 4), x, y]) ∧ Tu H a x ∧ Tu H b y
  | .taking ps, v => ∃ a t xs, v = .ref a ∧ H a = some (.tup [T (wd 5), .ref t]) ∧ H t = some (.tup xs) ∧ TuT H ps xs
  | .thn a n b, v => ∃ c x y, v = .ref c ∧ H c = some (.tup [T (wd 6), x, .int (n : Int), y]) ∧ Tu H a x ∧ Tu H b y
  | .dyed p ds, v => ∃ (a : Addr) (x : V) (t : Addr) (qs : List Addr), v = .ref a ∧ H a = some (.tup [T (wd 7), x, .ref t]) ∧ PlT H t (qs.map V.ref) ∧ DyH H qs ds ∧ Tu H p x
def TuT (H : Hp) : Ps → List V → Prop
  | .nil, xs => xs = []
  | .cons p n r, xs => ∃ (q : Addr) (x : V) (ys : List V), xs = .ref q :: ys ∧ H q = some (.tup [x, .int (n : Int)]) ∧ Tu H p x ∧ TuT H r ys
end
mutual
theorem Tu.ex {H H' : Hp} (e : Ex H H') : ∀ {p : Pr} {v : V}, Tu H p v → Tu H' p v
  | .wheel _, _, ⟨a, h1, h2⟩ => ⟨a, h1, e _ _ h2⟩
  | .turned _ _, _, ⟨a, x, h1, h2, h3⟩ => ⟨a, x, h1, e _ _ h2, Tu.ex e h3⟩
  | .over _ _, _, ⟨c, x, y, h1, h2, h3, h4⟩ => ⟨c, x, y, h1, e _ _ h2, Tu.ex e h3, Tu.ex e h4⟩
  | .cut _ _, _, ⟨c, x, y, h1, h2, h3, h4⟩ => ⟨c, x, y, h1, e _ _ h2, Tu.ex e h3, Tu.ex e h4⟩
  | .held _ _, _, ⟨c, x, y, h1, h2, h3, h4⟩ => ⟨c, x, y, h1, e _ _ h2, Tu.ex e h3, Tu.ex e h4⟩
  | .taking _, _, ⟨a, t, xs, h1, h2, h3, h4⟩ => ⟨a, t, xs, h1, e _ _ h2, e _ _ h3, TuT.ex e h4⟩
  | .thn _ _ _, _, ⟨c, x, y, h1, h2, h3, h4⟩ => ⟨c, x, y, h1, e _ _ h2, Tu.ex e h3, Tu.ex e h4⟩
  | .dyed _ _, _, ⟨a, x, t, qs, h1, h2, h3, h4, h5⟩ => ⟨a, x, t, qs, h1, e _ _ h2, h3.ex e, h4.ex e, Tu.ex e h5⟩
theorem TuT.ex {H H' : Hp} (e : Ex H H') : ∀ {ps : Ps} {xs : List V}, TuT H ps xs → TuT H' ps xs
  | .nil, _, h => h
  | .cons _ _ _, _, ⟨q, x, ys, h1, h2, h3, h4⟩ => ⟨q, x, ys, h1, e _ _ h2, Tu.ex e h3, TuT.ex e h4⟩
end
theorem sqt {H : Hp} {a : Addr} {xs : List V} (h : H a = some (.tup xs)) : Sq H (.ref a) xs := ⟨a, rfl, .inr (.inl h)⟩
theorem Tu.head {H : Hp} {p : Pr} {v : V} (h : Tu H p v) : ∃ a xs, v = .ref a ∧ H a = some (.tup (T (wd (idx p)) :: xs)) := by
  cases p with
  | wheel _ => obtain ⟨a, h1, h2⟩ := h; exact ⟨a, _, h1, h2⟩
  | turned _ _ => obtain ⟨a, x, h1, h2, _⟩ := h; exact ⟨a, _, h1, h2⟩
  | over _ _ => obtain ⟨a, x, y, h1, h2, _⟩ := h; exact ⟨a, _, h1, h2⟩
  | cut _ _ => obtain ⟨a, x, y, h1, h2, _⟩ := h; exact ⟨a, _, h1, h2⟩
  | held _ _ => obtain ⟨a, x, y, h1, h2, _⟩ := h; exact ⟨a, _, h1, h2⟩
  | taking _ => obtain ⟨a, t, xs, h1, h2, _⟩ := h; exact ⟨a, _, h1, h2⟩
  | thn _ _ _ => obtain ⟨a, x, y, h1, h2, _⟩ := h; exact ⟨a, _, h1, h2⟩
  | dyed _ _ => obtain ⟨a, x, t, qs, h1, h2, _⟩ := h; exact ⟨a, _, h1, h2⟩
mutual
theorem Tu.hand {H : Hp} : ∀ {p : Pr} {v : V}, Tu H p v → ∃ ws, Sq H v (T (wd (idx p)) :: ws) ∧ HandR H p ws
  | .wheel _, _, ⟨a, h1, h2⟩ => ⟨_, h1 ▸ sqt h2, rfl⟩
  | .turned _ _, _, ⟨a, x, h1, h2, h3⟩ => (Tu.hand h3).elim fun ws g => ⟨_, h1 ▸ sqt h2, x, ws, rfl, g.1, g.2⟩
  | .over _ _, _, ⟨c, x, y, h1, h2, h3, h4⟩ => (Tu.hand h3).elim fun ws g => (Tu.hand h4).elim fun zs k => ⟨_, h1 ▸ sqt h2, x, y, ws, zs, rfl, g.1, k.1, g.2, k.2⟩
  | .cut _ _, _, ⟨c, x, y, h1, h2, h3, h4⟩ => (Tu.hand h3).elim fun ws g => (Tu.hand h4).elim fun zs k => ⟨_, h1 ▸ sqt h2, x, y, ws, zs, rfl, g.1, k.1, g.2, k.2⟩
  | .held _ _, _, ⟨c, x, y, h1, h2, h3, h4⟩ => (Tu.hand h3).elim fun ws g => (Tu.hand h4).elim fun zs k => ⟨_, h1 ▸ sqt h2, x, y, ws, zs, rfl, g.1, k.1, g.2, k.2⟩
  | .taking _, _, ⟨a, t, xs, h1, h2, h3, h4⟩ => ⟨_, h1 ▸ sqt h2, .ref t, xs, rfl, sqt h3, TuT.hand h4⟩
  | .thn _ _ _, _, ⟨c, x, y, h1, h2, h3, h4⟩ => (Tu.hand h3).elim fun ws g => (Tu.hand h4).elim fun zs k => ⟨_, h1 ▸ sqt h2, x, y, ws, zs, rfl, g.1, k.1, g.2, k.2⟩
  | .dyed _ _, _, ⟨a, x, t, qs, h1, h2, ⟨o, _, h3⟩, h4, h5⟩ => (Tu.hand h5).elim fun ws g => ⟨_, h1 ▸ sqt h2, x, .ref t, ws, qs.map V.ref, rfl, g.1, ⟨t, rfl, .inr (.inr ⟨o, h3⟩)⟩, by rw [List.length_map]; exact h4.1, fun i q hq => by
      rw [List.getElem?_map] at hq
      obtain ⟨q0, hq0, rfl⟩ := Option.map_eq_some_iff.mp hq
      obtain ⟨c, d, g1, g2⟩ := h4.2 i q0 hq0
      exact ⟨c, d, g1, sqt g2⟩, g.2⟩
theorem TuT.hand {H : Hp} : ∀ {ps : Ps} {xs : List V}, TuT H ps xs → HandT H ps xs
  | .nil, _, h => h
  | .cons _ _ _, _, ⟨q, x, ys, h1, h2, h3, h4⟩ => (Tu.hand h3).elim fun ws g => ⟨.ref q, x, ws, ys, h1, sqt h2, g.1, g.2, TuT.hand h4⟩
end
theorem TuT.len {H : Hp} : ∀ {ps : Ps} {xs : List V}, TuT H ps xs → (manies ps).length = xs.length
  | .nil, _, h => by rw [show _ = [] from h]; rfl
  | .cons _ _ _, _, ⟨q, x, ys, h1, h2, h3, h4⟩ => by
    subst h1
    show (manies _).length + 1 = ys.length + 1
    rw [TuT.len h4]
mutual
theorem Tu.kept {K : PySem.W.Frag} {H : Hp} : ∀ {p : Pr} {v : V}, Tu H p v → Kept K H p v
  | .wheel _, _, ⟨a, h1, h2⟩ => ⟨a, h1, SqT.of h2⟩
  | .turned _ _, _, ⟨a, x, h1, h2, h3⟩ => ⟨a, x, h1, SqT.of h2, Tu.kept h3⟩
  | .over _ _, _, ⟨c, x, y, h1, h2, h3, h4⟩ => ⟨c, x, y, h1, SqT.of h2, Tu.kept h3, Tu.kept h4⟩
  | .cut _ _, _, ⟨c, x, y, h1, h2, h3, h4⟩ => ⟨c, x, y, h1, SqT.of h2, Tu.kept h3, Tu.kept h4⟩
  | .held _ _, _, ⟨c, x, y, h1, h2, h3, h4⟩ => ⟨c, x, y, h1, SqT.of h2, Tu.kept h3, Tu.kept h4⟩
  | .taking _, _, ⟨a, t, xs, h1, h2, h3, h4⟩ => ⟨a, t, xs, h1, SqT.of h2, SqT.of h3, TuT.kept h4⟩
  | .thn _ _ _, _, ⟨c, x, y, h1, h2, h3, h4⟩ => ⟨c, x, y, h1, SqT.of h2, Tu.kept h3, Tu.kept h4⟩
  | .dyed _ _, _, ⟨a, x, t, qs, h1, h2, h3, h4, h5⟩ => ⟨a, x, t, qs, h1, SqT.of h2, h3, h4.p, Tu.kept h5⟩
theorem TuT.kept {K : PySem.W.Frag} {H : Hp} : ∀ {ps : Ps} {xs : List V}, TuT H ps xs → KeptT K H ps xs
  | .nil, _, h => h
  | .cons _ _ _, _, ⟨q, x, ys, h1, h2, h3, h4⟩ => ⟨q, x, ys, h1, SqT.of h2, Tu.kept h3, TuT.kept h4⟩
end
/-- the parts by places -/
def pieces : Ps → Nat → List (List Nat)
  | .nil, _ => []
  | .cons p n r, t => ((List.range n).map fun j => mark p (t * n + j)) :: pieces r t
theorem pieces_flat : ∀ (ps : Ps) (t : Nat), (pieces ps t).flatten = lapL ps t
  | .nil, _ => rfl
  | .cons p n r, t => by
    show _ ++ (pieces r t).flatten = _ ++ lapL r t
    rw [pieces_flat r t]
theorem pieces_len : ∀ (ps : Ps) (t : Nat), (pieces ps t).length = (manies ps).length
  | .nil, _ => rfl
  | .cons p n r, t => congrArg Nat.succ (pieces_len r t)
def nth : Ps → Nat → Option (Pr × Nat)
  | .nil, _ => none
  | .cons p n _, 0 => some (p, n)
  | .cons _ _ r, i + 1 => nth r i
theorem TuT.at {H : Hp} : ∀ {ps : Ps} {xs : List V} {i : Nat} {x : V}, TuT H ps xs → xs[i]? = some x → ∃ q v p n, x = .ref q ∧ H q = some (.tup [v, .int ((n : Nat) : Int)]) ∧ Tu H p v ∧ nth ps i = some (p, n)
  | .nil, xs, i, x, h, hx => by
    rw [show xs = [] from h] at hx
    cases hx
  | .cons p n r, _, 0, x, ⟨q, v, ys, h1, h2, h3, h4⟩, hx => by
    subst h1
    cases hx
    exact ⟨q, v, p, n, rfl, h2, h3, rfl⟩
  | .cons p n r, _, i + 1, x, ⟨q, v, ys, h1, h2, h3, h4⟩, hx => by
    subst h1
    exact TuT.at (ps := r) h4 hx
theorem pieces_at : ∀ {ps : Ps} {i t n : Nat} {p : Pr}, nth ps i = some (p, n) → (pieces ps t)[i]? = some ((List.range n).map fun j => mark p (t * n + j))
  | .cons p n r, 0, t, _, _, h => by cases h; rfl
  | .cons p n r, i + 1, t, _, _, h => pieces_at (ps := r) h
/-- the strips of parts -/
def strips : Ps → Nat → List (List Nat)
  | .nil, _ => []
  | .cons p n r, l => strip p (l * n) :: strips r l
theorem strips_len : ∀ (ps : Ps) (t : Nat), (strips ps t).length = (manies ps).length
  | .nil, _ => rfl
  | .cons p n r, t => congrArg Nat.succ (strips_len r t)
theorem strips_at : ∀ {ps : Ps} {i t n : Nat} {p : Pr}, nth ps i = some (p, n) → (strips ps t)[i]? = some (strip p (t * n))
  | .cons p n r, 0, t, _, _, h => by cases h; rfl
  | .cons p n r, i + 1, t, _, _, h => strips_at (ps := r) h
theorem nth_total : ∀ {ps : Ps} {i n : Nat} {p : Pr}, nth ps i = some (p, n) → n ≤ total ps
  | .cons p n r, 0, _, _, h => by cases h; exact Nat.le_add_right _ _
  | .cons p n r, i + 1, _, _, h => Nat.le_trans (nth_total (ps := r) h) (Nat.le_add_left _ _)
theorem nth_dep : ∀ {ps : Ps} {i n : Nat} {p : Pr}, nth ps i = some (p, n) → dep p ≤ depT ps
  | .cons p n r, 0, _, _, h => by cases h; exact Nat.le_max_left _ _
  | .cons p n r, i + 1, _, _, h => Nat.le_trans (nth_dep (ps := r) h) (Nat.le_max_right _ _)
theorem manies_ints : ∀ ps : Ps, ∃ ns : List Int, manies ps = ns.map V.int ∧ ns.sum = (total ps : Int)
  | .nil => ⟨[], rfl, rfl⟩
  | .cons p n r => by
    obtain ⟨ns, h1, h2⟩ := manies_ints r
    refine ⟨(n : Int) :: ns, by rw [List.map_cons, ← h1]; rfl, ?_⟩
    rw [List.sum_cons, h2]
    show (n : Int) + (total r : Int) = ((n + total r : Nat) : Int)
    rw [Int.natCast_add]
theorem cutS_mid (l : List Nat) {a b : Nat} (h1 : a ≤ b) (h2 : b ≤ l.length) : cutS (S l) (some (a : Int)) (some (b : Int)) = S ((l.drop a).take (b - a)) := by
  rw [cutS_eq, HT.sIx_nat, HT.sIx_nat, Nat.min_eq_left (by omega), Nat.min_eq_left (by omega)]
theorem cutS_drop (l : List Nat) {a : Nat} (h2 : a ≤ l.length) : cutS (S l) (some (a : Int)) none = S (l.drop a) := by
  rw [cutS_eq, HT.sIx_nat, Nat.min_eq_left (by omega)]
  show S (List.take (l.length - a) (l.drop a)) = _
  rw [List.take_of_length_le (by rw [List.length_drop]; omega)]
section
variable {K : PySem.W.Frag} {σ : L2.St} {H : Hp} {ta tb te tel : TE}
/-- [.. for one, other in pairs], pairs in a tuple -/
theorem el_lcPair {t : Addr} {xs ys : List V} {j k : Nat} {vs : List Nat} (h : Ev te σ H (.ref t)) (ht : SqT K H t xs) (hl : xs.length = ys.length) (hz : xs.length ≤ 1000)
    (hp : ∀ (i : Nat) x y, xs[i]? = some x → ys[i]? = some y → ∃ q a n, x = .ref q ∧ SqT K H q [a, n] ∧ ∀ H1, Ex H H1 → Ev tel (((wipe σ vs).set j (some a)).set k (some n)) H1 y)
    (hw : ∀ x y, wipe (((wipe σ vs).set j (some x)).set k (some y)) vs = wipe σ vs) :
    EvL (tLc (iTup K te) (gTup K 2 (gCons (gName j) (gCons (gName k) gNil))) tYes tel vs) σ H ys := fun H1 e Q q =>
  h H1 e _ fun H2 e2 => ⟨t, rfl, ⟨xs, ex_t (e.trans e2) ht⟩, fun Dl hD => by
    refine lc_it (walk_tup (a := t) (xs := xs)) (fun i H' => Ex H2 H' ∧ H' Dl = some (.lst (ys.take i))) ⟨Ex.new hD, upd_same⟩ (fun i H' _ hp => ex_t ((e.trans e2).trans hp.1) ht) (fun i x H' H'' hi hpv y => ?_) (fun H' hp => ?_)
    · obtain ⟨e3, hDl⟩ := hpv
      obtain ⟨rfl, hx⟩ := y
      have hiz : i < ys.length := by omega
      obtain ⟨q0, a, n, rfl, hq0, hel⟩ := hp i x ys[i] hx (List.getElem?_eq_getElem hiz)
      refine ⟨q0, _, rfl, ex_t ((e.trans e2).trans e3) hq0, rfl, _, _, rfl, _, _, rfl, rfl, hw _ _, ?_⟩
      simp only [tYes, ↓reduceIte]
      refine hel H'' ((e.trans e2).trans e3) H'' (Ex.refl _) _ fun H5 e5 => ⟨ys.take i, e5 _ _ hDl, by rw [List.length_take, big]; omega, (e3.trans e5).mut hD, ?_⟩
      rw [List.take_succ_eq_append_getElem hiz]
      exact upd_same
    · obtain ⟨e3, hDl⟩ := hp
      rw [hl, List.take_length] at hDl
      exact q Dl H' (fresh_back e2 hD) (e2.trans e3) hDl⟩
/-- dict(pairs).get(x, x) -/
theorem ev_dyeD {tk tx : TE} {t : Addr} {qs : List Addr} {ds : List (Nat × Nat)} {c : Nat} (hd : Ev ta σ H (.ref t)) (ht : PlT H t (qs.map V.ref)) (hq : DyH H qs ds) (hn : (ds.map Prod.fst).Nodup) (hk : Ev tk σ H (T [c])) (hx : Ev tx σ H (T [c])) :
    Ev (tDGet2 (tCB (rDictT K) (tCons ta tNil)) tk tx) σ H (T [dye ds c]) := fun H1 e Q q =>
  hd H1 e _ fun H2 e2 => ⟨t, qs, dyesK ds, rfl, ht.ex (e.trans e2), paired_dy ((hq.ex (e.trans e2)).p), fun p hp => by
    rw [merge_new (dyesK ds) [] (dyesK_nd hn), List.nil_append]
    have e3 : Ex H2 (upd H2 p (.dK (dyesK ds))) := Ex.new hp
    exact ev_dye (ta := tC (.ref p)) (tk := tk) (tx := tx) (H := upd H2 p (.dK (dyesK ds))) ev_c upd_same (hk.mono ((e.trans e2).trans e3)) (hx.mono ((e.trans e2).trans e3)) _ (Ex.refl _) Q fun H4 e4 => q H4 ((e2.trans e3).trans e4)⟩
/-- list(text)[::-1] -/
theorem el_revT {l : List Nat} {ts : TE} (h : Ev te σ H (T l)) (hz : l.length ≤ 100000) (hs : ∀ H1, Ev ts σ H1 (.int (-1))) : EvL (tRev K (tCB rListT (tCons te tNil)) tNoPart tNoPart ts) σ H (l.map fun c => T [c]).reverse := fun H1 e Q q =>
  h H1 e _ fun H2 e2 => ⟨S l, rfl, by simp [S]; omega, fun p hp => hs _ _ (Ex.refl _) _ fun H3 e3 => ⟨rfl, rfl, p, _, rfl, rfl, SqL.of (e3 _ _ upd_same), fun m hm => by
    rw [signsV_S]
    have e4 := (e2.trans (Ex.new hp)).trans e3
    exact q m _ (fresh_back e4 hm) (e4.trans (Ex.new hm)) upd_same⟩⟩
/-- "." where the cam has none, else the next one that waits -/
theorem lc_pop {D : Ends} {cam : List Nat} {a : List Nat} {w : Addr} {x0 z0 z1 : Str} {vs : List Nat} {i5 i4 j : Nat} (hx0 : x0 = S []) (hz0 : z0 = S [46]) (hz1 : z1 = S [46]) (hw0 : H w = some (.lst ((a.map fun c => T [c]).reverse))) (s4 : σ[i4]? = some (some (T cam)))
    (s5 : ∀ c, ((wipe σ vs).set j (some (T [c])))[i5]? = some (some (.ref w))) (s7 : ∀ c, ((wipe σ vs).set j (some (T [c])))[j]? = some (some (T [c]))) (hw : ∀ x, wipe ((wipe σ vs).set j (some x)) vs = wipe σ vs) (hl : cam.length ≤ 100000)
    (hc : cam.length - cam.count 46 ≤ a.length) (k : ∀ H', (∀ x o, x ≠ w → H x = some o → H' x = some o) → D.rt (T ((List.range cam.length).map fun i => if cam.getD i 0 = 46 then 46 else a.getD (i - (cam.take i).count 46) 0)) H') :
    tRet (tM1 (rJoin K) (tC (.str x0)) (tLc (iStr (tVar i4)) (gName j) tYes (tIf (tTest (tOp rEq (tVar j) (tC (.str z0)))) (tC (.str z1)) (tBM0 K "list" rPop (tVar i5))) vs)) D σ H := by
  subst hx0 hz0 hz1
  refine ⟨⟨_, rfl⟩, _, s4, S cam, rfl, fun Dl hD => ?_⟩
  have hDw : Dl ≠ w := fun z => by
    rw [z, hw0] at hD
    cases hD
  have hsz : (S cam).cps.size = cam.length := by simp [S]
  let out : Nat → List Nat := fun i => if cam.getD i 0 = 46 then [46] else [a.getD (i - (cam.take i).count 46) 0]
  refine lc_it (walk_str (z := S cam)) (fun i H' => H' w = some (.lst (((a.drop (i - (cam.take i).count 46)).map fun c => T [c]).reverse)) ∧ H' Dl = some (.lst ((List.range i).map fun i => T (out i))) ∧ ∀ x o, x ≠ w → x ≠ Dl → H x = some o → H' x = some o)
    ⟨by rw [upd_ne (Ne.symm hDw)]; exact hw0, upd_same, fun x o h1 h2 h => by rw [upd_ne h2]; exact h⟩ (fun _ _ _ _ => trivial) (fun i x H' H'' hi hp y => ?_) (fun H' hp => ?_)
  · obtain ⟨rfl, c, hcc, rfl⟩ := y
    obtain ⟨p1, p2, p3⟩ := hp
    have hic : cam[i]? = some c := by simpa [S] using hcc
    have hig : cam.getD i 0 = c := by simp [List.getD, hic]
    have hi2 : i < cam.length := by omega
    have htk : cam.take (i + 1) = cam.take i ++ [c] := by rw [List.take_add_one, hic]; rfl
    have hci : (cam.take i).count 46 ≤ i := Nat.le_trans List.count_le_length (by rw [List.length_take]; omega)
    refine ⟨hw _, ?_⟩
    simp only [tYes, ↓reduceIte]
    refine ⟨_, s7 c, rfl, decide (T [c] = T [46]), rfl, ?_⟩
    have hdec : decide (T [c] = T [46]) = decide (c = 46) := by
      by_cases z : c = 46
      · subst z
        simp
      · rw [decide_eq_false z, decide_eq_false fun q => z (by
          have q2 : V.str (S [c]) = V.str (S [46]) := q
          injection q2 with q3
          have := S_inj.mp q3
          simpa using this)]
    rw [hdec]
    by_cases z : c = 46
    · rw [decide_eq_true z]
      simp only [↓reduceIte]
      refine ⟨_, p2, by rw [List.length_map, List.length_range, big]; omega, ?_, ?_, fun x o h1 h2 h => ?_⟩
      · rw [upd_ne (Ne.symm hDw), p1, htk, List.count_append, z]
        have : i + 1 - ((cam.take i).count 46 + ([46] : List Nat).count 46) = i - (cam.take i).count 46 := by
          have h1 : ([46] : List Nat).count 46 = 1 := rfl
          omega
        rw [this]
      · rw [upd_same, List.range_succ, List.map_append]
        have : T (out i) = T [46] := by
          show T (if cam.getD i 0 = 46 then [46] else _) = _
          rw [hig, if_pos z]
        rw [List.map_cons, this]
        rfl
      · rw [upd_ne h2]
        exact p3 x o h1 h2 h
    · rw [decide_eq_false z]
      have hn : i - (cam.take i).count 46 < a.length := by
        have h1 : (cam.take (i + 1)).count 46 + (cam.drop (i + 1)).count 46 = cam.count 46 := by rw [← List.count_append, List.take_append_drop]
        have h2 : (cam.drop (i + 1)).count 46 ≤ cam.length - (i + 1) := Nat.le_trans List.count_le_length (by rw [List.length_drop]; omega)
        have h3 : (cam.take (i + 1)).count 46 = (cam.take i).count 46 := by
          rw [htk, List.count_append, List.count_cons_of_ne z]
          rfl
        omega
      generalize hm : i - (cam.take i).count 46 = m at *
      have hdr : a.drop m = a[m] :: a.drop (m + 1) := List.drop_eq_getElem_cons hn
      have hlst : ((a.drop m).map fun c => T [c]).reverse = ((a.drop (m + 1)).map fun c => T [c]).reverse ++ [T [a[m]]] := by
        rw [hdr, List.map_cons, List.reverse_cons]
      rw [hlst] at p1
      refine ⟨_, s5 c, Or.inl ⟨rfl, _, sq_of p1⟩, w, _, T [a[m]], rfl, rfl, p1, by simp, ?_⟩
      rw [List.dropLast_concat]
      refine ⟨_, by rw [upd_ne hDw]; exact p2, by rw [List.length_map, List.length_range, big]; omega, ?_, ?_, fun x o h1 h2 h => ?_⟩
      · rw [upd_ne (Ne.symm hDw), upd_same, htk, List.count_append, List.count_cons_of_ne z]
        have : i + 1 - ((cam.take i).count 46 + ([] : List Nat).count 46) = m + 1 := by
          have h1 : ([] : List Nat).count 46 = 0 := rfl
          omega
        rw [this]
      · rw [upd_same, List.range_succ, List.map_append]
        have : T (out i) = T [a[m]] := by
          show T (if cam.getD i 0 = 46 then [46] else [a.getD (i - (cam.take i).count 46) 0]) = _
          rw [hig, if_neg z, hm]
          simp [List.getD, hn]
        rw [List.map_cons, this]
        rfl
      · rw [upd_ne h2, upd_ne h1]
        exact p3 x o h1 h2 h
  · obtain ⟨p1, p2, p3⟩ := hp
    rw [hsz] at p2
    refine ⟨S [], Dl, ((List.range cam.length).map out).map S, rfl, rfl, .inl (SqL.of (by rw [p2, List.map_map, List.map_map]; rfl)), ?_, ?_⟩
    · rw [sum_lens, S_len, List.length_nil, Nat.mul_zero]
      have : ((List.range cam.length).map out).flatten.length = cam.length := by
        rw [flat_one (fun y hy => ?_)]
        · simp
        · obtain ⟨i, _, rfl⟩ := List.mem_map.mp hy
          show (if cam.getD i 0 = 46 then [46] else _ : List Nat).length = 1
          split <;> rfl
      omega
    · rw [RE.join_nil]
      have hf : ((List.range cam.length).map out).flatten = (List.range cam.length).map fun i => if cam.getD i 0 = 46 then 46 else a.getD (i - (cam.take i).count 46) 0 := by
        have key : ∀ l : List Nat, (l.map out).flatten = l.map fun i => if cam.getD i 0 = 46 then 46 else a.getD (i - (cam.take i).count 46) 0 := by
          intro l
          induction l with
          | nil => rfl
          | cons x r ih =>
            rw [List.map_cons, List.flatten_cons, ih, List.map_cons]
            show (if cam.getD x 0 = 46 then [46] else [a.getD (x - (cam.take x).count 46) 0]) ++ _ = _
            split <;> rfl
        exact key _
      rw [hf]
      exact k H' fun x o h1 h => p3 x o h1 (ne_of_none h hD) h
end
end RTU

/-! The spring: the great cells' figures, a number stirred, how many draws. -/
namespace RSP
open PySem PySem.Spec PyProof.Rows L2 Evl TL RC RD RE RG RU RM RK RV RTU
def Spring (b : Addr) (H : Hp) : Prop := ∃ (f s c : Int), H b = some (.lst [.int f, .int s, .int c]) ∧ 0 ≤ f ∧ 0 ≤ s ∧ s < 2305843009213693951 ∧ 0 ≤ c
theorem springDrw (b : Addr) : Drw (Spring b) b where
  lst := fun ⟨f, s, c, h1, _⟩ => ⟨_, h1, fun p hp => by simp at hp⟩
  same := fun ⟨f, s, c, h1, h2⟩ h => ⟨f, s, c, h _ _ (.inl rfl) h1, h2⟩
theorem spring_put {b : Addr} {H H1 : Hp} {f s c f' s' c' : Int} (hb : H b = some (.lst [.int f, .int s, .int c])) (e : Ex H H1) (z1 : 0 ≤ f') (z2 : 0 ≤ s') (z3 : s' < 2305843009213693951) (z4 : 0 ≤ c') :
    Spring b (upd H1 b (.lst [.int f', .int s', .int c'])) ∧ Ex (Hd b H) (Hd b (upd H1 b (.lst [.int f', .int s', .int c']))) ∧ ∀ a, H a ≠ none → (upd H1 b (.lst [.int f', .int s', .int c'])) a ≠ none := by
  refine ⟨⟨f', s', c', upd_same, z1, z2, z3, z4⟩, fun a o ha => ?_, fun a ha => ?_⟩
  · have hn := Hd_some ha
    rw [Hd_no hn] at ha
    have ab : a ≠ b := fun z => hn (.inl z)
    have hn2 : ¬ owns b (upd H1 b (.lst [.int f', .int s', .int c'])) a := fun ho => by
      rcases ho with z | ⟨xs, hx, hax⟩
      · exact ab z
      · rw [upd_same] at hx
        cases hx
        simp at hax
    rw [Hd_no hn2, upd_ne ab]
    exact e _ _ ha
  · by_cases c : a = b
    · rw [c, upd_same]
      exact fun z => by cases z
    · rw [upd_ne c]
      exact ex_dom e a ha
def sp_draw_spring : Sp := fun vs H Q _ => ∃ (b : Addr) (k : Int) (G : Hp), vs = [.ref b, .int k] ∧ ((Spring b H ∧ Ex G (Hd b H)) ∧ 0 < k ∧ k < 2 ^ 110) ∧ RetD (Spring b) b G (fun v _ => ∃ d, v = .int d ∧ 0 ≤ d ∧ d < k) H Q
def sp_make_spring (K : PySem.W.Frag) : Sp := fun vs H Q _ => ∃ (a : Addr) (ns : List Int), vs = [.ref a] ∧ (SqL K H a (ns.map V.int) ∧ ns.length ≤ 63) ∧ ∀ b H', Spring b H' → Ex H H' → Ex H (Hd b H') → Q (.ref b) H'
section
variable {K : PySem.W.Frag} {R : Hp → Prop} {b : Addr} {σ : L2.St} {H0 G0 G : Hp} {te ta tb : TE} {t : TT} {P P1 : V → Hp → Prop}
theorem ev_abs {i : Int} {H : Hp} (ha : Ev ta σ H (.int i)) : Ev (tCB (fun xs H Q => ∃ i, xs = [.int i] ∧ Q (.int (if i < 0 then -i else i)) H) (tCons ta tNil)) σ H (.int (if i < 0 then -i else i)) := ev_cb (ea_cons ha ea_nil) fun H1 e Q q => ⟨i, rfl, q H1 (Ex.refl _)⟩
/-- one or the other, by a test that may draw -/
theorem ed_if (h : EvD R b tb σ G (fun v _ => ∃ c : Bool, v = .bl c)) (h1 : ∀ G1, Ex G G1 → EvD R b te σ G1 P) (h2 : ∀ G1, Ex G G1 → EvD R b ta σ G1 P) : EvD R b (tIf (tTest tb) te ta) σ G P := fun H hR e Q q =>
  h H hR e _ fun v H1 G1 r1 x1 ⟨c, hc⟩ => ⟨c, hc, by
    cases c with
    | true => exact h1 G1 x1.kn H1 r1 x1.sub _ fun v H2 G2 r2 x2 p2 => q v H2 G2 r2 (x1.trans x2) p2
    | false => exact h2 G1 x1.kn H1 r1 x1.sub _ fun v H2 G2 r2 x2 p2 => q v H2 G2 r2 (x1.trans x2) p2⟩
/-- a = b of ints, of which one may be drawn -/
theorem ed_eqI {A B : Int → Prop} (ha : EvD R b ta σ G (fun v _ => ∃ i, v = .int i ∧ A i)) (hb : ∀ G1, Ex G G1 → EvD R b tb σ G1 (fun v _ => ∃ j, v = .int j ∧ B j)) : EvD R b (tOp rEq ta tb) σ G (fun v _ => ∃ i j, v = .bl (decide (i = j)) ∧ A i ∧ B j) :=
  ed_op ha (fun _ _ _ _ h => h) hb fun x y H G1 hR e e1 ⟨i, ei, ai⟩ ⟨j, ej, bj⟩ Q q => by
    subst ei ej
    exact ⟨rfl, q _ H G1 hR (Stp.refl e1) ⟨i, j, by
      have : (decide (V.int i = V.int j)) = decide (i = j) := by
        by_cases c : i = j
        · subst c; simp
        · rw [decide_eq_false c, decide_eq_false fun z => c (by injection z)]
      rw [← this], ai, bj⟩⟩
/-- told of the value by a case -/
theorem sd_retIf {P : V → Hp → Prop} {D : Ends} {te : TE} (h : EvD R b te σ G P) (k : ∀ v H G1, R H → Stp b H0 H G0 G1 → Ex G G1 → P v G1 → D.rt v H) : StD R b H0 G0 (tRet te) D σ G := s_retD h k
/-- a list by draws, over a text, of those that a test lets by -/
theorem ed_lcStrF (Dw : Drw R b) {l : List Nat} {x0 : Str} {tel : TE} {vs : List Nat} {j : Nat} (Gd : Nat → V → Hp → Prop) (m : ∀ c v G1 G2, Ex G1 G2 → Gd c v G1 → Gd c v G2) (hx : x0 = S l) (hz : l.length ≤ 1000) (hw : ∀ x, wipe ((wipe σ vs).set j (some x)) vs = wipe σ vs)
    (ht : ∀ c G1, c ∈ l → Ex G G1 → EvD R b tb ((wipe σ vs).set j (some (T [c]))) G1 (fun v _ => ∃ k : Bool, v = .bl k)) (hel : ∀ c G1, c ∈ l → Ex G G1 → EvD R b tel ((wipe σ vs).set j (some (T [c]))) G1 (Gd c)) :
    EvD R b (tLc (iStr (tC (.str x0))) (gName j) (tTest tb) tel vs) σ G (fun v G' => ∃ p ys cs, v = .ref p ∧ G' p = some (.lst ys) ∧ List.Sublist cs l ∧ ys.length = cs.length ∧ ∀ (i : Nat) c y, cs[i]? = some c → ys[i]? = some y → Gd c y G') := fun H hR e Q q => by
  subst hx
  refine ⟨S l, rfl, fun Dl hD => ?_⟩
  refine lc_it (walk_str (z := S l)) (fun i H' => ∃ ys cs G', List.Sublist cs (l.take i) ∧ ys.length = cs.length ∧ (∀ (k : Nat) c y, cs[k]? = some c → ys[k]? = some y → Gd c y G') ∧ R H' ∧ Stp b H H' G G' ∧ G' Dl = none ∧ Hd b H' Dl = some (.lst ys))
    ⟨[], [], G, List.nil_sublist _, rfl, fun k c y hk => (by cases hk), lc_begin Dw hR e hD⟩ (fun _ _ _ _ => trivial) (fun i x H2 H3 hi pv y => ?_) (fun H' hp => ?_)
  · obtain ⟨ys, cs, G', p1, p2, p3, p4, p5, p6, p7⟩ := pv
    obtain ⟨rfl, c, hc, rfl⟩ := y
    have hil : l[i]? = some c := by simpa [S] using hc
    have hm : c ∈ l := List.mem_of_getElem? hil
    have htk : l.take (i + 1) = l.take i ++ [c] := by rw [List.take_add_one, hil]; rfl
    have hlen : cs.length ≤ 1000 := by
      have h1 := p1.length_le
      rw [List.length_take] at h1
      omega
    refine ⟨hw _, ht c G' hm p5.kn H3 p4 p5.sub _ fun v H4 G4 r4 x4 hv => ?_⟩
    obtain ⟨k, rfl⟩ := hv
    have hD4 : G4 Dl = none := by
      rw [x4.new Dl fun z => ?_]
      · exact p6
      · have := Hd_sub b H3 _ _ p7
        rw [z] at this
        cases this
    have hl4 := x4.old _ _ p7
    refine ⟨k, rfl, ?_⟩
    cases k with
    | true =>
      show tel _ H4 _
      refine lc_step (Pn := fun H' => ∃ ys cs G', List.Sublist cs (l.take (i + 1)) ∧ ys.length = cs.length ∧ (∀ (k : Nat) c y, cs[k]? = some c → ys[k]? = some y → Gd c y G') ∧ R H' ∧ Stp b H H' G G' ∧ G' Dl = none ∧ Hd b H' Dl = some (.lst ys))
        Dw (by omega) hD r4 (p5.trans x4) hD4 hl4 (hel c G4 hm (p5.kn.trans x4.kn)) fun v H5 G5 r5 s5 e5 d5 l5 g5 => ⟨ys ++ [v], cs ++ [c], G5, by rw [htk]; exact p1.append (List.Sublist.refl _), by rw [List.length_append, List.length_append, p2]; rfl, fun k c' y' hk hy => ?_, r5, s5, d5, l5⟩
      rcases Nat.lt_or_ge k cs.length with z | z
      · rw [List.getElem?_append_left z] at hk
        rw [List.getElem?_append_left (by omega)] at hy
        exact m _ _ _ _ e5 (m _ _ _ _ x4.kn (p3 k c' y' hk hy))
      · rw [List.getElem?_append_right z] at hk
        rw [List.getElem?_append_right (by omega)] at hy
        have hk0 : k - cs.length = 0 := by
          cases c2 : k - cs.length with
          | zero => rfl
          | succ n => rw [c2] at hk; cases hk
        rw [hk0] at hk
        rw [p2, hk0] at hy
        cases hk
        cases hy
        exact g5
    | false =>
      exact ⟨ys, cs, G4, by rw [htk]; exact p1.trans (List.sublist_append_left _ _), p2, fun k c' y' hk hy => m _ _ _ _ x4.kn (p3 k c' y' hk hy), r4, p5.trans x4, hD4, hl4⟩
  · obtain ⟨ys, cs, G', p1, p2, p3, p4, p5, p6, p7⟩ := hp
    have hsz : (S l).cps.size = l.length := by simp [S]
    rw [hsz, List.take_length] at p1
    exact q _ H' _ p4 (lc_end Dw hD p5 p6 p7) ⟨Dl, ys, cs, rfl, upd_same, p1, p2, fun k c y hk hy => m _ _ _ _ (Ex.new p6) (p3 k c y hk hy)⟩
/-- tuple(list) by draws: a plain tuple -/
theorem ed_tupF (Dw : Drw R b) {P2 : List V → Hp → Prop} (m : ∀ vs G1 G2, Ex G1 G2 → P2 vs G1 → P2 vs G2) (h : EvD R b te σ G (fun v G' => ∃ p xs, v = .ref p ∧ G' p = some (.lst xs) ∧ P2 xs G')) : EvD R b (tThen te (RDI.kTupF K)) σ G (fun v G' => ∃ p xs, v = .ref p ∧ RDI.PlT G' p xs ∧ P2 xs G') := fun H hR e Q q =>
  h H hR e _ fun v H1 G1 r1 x1 ⟨p, xs, h1, h2, h3⟩ => ⟨p, xs, h1, SqL.of (Hd_sub b H1 _ _ (x1.sub _ _ h2)), fun t o ht ho => by
    obtain ⟨r2, x2⟩ := Dw.stpNew (o := .frz o (.tup xs)) r1 x1.sub ht
    exact q _ _ _ r2 (x1.trans x2) ⟨t, xs, rfl, ⟨o, ho, upd_same⟩, m xs _ _ x2.kn h3⟩⟩
theorem dy_of {G : Hp} {A : Nat → Prop} : ∀ {ys : List V} {cs : List Nat}, ys.length = cs.length → (∀ (i : Nat) c y, cs[i]? = some c → ys[i]? = some y → ∃ q e, y = .ref q ∧ G q = some (.tup [T [c], T [e]]) ∧ A e) →
    ∃ (qs : List Addr) (ds : List (Nat × Nat)), ys = qs.map V.ref ∧ ds.map Prod.fst = cs ∧ DyH G qs ds ∧ ∀ d ∈ ds, A d.2
  | [], [], _, _ => ⟨[], [], rfl, rfl, ⟨rfl, fun i q hq => by cases hq⟩, fun d hd => by cases hd⟩
  | [], c :: cs, h, _ => by cases h
  | y :: ys, [], h, _ => by cases h
  | y :: ys, c :: cs, h, hf => by
    obtain ⟨qs, ds, rfl, rfl, h3, h4⟩ := dy_of (ys := ys) (cs := cs) (Nat.succ.inj h) fun i c' y' hc hy => hf (i + 1) c' y' hc hy
    obtain ⟨q, e, rfl, h5, h6⟩ := hf 0 c y rfl rfl
    refine ⟨q :: qs, (c, e) :: ds, rfl, rfl, ⟨by rw [List.length_cons, List.length_cons, h3.1], fun i q' hq => ?_⟩, fun d hd => ?_⟩
    · cases i with
      | zero =>
        cases hq
        exact ⟨c, e, rfl, h5⟩
      | succ i => exact h3.2 i q' hq
    · rcases List.mem_cons.mp hd with z | z
      · rw [z]
        exact h6
      · exact h4 d z
end
end RSP

/-! sum(tuple of ints); draws: tests, words. -/
namespace RSU
open PySem PySem.Spec PyProof.Rows L2 Evl TL RC RD RG RM RX
section
variable {X : Cx}
def rSumT (K : PySem.W.Frag) : List V → Hp → VK → Prop := fun vs H Q => ∃ (a : Addr) (ns : List Int), vs = [V.ref a] ∧ SqT K H a (ns.map V.int) ∧ Q (.int ns.sum) H
theorem cr_sumT (hc : X.calm = true) : CallR X (.builtin "sum") (rSumT X.K) := by
  intro pins s σ H vs us Q I r h
  obtain ⟨a, ns, rfl, hs, q⟩ := h
  obtain ⟨its, rv, hl, _⟩ := I.tuple hs
  rw [Vals.ref1 r]
  have hi : IntsAre its ns := rv.ints
  obtain ⟨xs, hx⟩ := hi.allInts.items
  have hn : numsOf (intItems xs).toList = ns := by
    rw [← hx]
    exact hi.numsOf
  rw [nums_intItems] at hn
  rw [hx] at hl
  refine PySem.W.ktm_sumG (I.ok.hd hc) hl fun h' tk t' hk => ?_
  rw [preSum_eq, List.take_of_length_le (by simp), hn]
  exact ⟨.int _, H, I.kept hk, ⟨_, rfl⟩, q⟩
end
section
variable {K : PySem.W.Frag} {R : Hp → Prop} {b : Addr} {σ : L2.St} {H0 G0 G : Hp} {te ta tb : TE} {t : TT} {tz tu tw : TS} {D : Ends}
/-- a test of a list's draws: one of two words -/
theorem inV_wd (x : List Nat) (ys : List (List Nat)) : inV (T x) (ys.map T) = ys.any fun y => decide (y = x) := by
  unfold inV
  rw [List.any_map]
  congr 1
  funext y
  exact RI.eqV_T y x
theorem ev_inL {x : List Nat} {ys : List (List Nat)} {H : Hp} (ha : Ev ta σ H (T x)) (hb : EvL tb σ H (ys.map T)) : Ev (tOp (rIn K false) ta tb) σ H (.bl (ys.any fun y => decide (y = x))) :=
  ev_opL ha hb fun p H1 hp e => by
    have h := rv_isL (K := K) (H := H1) (p := p) (xs := ys.map T) (x := T x) (SqL.of hp) rfl (List.all_eq_true.mpr fun z hz => by
      obtain ⟨y, _, rfl⟩ := List.mem_map.mp hz
      rfl)
    rw [inV_wd] at h
    exact h
end
end RSU

/-! Things as trees: lists or tuples of numbers, texts, things. -/
namespace RLT
open PySem PySem.Spec PyProof.Rows L2 Evl RDI TL RC RD RP RR RU RV RX
mutual
inductive Tr : Type
  | at (v : V)
  | sq (ds : Trs)
inductive Trs : Type
  | nil
  | cons (d : Tr) (r : Trs)
end
def lenT : Trs → Nat
  | .nil => 0
  | .cons _ r => lenT r + 1
def nthT : Trs → Nat → Option Tr
  | .nil, _ => none
  | .cons d _, 0 => some d
  | .cons _ r, i + 1 => nthT r i
mutual
def TrV (H : Hp) : Tr → V → Prop
  | .at v, w => w = v ∧ ((∃ n : Int, v = .int n) ∨ ∃ l, v = T l)
  | .sq ds, w => ∃ xs, Sq H w xs ∧ TrL H ds xs
def TrL (H : Hp) : Trs → List V → Prop
  | .nil, xs => xs = []
  | .cons d r, xs => ∃ x ys, xs = x :: ys ∧ TrV H d x ∧ TrL H r ys
end
mutual
theorem TrV.ex {H H' : Hp} (e : Ex H H') : ∀ {d : Tr} {v : V}, TrV H d v → TrV H' d v
  | .at _, _, h => h
  | .sq _, _, ⟨xs, h1, h2⟩ => ⟨xs, h1.ex e, TrL.ex e h2⟩
theorem TrL.ex {H H' : Hp} (e : Ex H H') : ∀ {d : Trs} {v : List V}, TrL H d v → TrL H' d v
  | .nil, _, h => h
  | .cons _ _, _, ⟨x, ys, h1, h2, h3⟩ => ⟨x, ys, h1, TrV.ex e h2, TrL.ex e h3⟩
end
mutual
def dpT : Tr → Nat
  | .at _ => 1
  | .sq ds => dpL ds + 1
def dpL : Trs → Nat
  | .nil => 0
  | .cons d r => max (dpT d) (dpL r)
end
mutual
def okT : Tr → Prop
  | .at _ => True
  | .sq ds => lenT ds ≤ 1000 ∧ okL ds
def okL : Trs → Prop
  | .nil => True
  | .cons d r => okT d ∧ okL r
end
theorem trl_len {H : Hp} : ∀ {ds : Trs} {xs : List V}, TrL H ds xs → xs.length = lenT ds
  | .nil, _, h => by rw [show _ = [] from h]; rfl
  | .cons d r, _, ⟨x, ys, h1, h2, h3⟩ => by rw [h1, List.length_cons, trl_len h3]; rfl
theorem trl_at {H : Hp} : ∀ {ds : Trs} {xs : List V} {i : Nat} {x : V}, TrL H ds xs → xs[i]? = some x → ∃ d, nthT ds i = some d ∧ TrV H d x
  | .nil, xs, i, x, h, hx => by
    rw [show xs = [] from h] at hx
    cases hx
  | .cons d r, _, 0, x, ⟨y, ys, h1, h2, h3⟩, hx => by
    subst h1
    cases hx
    exact ⟨d, rfl, h2⟩
  | .cons d r, _, i + 1, x, ⟨y, ys, h1, h2, h3⟩, hx => by
    subst h1
    exact trl_at (ds := r) h3 hx
theorem trl_of {H : Hp} : ∀ {ds : Trs} {xs : List V}, xs.length = lenT ds → (∀ (i : Nat) d x, nthT ds i = some d → xs[i]? = some x → TrV H d x) → TrL H ds xs
  | .nil, [], _, _ => rfl
  | .nil, x :: xs, h, _ => by cases h
  | .cons d r, [], h, _ => by cases h
  | .cons d r, x :: xs, h, hf => ⟨x, xs, rfl, hf 0 d x rfl rfl, trl_of (ds := r) (Nat.succ.inj h) fun i d' x' h1 h2 => hf (i + 1) d' x' h1 h2⟩
theorem nth_dp : ∀ {ds : Trs} {i : Nat} {d : Tr}, nthT ds i = some d → dpT d ≤ dpL ds
  | .cons d r, 0, _, h => by cases h; exact Nat.le_max_left _ _
  | .cons d r, i + 1, _, h => Nat.le_trans (nth_dp (ds := r) h) (Nat.le_max_right _ _)
theorem nth_ok : ∀ {ds : Trs} {i : Nat} {d : Tr}, nthT ds i = some d → okL ds → okT d
  | .cons d r, 0, _, h, ho => by cases h; exact ho.1
  | .cons d r, i + 1, _, h, ho => nth_ok (ds := r) h ho.2
/-! ### presses as trees -/
def dyesT : List (Nat × Nat) → Trs
  | [] => .nil
  | d :: r => .cons (.sq (.cons (.at (T [d.1])) (.cons (.at (T [d.2])) .nil))) (dyesT r)
mutual
def tree : Pr → Tr
  | .wheel rim => .sq (.cons (.at (T (wd 0))) (.cons (.at (T rim)) .nil))
  | .turned p n => .sq (.cons (.at (T (wd 1))) (.cons (tree p) (.cons (.at (.int (n : Int))) .nil)))
  | .over a b => .sq (.cons (.at (T (wd 2))) (.cons (tree a) (.cons (tree b) .nil)))
  | .cut a b => .sq (.cons (.at (T (wd 3))) (.cons (tree a) (.cons (tree b) .nil)))
  | .held a b => .sq (.cons (.at (T (wd 4))) (.cons (tree a) (.cons (tree b) .nil)))
  | .taking ps => .sq (.cons (.at (T (wd 5))) (.cons (.sq (trees ps)) .nil))
  | .thn a n b => .sq (.cons (.at (T (wd 6))) (.cons (tree a) (.cons (.at (.int (n : Int))) (.cons (tree b) .nil))))
  | .dyed p ds => .sq (.cons (.at (T (wd 7))) (.cons (tree p) (.cons (.sq (dyesT ds)) .nil)))
def trees : Ps → Trs
  | .nil => .nil
  | .cons p n r => .cons (.sq (.cons (tree p) (.cons (.at (.int (n : Int))) .nil))) (trees r)
end
theorem at_T {H : Hp} {l : List Nat} : TrV H (.at (T l)) (T l) := ⟨rfl, .inr ⟨l, rfl⟩⟩
theorem at_I {H : Hp} {n : Nat} : TrV H (.at (.int (n : Int))) (.int (n : Int)) := ⟨rfl, .inl ⟨_, rfl⟩⟩
theorem dyes_tr {H : Hp} : ∀ {ds : List (Nat × Nat)} {qs : List V}, qs.length = ds.length → (∀ (i : Nat) (q : V), qs[i]? = some q → ∃ (c e : Nat), ds[i]? = some (c, e) ∧ Sq H q [T [c], T [e]]) → TrL H (dyesT ds) qs
  | [], [], _, _ => rfl
  | [], q :: qs, h, _ => by cases h
  | d :: ds, [], h, _ => by cases h
  | d :: ds, q :: qs, h, hf => by
    obtain ⟨c, e, h1, h2⟩ := hf 0 q rfl
    cases h1
    exact ⟨q, qs, rfl, ⟨_, h2, _, _, rfl, at_T, _, _, rfl, at_T, rfl⟩, dyes_tr (Nat.succ.inj h) fun i q' hq => hf (i + 1) q' hq⟩
theorem tr_dyes {H : Hp} : ∀ {ds : List (Nat × Nat)} {qs : List V}, TrL H (dyesT ds) qs → qs.length = ds.length ∧ ∀ (i : Nat) (q : V), qs[i]? = some q → ∃ (c e : Nat), ds[i]? = some (c, e) ∧ Sq H q [T [c], T [e]]
  | [], qs, h => by
    rw [show qs = [] from h]
    exact ⟨rfl, fun i q hq => by cases hq⟩
  | d :: ds, _, ⟨q, qs, h1, ⟨xs, h2, x, ys, h3, h4, y, zs, h5, h6, h7⟩, h8⟩ => by
    subst h1 h3 h5 h7
    obtain ⟨g1, g2⟩ := tr_dyes h8
    refine ⟨by rw [List.length_cons, List.length_cons, g1], fun i q' hq => ?_⟩
    cases i with
    | zero =>
      cases hq
      refine ⟨d.1, d.2, rfl, ?_⟩
      rw [← h4.1, ← h6.1]
      exact h2
    | succ i => exact g2 i q' hq
mutual
theorem hand_tree {H : Hp} : ∀ {p : Pr} {v : V} {ws : List V}, Sq H v (T (wd (idx p)) :: ws) → HandR H p ws → TrV H (tree p) v
  | .wheel _, v, _, hs, h => ⟨_, hs, _, _, rfl, at_T, by rw [show _ = [T _] from h]; exact ⟨_, _, rfl, at_T, rfl⟩⟩
  | .turned p n, v, _, hs, ⟨x, ws, h1, h2, h3⟩ => ⟨_, hs, _, _, rfl, at_T, h1 ▸ ⟨_, _, rfl, hand_tree h2 h3, _, _, rfl, at_I, rfl⟩⟩
  | .over a b, v, _, hs, ⟨x, y, ws, zs, h1, h2, h3, h4, h5⟩ => ⟨_, hs, _, _, rfl, at_T, h1 ▸ ⟨_, _, rfl, hand_tree h2 h4, _, _, rfl, hand_tree h3 h5, rfl⟩⟩
  | .cut a b, v, _, hs, ⟨x, y, ws, zs, h1, h2, h3, h4, h5⟩ => ⟨_, hs, _, _, rfl, at_T, h1 ▸ ⟨_, _, rfl, hand_tree h2 h4, _, _, rfl, hand_tree h3 h5, rfl⟩⟩
  | .held a b, v, _, hs, ⟨x, y, ws, zs, h1, h2, h3, h4, h5⟩ => ⟨_, hs, _, _, rfl, at_T, h1 ▸ ⟨_, _, rfl, hand_tree h2 h4, _, _, rfl, hand_tree h3 h5, rfl⟩⟩
  | .taking ps, v, _, hs, ⟨x, ws, h1, h2, h3⟩ => ⟨_, hs, _, _, rfl, at_T, h1 ▸ ⟨_, _, rfl, ⟨ws, h2, hand_trees h3⟩, rfl⟩⟩
  | .thn a n b, v, _, hs, ⟨x, y, ws, zs, h1, h2, h3, h4, h5⟩ => ⟨_, hs, _, _, rfl, at_T, h1 ▸ ⟨_, _, rfl, hand_tree h2 h4, _, _, rfl, at_I, _, _, rfl, hand_tree h3 h5, rfl⟩⟩
  | .dyed p ds, v, _, hs, ⟨x, y, ws, qs, h1, h2, h3, h4, h5, h6⟩ => ⟨_, hs, _, _, rfl, at_T, h1 ▸ ⟨_, _, rfl, hand_tree h2 h6, _, _, rfl, ⟨qs, h3, dyes_tr h4 h5⟩, rfl⟩⟩
theorem hand_trees {H : Hp} : ∀ {ps : Ps} {xs : List V}, HandT H ps xs → TrL H (trees ps) xs
  | .nil, _, h => h
  | .cons p n r, _, ⟨q, x, ws, ys, h1, h2, h3, h4, h5⟩ => ⟨q, ys, h1, ⟨_, h2, _, _, rfl, hand_tree h3 h4, _, _, rfl, at_I, rfl⟩, hand_trees h5⟩
end
mutual
theorem tree_hand {H : Hp} : ∀ {p : Pr} {v : V}, TrV H (tree p) v → ∃ ws, Sq H v (T (wd (idx p)) :: ws) ∧ HandR H p ws
  | .wheel _, v, ⟨_, hs, x, ys, h1, h2, y, zs, h3, h4, h5⟩ => by
    subst h1 h3 h5
    exact ⟨_, h2.1 ▸ hs, by rw [h4.1]; rfl⟩
  | .turned p n, v, ⟨_, hs, x, ys, h1, h2, y, zs, h3, h4, z, us, h5, h6, h7⟩ => by
    subst h1 h3 h5 h7
    obtain ⟨ws, g1, g2⟩ := tree_hand h4
    exact ⟨_, h2.1 ▸ hs, y, ws, by rw [h6.1], g1, g2⟩
  | .over a b, v, ⟨_, hs, x, ys, h1, h2, y, zs, h3, h4, z, us, h5, h6, h7⟩ => by
    subst h1 h3 h5 h7
    obtain ⟨ws, g1, g2⟩ := tree_hand h4
    obtain ⟨us, g3, g4⟩ := tree_hand h6
    exact ⟨_, h2.1 ▸ hs, y, z, ws, us, rfl, g1, g3, g2, g4⟩
  | .cut a b, v, ⟨_, hs, x, ys, h1, h2, y, zs, h3, h4, z, us, h5, h6, h7⟩ => by
    subst h1 h3 h5 h7
    obtain ⟨ws, g1, g2⟩ := tree_hand h4
    obtain ⟨us, g3, g4⟩ := tree_hand h6
    exact ⟨_, h2.1 ▸ hs, y, z, ws, us, rfl, g1, g3, g2, g4⟩
  | .held a b, v, ⟨_, hs, x, ys, h1, h2, y, zs, h3, h4, z, us, h5, h6, h7⟩ => by
    subst h1 h3 h5 h7
    obtain ⟨ws, g1, g2⟩ := tree_hand h4
    obtain ⟨us, g3, g4⟩ := tree_hand h6
    exact ⟨_, h2.1 ▸ hs, y, z, ws, us, rfl, g1, g3, g2, g4⟩
  | .taking ps, v, ⟨_, hs, x, ys, h1, h2, y, zs, h3, ⟨us, h4, h5⟩, h6⟩ => by
    subst h1 h3 h6
    exact ⟨_, h2.1 ▸ hs, y, us, rfl, h4, trees_hand h5⟩
  | .thn a n b, v, ⟨_, hs, x, ys, h1, h2, y, zs, h3, h4, z, us, h5, h6, w, ts, h7, h8, h9⟩ => by
    subst h1 h3 h5 h7 h9
    obtain ⟨ws, g1, g2⟩ := tree_hand h4
    obtain ⟨us, g3, g4⟩ := tree_hand h8
    exact ⟨_, h2.1 ▸ hs, y, w, ws, us, by rw [h6.1], g1, g3, g2, g4⟩
  | .dyed p ds, v, ⟨_, hs, x, ys, h1, h2, y, zs, h3, h4, z, us, h5, ⟨qs, h6, h7⟩, h8⟩ => by
    subst h1 h3 h5 h8
    obtain ⟨ws, g1, g2⟩ := tree_hand h4
    obtain ⟨g3, g4⟩ := tr_dyes h7
    exact ⟨_, h2.1 ▸ hs, y, z, ws, qs, rfl, g1, h6, g3, g4, g2⟩
theorem trees_hand {H : Hp} : ∀ {ps : Ps} {xs : List V}, TrL H (trees ps) xs → HandT H ps xs
  | .nil, _, h => h
  | .cons p n r, _, ⟨q, ys, h1, ⟨xs, h2, x, zs, h3, h4, y, us, h5, h6, h7⟩, h8⟩ => by
    subst h1 h3 h5 h7
    obtain ⟨ws, g1, g2⟩ := tree_hand h4
    exact ⟨q, x, ws, ys, rfl, by rw [← h6.1]; exact h2, g1, g2, trees_hand h8⟩
end
theorem dp_dyes : ∀ ds : List (Nat × Nat), dpL (dyesT ds) ≤ 2
  | [] => Nat.zero_le _
  | d :: ds => by
    have := dp_dyes ds
    show max (max 1 (max 1 0) + 1) (dpL (dyesT ds)) ≤ 2
    omega
mutual
theorem dp_tree : ∀ p : Pr, dpT (tree p) ≤ 3 * dep p + 2
  | .wheel _ => Nat.le_of_ble_eq_true rfl
  | .turned p n => by
    have := dp_tree p
    show max 1 (max (dpT (tree p)) (max 1 0)) + 1 ≤ 3 * (dep p + 1) + 2
    omega
  | .over a b => by
    have := dp_tree a
    have := dp_tree b
    show max 1 (max (dpT (tree a)) (max (dpT (tree b)) 0)) + 1 ≤ 3 * (max (dep a) (dep b) + 1) + 2
    omega
  | .cut a b => by
    have := dp_tree a
    have := dp_tree b
    show max 1 (max (dpT (tree a)) (max (dpT (tree b)) 0)) + 1 ≤ 3 * (max (dep a) (dep b) + 1) + 2
    omega
  | .held a b => by
    have := dp_tree a
    have := dp_tree b
    show max 1 (max (dpT (tree a)) (max (dpT (tree b)) 0)) + 1 ≤ 3 * (max (dep a) (dep b) + 1) + 2
    omega
  | .taking ps => by
    have := dp_trees ps
    show max 1 (max (dpL (trees ps) + 1) 0) + 1 ≤ 3 * (depT ps + 1) + 2
    omega
  | .thn a n b => by
    have := dp_tree a
    have := dp_tree b
    show max 1 (max (dpT (tree a)) (max 1 (max (dpT (tree b)) 0))) + 1 ≤ 3 * (max (dep a) (dep b) + 1) + 2
    omega
  | .dyed p ds => by
    have := dp_tree p
    have := dp_dyes ds
    show max 1 (max (dpT (tree p)) (max (dpL (dyesT ds) + 1) 0)) + 1 ≤ 3 * (dep p + 1) + 2
    omega
theorem dp_trees : ∀ ps : Ps, dpL (trees ps) ≤ 3 * depT ps + 3
  | .nil => Nat.zero_le _
  | .cons p n r => by
    have := dp_tree p
    have := dp_trees r
    show max (max (dpT (tree p)) (max 1 0) + 1) (dpL (trees r)) ≤ 3 * max (dep p) (depT r) + 3
    omega
end
theorem ok_dyes : ∀ ds : List (Nat × Nat), okL (dyesT ds) ∧ lenT (dyesT ds) = ds.length
  | [] => ⟨trivial, rfl⟩
  | d :: ds => ⟨⟨⟨Nat.le_of_ble_eq_true rfl, trivial, trivial, trivial⟩, (ok_dyes ds).1⟩, congrArg Nat.succ (ok_dyes ds).2⟩
mutual
theorem ok_tree : ∀ p : Pr, NoDye p → Form p → okT (tree p)
  | .wheel _, _, _ => ⟨Nat.le_of_ble_eq_true rfl, trivial, trivial, trivial⟩
  | .turned p n, hn, hf => ⟨Nat.le_of_ble_eq_true rfl, trivial, ok_tree p hn hf, trivial, trivial⟩
  | .over a b, hn, hf => ⟨Nat.le_of_ble_eq_true rfl, trivial, ok_tree a hn.1 hf.1, ok_tree b hn.2 hf.2, trivial⟩
  | .cut a b, hn, hf => ⟨Nat.le_of_ble_eq_true rfl, trivial, ok_tree a hn.1 hf.1, ok_tree b hn.2 hf.2, trivial⟩
  | .held a b, hn, hf => ⟨Nat.le_of_ble_eq_true rfl, trivial, ok_tree a hn.1 hf.1, ok_tree b hn.2 hf.2, trivial⟩
  | .taking ps, hn, hf => ⟨Nat.le_of_ble_eq_true rfl, trivial, ⟨by have := (ok_trees ps hn hf.1).2; have := hf.2.2; omega, (ok_trees ps hn hf.1).1⟩, trivial⟩
  | .thn a n b, hn, hf => ⟨Nat.le_of_ble_eq_true rfl, trivial, ok_tree a hn.1 hf.1, trivial, ok_tree b hn.2 hf.2, trivial⟩
  | .dyed p ds, hn, hf => ⟨Nat.le_of_ble_eq_true rfl, trivial, ok_tree p hn.1 hf, ⟨by rw [(ok_dyes ds).2]; have := hn.2.1; omega, (ok_dyes ds).1⟩, trivial⟩
theorem ok_trees : ∀ ps : Ps, NoDyeT ps → FormT ps → okL (trees ps) ∧ lenT (trees ps) = (manies ps).length
  | .nil, _, _ => ⟨trivial, rfl⟩
  | .cons p n r, hn, hf => ⟨⟨⟨Nat.le_of_ble_eq_true rfl, ok_tree p hn.1 hf.1, trivial, trivial⟩, (ok_trees r hn.2 hf.2.2).1⟩, congrArg Nat.succ (ok_trees r hn.2 hf.2.2).2⟩
end
section
variable {K : PySem.W.Frag} {σ : L2.St} {H : Hp} {te tel : TE}
/-- [f(inner) for inner in thing], each made anew -/
theorem evp_lcMap {v : V} {xs : List V} {ds : Trs} {vs : List Nat} {j : Nat} (h : Ev te σ H v) (hs : Sq H v xs) (ht : TrL H ds xs) (hz : lenT ds ≤ 1000) (hw : ∀ x, wipe ((wipe σ vs).set j (some x)) vs = wipe σ vs)
    (hel : ∀ (d : Tr) (x : V) H1, Ex H H1 → TrV H1 d x → dpT d ≤ dpL ds → (okL ds → okT d) → EvP tel ((wipe σ vs).set j (some x)) H1 (fun v' H' => TrV (new H1 H') d v')) :
    EvP (tLc (fun σ H R => iList K te σ H R ∨ iTup K te σ H R) (gName j) tYes tel vs) σ H (fun v' H' => ∃ l ys, v' = .ref l ∧ new H H' l = some (.lst ys) ∧ TrL (new H H') ds ys) := by
  intro H1 e Q q
  obtain ⟨a, rfl, ha⟩ := hs
  have hlen := trl_len ht
  have step : ∀ (H2 : Hp) (Dl : Addr), Ex H1 H2 → H2 Dl = none → ∀ (i : Nat) (x : V) (H' : Hp), xs[i]? = some x → (∃ acc, acc.length = i ∧ (∀ (k : Nat) d y, nthT ds k = some d → acc[k]? = some y → TrV (hide Dl (new H H')) d y) ∧ Ex H2 H' ∧ H' Dl = some (.lst acc)) →
      gName j x (wipe σ vs) H' fun σ2 H3 => wipe σ2 vs = wipe σ vs ∧ tYes σ2 H3 fun b H4 => if b = true then tel σ2 H4 fun y H5 => ∃ acc, H5 Dl = some (.lst acc) ∧ acc.length < sizeLine ∧
        (∃ acc2, acc2.length = i + 1 ∧ (∀ (k : Nat) d z, nthT ds k = some d → acc2[k]? = some z → TrV (hide Dl (new H (upd H5 Dl (.lst (acc ++ [y]))))) d z) ∧ Ex H2 (upd H5 Dl (.lst (acc ++ [y]))) ∧ (upd H5 Dl (.lst (acc ++ [y]))) Dl = some (.lst acc2)) else
        (∃ acc2, acc2.length = i + 1 ∧ (∀ (k : Nat) d z, nthT ds k = some d → acc2[k]? = some z → TrV (hide Dl (new H H4)) d z) ∧ Ex H2 H4 ∧ H4 Dl = some (.lst acc2)) := fun H2 Dl e2 hD i x H' hx hp => by
    obtain ⟨acc, h1, h2, e3, h3⟩ := hp
    have hil := (List.getElem?_eq_some_iff.mp hx).1
    refine ⟨hw _, ?_⟩
    simp only [tYes, ↓reduceIte]
    obtain ⟨d, hd, htv⟩ := trl_at ht hx
    have e1 : Ex H H' := (e.trans e2).trans e3
    refine hel d x H' e1 (htv.ex e1) (nth_dp hd) (nth_ok hd) H' (Ex.refl _) _ fun y H5 e5 hy => ?_
    have hD5 := e5 _ _ h3
    refine ⟨acc, hD5, by rw [big]; omega, acc ++ [y], by rw [List.length_append, h1]; rfl, fun k d' z hk hz => ?_, (e3.trans e5).mut hD, upd_same⟩
    have m1 : ∀ o, Ex (hide Dl (new H H')) (hide Dl (new H (upd H5 Dl o))) := fun o a o' ha => by
      obtain ⟨n1, n2⟩ := hide_some.mp ha
      obtain ⟨n3, n4⟩ := new_some.mp n2
      exact hide_some.mpr ⟨n1, new_some.mpr ⟨n3, by rw [upd_ne n1]; exact e5 _ _ n4⟩⟩
    have m2 : ∀ o, Ex (new H' H5) (hide Dl (new H (upd H5 Dl o))) := fun o a o' ha => by
      obtain ⟨n1, n2⟩ := new_some.mp ha
      have n3 : a ≠ Dl := fun z => by
        rw [z, h3] at n1
        cases n1
      exact hide_some.mpr ⟨n3, new_some.mpr ⟨fresh_back e1 n1, by rw [upd_ne n3]; exact n2⟩⟩
    rcases Nat.lt_or_ge k acc.length with c | c
    · rw [List.getElem?_append_left c] at hz
      exact (h2 k d' z hk hz).ex (m1 _)
    · rw [List.getElem?_append_right c] at hz
      have hk0 : k - acc.length = 0 := by
        cases c2 : k - acc.length with
        | zero => rfl
        | succ n => rw [c2] at hz; cases hz
      rw [hk0] at hz
      cases hz
      have : k = i := by omega
      rw [this, hd] at hk
      cases hk
      exact hy.ex (m2 _)
  have fin : ∀ (H2 : Hp) (Dl : Addr) (H' : Hp), Ex H1 H2 → H2 Dl = none → (∃ acc, acc.length = xs.length ∧ (∀ (k : Nat) d y, nthT ds k = some d → acc[k]? = some y → TrV (hide Dl (new H H')) d y) ∧ Ex H2 H' ∧ H' Dl = some (.lst acc)) → Q (.ref Dl) H' := fun H2 Dl H' e2 hD hp => by
    obtain ⟨acc, h1, h2, e3, h3⟩ := hp
    have hnew : new H H' Dl = some (.lst acc) := new_some.mpr ⟨fresh_back (e.trans e2) hD, h3⟩
    refine q _ H' (e2.trans e3) ⟨Dl, acc, rfl, hnew, trl_of (by omega) fun k d y hk hy => (h2 k d y hk hy).ex fun a o hh => (hide_some.mp hh).2⟩
  rcases ha with ha | ha
  · exact .inl (h H1 e _ fun H2 e2 => ⟨a, rfl, ⟨xs, SqL.of ((e.trans e2) _ _ ha)⟩, fun Dl hD => lc_list (xs := xs) (fun i H' => ∃ acc, acc.length = i ∧ (∀ (k : Nat) d y, nthT ds k = some d → acc[k]? = some y → TrV (hide Dl (new H H')) d y) ∧ Ex H2 H' ∧ H' Dl = some (.lst acc)) ⟨[], rfl, fun k d y _ hy => (by cases hy), Ex.new hD, upd_same⟩ (fun i H' _ hp => by obtain ⟨acc, _, _, e3, _⟩ := hp; exact SqL.of (((e.trans e2).trans e3) _ _ ha)) (fun i x H' hx hp => step H2 Dl e2 hD i x H' hx hp) fun H' hp => fin H2 Dl H' e2 hD hp⟩)
  · exact .inr (h H1 e _ fun H2 e2 => ⟨a, rfl, ⟨xs, .inl (ex_rd (e.trans e2) ha)⟩, fun Dl hD => lc_it (walk_tup (a := a) (xs := xs)) (fun i H' => ∃ acc, acc.length = i ∧ (∀ (k : Nat) d y, nthT ds k = some d → acc[k]? = some y → TrV (hide Dl (new H H')) d y) ∧ Ex H2 H' ∧ H' Dl = some (.lst acc)) ⟨[], rfl, fun k d y _ hy => (by cases hy), Ex.new hD, upd_same⟩ (fun i H' _ hp => by obtain ⟨acc, _, _, e3, _⟩ := hp; exact .inl (ex_rd ((e.trans e2).trans e3) ha)) (fun i x H' H'' hi hp y => by obtain ⟨rfl, hx⟩ := y; exact step H2 Dl e2 hD i x H'' hx hp) fun H' hp => fin H2 Dl H' e2 hD hp⟩)
end
end RLT

/-! Least rounds; places of marks. -/
namespace RPL
open PySem PySem.Spec PyProof.Rows L2 Evl TL RC RD RP
open Builtin Builtin.Str
/-! ### where a text stands in another one -/
def AtL (l m : List Nat) (i : Nat) : Prop := i + m.length ≤ l.length ∧ (l.drop i).take m.length = m
theorem at_iff (l m : List Nat) (i : Nat) : StrLaws.At (S l) (S m) (S l).length i ↔ AtL l m i := by
  unfold StrLaws.At AtL
  rw [StrLaws.subAt_eq, S_cps, S_cps, S_len, S_len]
  simp
theorem find_S (l m : List Nat) : (Txt.find (S l) (S m) = -1 ∧ ∀ i, ¬ AtL l m i) ∨ ∃ i : Nat, Txt.find (S l) (S m) = i ∧ AtL l m i ∧ ∀ k, k < i → ¬ AtL l m k := by
  unfold Txt.find
  rcases StrLaws.occ_head (S l) (S m) 1 (Nat.le_refl _) with ⟨h0, hn⟩ | ⟨i, r, h0, ha, hn⟩
  · rw [h0]
    exact .inl ⟨rfl, fun i hi => hn i ((at_iff l m i).mpr hi)⟩
  · rw [h0]
    exact .inr ⟨i, rfl, (at_iff l m i).mp ha, fun k hk h => hn k hk ((at_iff l m k).mpr h)⟩
theorem find_at {l m : List Nat} {i : Nat} (h : AtL l m i) (hn : ∀ k, k < i → ¬ AtL l m k) : Txt.find (S l) (S m) = i := by
  rcases find_S l m with ⟨_, h1⟩ | ⟨j, h0, h1, h2⟩
  · exact absurd h (h1 i)
  · have : i = j := by
      rcases Nat.lt_trichotomy i j with c | c | c
      · exact absurd h (h2 i c)
      · exact c
      · exact absurd h1 (hn j c)
    rw [h0, this]
theorem ev_find {σ : L2.St} {H : Hp} {ta tb : TE} {l m : List Nat} {i : Nat} (ha : Ev ta σ H (T l)) (hb : Ev tb σ H (T m)) (h : AtL l m i) (hn : ∀ k, k < i → ¬ AtL l m k) :
    Ev (tM1 (fun x xs H Q => ∃ a b, x = .str a ∧ xs = [.str b] ∧ Q (.int (Txt.find a b)) H) ta tb) σ H (.int (i : Int)) := fun H1 e Q q =>
  ha H1 e _ fun H2 e2 => ⟨⟨S l, rfl⟩, hb H2 (e.trans e2) _ fun H3 e3 => ⟨_, _, rfl, rfl, by rw [find_at h hn]; exact q H3 (e2.trans e3)⟩⟩
/-! ### pieces of a strip -/
def seg (f : Nat → Nat) (a n : Nat) : List Nat := (List.range n).map fun i => f (a + i)
theorem seg_len (f : Nat → Nat) (a n : Nat) : (seg f a n).length = n := by simp [seg]
theorem seg_get {f : Nat → Nat} {a n i : Nat} (h : i < n) : (seg f a n)[i]? = some (f (a + i)) := by
  unfold seg
  rw [List.getElem?_map, List.getElem?_range h]
  rfl
theorem seg_add (f : Nat → Nat) (a n k : Nat) : seg f a n ++ seg f (a + n) k = seg f a (n + k) := by
  unfold seg
  rw [List.range_add, List.map_append, List.map_map]
  congr 1
  apply List.map_congr_left
  intro i _
  show f (a + n + i) = f (a + (n + i))
  rw [Nat.add_assoc]
theorem seg_drop (f : Nat → Nat) (a n k : Nat) : (seg f a (n + k)).drop n = seg f (a + n) k := by
  rw [← seg_add, List.drop_left' (seg_len f a n)]
theorem seg_take (f : Nat → Nat) (a n k : Nat) : (seg f a (n + k)).take n = seg f a n := by
  rw [← seg_add, List.take_left' (seg_len f a n)]
theorem seg_dropL {f : Nat → Nat} {a n m : Nat} (h : n ≤ m) : (seg f a m).drop n = seg f (a + n) (m - n) := by
  have := seg_drop f a n (m - n)
  rwa [show n + (m - n) = m by omega] at this
theorem seg_takeL {f : Nat → Nat} {a n m : Nat} (h : n ≤ m) : (seg f a m).take n = seg f a n := by
  have := seg_take f a n (m - n)
  rwa [show n + (m - n) = m by omega] at this
theorem seg_eq {f g : Nat → Nat} {a c n : Nat} : seg f a n = seg g c n ↔ ∀ j, j < n → f (a + j) = g (c + j) := by
  refine ⟨fun h j hj => ?_, fun h => ?_⟩
  · have := congrArg (fun l => l[j]?) h
    simp only [seg_get hj] at this
    exact Option.some.inj this
  · unfold seg
    exact List.map_congr_left fun i hi => h i (List.mem_range.mp hi)
/-! ### least rounds -/
theorem Per.ex {f : Nat → Nat} {b l d : Nat} (h : Per f b l) (hd : 0 < d) (g : ∀ j, j < l → f (b + j + d) = f (b + j)) : Per f b d := ⟨hd, fun i hi => by
  have hl := h.1
  obtain ⟨k, hk⟩ : ∃ k, k = (i - b) / l := ⟨_, rfl⟩
  have h1 := Nat.div_add_mod (i - b) l
  have h2 := Nat.mod_lt (i - b) hl
  rw [← hk, Nat.mul_comm] at h1
  have e1 : i = b + (i - b) % l + k * l := by omega
  have h3 := h.mul k (b + (i - b) % l) (Nat.le_add_right _ _)
  have h4 := h.mul k (b + (i - b) % l + d) (by omega)
  have h5 := g _ h2
  rw [show b + (i - b) % l + d + k * l = b + (i - b) % l + k * l + d by omega, ← e1] at h4
  rw [← e1] at h3
  rw [h4, h3, h5]⟩
theorem per_shift {f : Nat → Nat} {b l c d : Nat} (h : Per f b l) (g : Per f c d) : Per f b d := ⟨g.1, fun i hi => by
  have h1 := h.mul c i hi
  have h2 := h.mul c (i + d) (by omega)
  have hc : c ≤ c * l := Nat.le_mul_of_pos_right _ h.1
  have h3 := g.2 (i + c * l) (by omega)
  rw [← h2, show i + d + c * l = i + c * l + d by omega, h3, h1]⟩
structure Rnd (f : Nat → Nat) (c d : Nat) : Prop where
  per : Per f c d
  least : ∀ b l, Per f b l → d ≤ l
  back : c = 0 ∨ f (c - 1) ≠ f (c - 1 + d)
theorem Rnd.le {f : Nat → Nat} {b l c d : Nat} (r : Rnd f c d) (h : Per f b l) : c ≤ b ∧ d ≤ l := by
  refine ⟨?_, r.least b l h⟩
  have h1 := per_shift h r.per
  rcases r.back with z | z
  · omega
  · by_cases c1 : c ≤ b
    · exact c1
    · exact absurd (h1.2 (c - 1) (by omega)).symm z
theorem least_of {A : Nat → Prop} : ∀ n, A n → ∃ m, A m ∧ ∀ k, k < m → ¬ A k := by
  intro n
  induction n using Nat.strongRecOn with
  | ind n ih =>
    intro h
    by_cases c : ∃ k, k < n ∧ A k
    · obtain ⟨k, h1, h2⟩ := c
      exact ih k h1 h2
    · exact ⟨n, h, fun k hk hA => c ⟨k, hk, hA⟩⟩
theorem rnd_ex {f : Nat → Nat} {b l : Nat} (h : Per f b l) : ∃ c d, Rnd f c d := by
  obtain ⟨d, ⟨b1, h1⟩, h2⟩ := least_of (A := fun d => ∃ b, Per f b d) l ⟨b, h⟩
  obtain ⟨c, h3, h4⟩ := least_of (A := fun c => Per f c d) b1 h1
  refine ⟨c, d, h3, fun b l g => Nat.le_of_not_lt fun c => h2 l c ⟨b, g⟩, ?_⟩
  by_cases z : c = 0
  · exact .inl z
  · refine .inr fun e => h4 (c - 1) (by omega) ⟨h3.1, fun i hi => ?_⟩
    by_cases y : i = c - 1
    · rw [y]
      exact e.symm
    · exact h3.2 i (by omega)
theorem Rnd.uniq {f : Nat → Nat} {c d c' d' : Nat} (r : Rnd f c d) (s : Rnd f c' d') : c = c' ∧ d = d' := by
  have h1 := r.le s.per
  have h2 := s.le r.per
  omega
/-- where what comes round stands again -/
theorem at_around {f : Nat → Nat} {b l : Nat} (h : Per f b l) (i : Nat) : AtL ((seg f b l ++ seg f b l).drop 1) (seg f b l) i ↔ i < l ∧ Per f b (i + 1) := by
  have hl := h.1
  have e1 : seg f b l ++ seg f b l = seg f b (1 + (2 * l - 1)) := by
    rw [show 1 + (2 * l - 1) = l + l by omega, ← seg_add]
    congr 1
    exact seg_eq.mpr fun j hj => by rw [show b + l + j = b + j + l by omega, h.2 _ (by omega)]
  rw [e1, seg_drop]
  unfold AtL
  rw [seg_len, seg_len]
  constructor
  · rintro ⟨h1, h2⟩
    rw [seg_dropL (by omega), seg_takeL (by omega)] at h2
    refine ⟨by omega, Per.ex h (Nat.succ_pos _) fun j hj => ?_⟩
    rw [show b + j + (i + 1) = b + 1 + i + j by omega]
    exact seg_eq.mp h2 j hj
  · rintro ⟨h1, h2⟩
    refine ⟨by omega, ?_⟩
    rw [seg_dropL (by omega), seg_takeL (by omega)]
    exact seg_eq.mpr fun j hj => by rw [show b + 1 + i + j = b + j + (i + 1) by omega, h2.2 _ (by omega)]
/-! ### counts -/
def cw (A : Nat → Bool) (f : Nat → Nat) : Nat → Nat
  | 0 => 0
  | n + 1 => cw A f n + if A (f n) = true then 1 else 0
theorem cw_le (A : Nat → Bool) (f : Nat → Nat) : ∀ n, cw A f n ≤ n
  | 0 => Nat.le_refl _
  | n + 1 => by
    have := cw_le A f n
    show cw A f n + _ ≤ _
    split <;> omega
theorem cw_mono (A : Nat → Bool) (f : Nat → Nat) {a b : Nat} (h : a ≤ b) : cw A f a ≤ cw A f b := by
  induction h with
  | refl => exact Nat.le_refl _
  | step _ ih => exact Nat.le_trans ih (Nat.le_add_right _ _)
theorem cw_cnt (f : Nat → Nat) : ∀ n, cw (fun x => decide (x ≠ 46)) f n = cnt f n
  | 0 => rfl
  | n + 1 => by
    show cw _ f n + (if decide (f n ≠ 46) = true then 1 else 0) = cnt f n + (if f n = 46 then 0 else 1)
    rw [cw_cnt f n]
    by_cases c : f n = 46
    · simp [c]
    · simp [c]
theorem cw_congr {A : Nat → Bool} {f g : Nat → Nat} : ∀ {n : Nat}, (∀ i, i < n → f i = g i) → cw A f n = cw A g n
  | 0, _ => rfl
  | n + 1, h => by
    show cw A f n + _ = cw A g n + _
    rw [cw_congr (n := n) fun i hi => h i (by omega), h n (by omega)]
theorem cw_shift (A : Nat → Bool) (f : Nat → Nat) (a : Nat) : ∀ n, cw A f (a + n) = cw A f a + cw A (fun i => f (a + i)) n
  | 0 => rfl
  | n + 1 => by
    show cw A f (a + n) + _ = cw A f a + (cw A (fun i => f (a + i)) n + _)
    rw [cw_shift A f a n, Nat.add_assoc]
    rfl
theorem cw_rounds {A : Nat → Bool} {f : Nat → Nat} {b l : Nat} (h : Per f b l) : ∀ k r, cw A f (b + r + k * l) = cw A f (b + r) + k * (cw A f (b + l) - cw A f b) := fun k r => by
  have hm := cw_mono A f (Nat.le_add_right b l)
  have one : ∀ r, cw A f (b + r + l) = cw A f (b + r) + (cw A f (b + l) - cw A f b) := fun r => by
    have h1 := cw_shift A f b r
    have h2 := cw_shift A f (b + l) r
    rw [cw_congr (A := A) (f := fun i => f (b + l + i)) (g := fun i => f (b + i)) fun i _ => by
      show f (b + l + i) = f (b + i)
      rw [show b + l + i = b + i + l by omega, h.2 _ (by omega)]] at h2
    rw [show b + r + l = b + l + r by omega]
    omega
  induction k with
  | zero => rw [Nat.zero_mul, Nat.zero_mul]; rfl
  | succ k ih =>
    have := one (r + k * l)
    rw [Nat.succ_mul, Nat.succ_mul, show b + r + (k * l + l) = b + (r + k * l) + l by omega, this, show b + (r + k * l) = b + r + k * l by omega, ih, Nat.add_assoc]
/-- the places that have it, from a on, told from a on -/
def posn (A : Nat → Bool) (f : Nat → Nat) (a n : Nat) : List Nat := (List.range n).filter fun i => A (f (a + i))
theorem posn_succ (A : Nat → Bool) (f : Nat → Nat) (a n : Nat) : posn A f a (n + 1) = posn A f a n ++ if A (f (a + n)) = true then [n] else [] := by
  unfold posn
  rw [List.range_succ, List.filter_append]
  congr 1
  by_cases c : A (f (a + n)) = true
  · simp [c]
  · simp [c]
theorem posn_len (A : Nat → Bool) (f : Nat → Nat) (a : Nat) : ∀ n, cw A f a + (posn A f a n).length = cw A f (a + n)
  | 0 => rfl
  | n + 1 => by
    have ih := posn_len A f a n
    rw [posn_succ, List.length_append, ← Nat.add_assoc, ih]
    show _ = cw A f (a + n) + (if A (f (a + n)) = true then 1 else 0)
    by_cases c : A (f (a + n)) = true
    · rw [if_pos c, if_pos c]; rfl
    · rw [if_neg c, if_neg c]; rfl
theorem posn_get {A : Nat → Bool} {f : Nat → Nat} {a : Nat} : ∀ {n k m : Nat}, (posn A f a n)[k]? = some m → A (f (a + m)) = true ∧ cw A f (a + m) = cw A f a + k ∧ m < n
  | 0, k, m, h => by cases h
  | n + 1, k, m, h => by
    rw [posn_succ] at h
    by_cases c : k < (posn A f a n).length
    · rw [List.getElem?_append_left c] at h
      obtain ⟨h1, h2, h3⟩ := posn_get (n := n) h
      exact ⟨h1, h2, by omega⟩
    · rw [List.getElem?_append_right (by omega)] at h
      by_cases z : A (f (a + n)) = true
      · rw [if_pos z] at h
        have hk : k - (posn A f a n).length = 0 := by
          cases y : k - (posn A f a n).length with
          | zero => rfl
          | succ j => rw [y] at h; cases h
        rw [hk] at h
        cases h
        have := posn_len A f a n
        exact ⟨z, by omega, by omega⟩
      · rw [if_neg z] at h
        cases h
theorem given_filter : ∀ (n : Nat) (p : Nat → Bool) (v : Nat → V), given n p v = ((List.range n).filter p).map v
  | 0, _, _ => rfl
  | n + 1, p, v => by
    rw [List.range_succ, List.filter_append, List.map_append, ← given_filter n p v]
    cases c : p n with
    | true => rw [given_yes c]; simp [c]
    | false => rw [given_no c]; simp [c]
theorem posn_given (A : Nat → Bool) (f : Nat → Nat) (a n : Nat) : given (seg f a n).length (fun i => A ((seg f a n).getD i 0)) (fun i => V.int (i : Int)) = (posn A f a n).map fun (i : Nat) => V.int (i : Int) := by
  rw [given_filter, seg_len]
  unfold posn
  congr 1
  refine List.filter_congr fun i hi => ?_
  rw [List.getD, seg_get (List.mem_range.mp hi)]
  rfl
/-- how many ahead -/
theorem cw_far {A : Nat → Bool} {f : Nat → Nat} {c d n : Nat} (h : Per f c d) (hn : c ≤ n) : (posn A f 0 c).length + (n - c) / d * (posn A f c d).length + (posn A f c ((n - c) % d)).length = cw A f n := by
  have h0 := posn_len A f 0 c
  have h1 := posn_len A f c d
  have h2 := posn_len A f c ((n - c) % d)
  have h3 := cw_rounds (A := A) h ((n - c) / d) ((n - c) % d)
  have h4 := Nat.div_add_mod (n - c) d
  rw [Nat.mul_comm] at h4
  rw [show c + (n - c) % d + (n - c) / d * d = n by omega] at h3
  have e0 : cw A f 0 = 0 := rfl
  rw [e0, Nat.zero_add, Nat.zero_add] at h0
  rw [show cw A f (c + d) - cw A f c = (posn A f c d).length by omega] at h3
  omega
/-- the so-manieth place -/
def NthV (A : Nat → Bool) (f : Nat → Nat) (k : Nat) (z : V) : Prop := (∃ m : Nat, z = .int (m : Int) ∧ A (f m) = true ∧ cw A f m = k) ∨ (z = .non ∧ ∀ m, cw A f m ≤ k)
theorem nth_early {A : Nat → Bool} {f : Nat → Nat} {c k m : Nat} (h : (posn A f 0 c)[k]? = some m) : NthV A f k (.int (m : Int)) := by
  obtain ⟨h1, h2, _⟩ := posn_get h
  rw [Nat.zero_add] at h1 h2
  exact .inl ⟨m, rfl, h1, by rw [h2]; exact Nat.zero_add k⟩
theorem nth_none {A : Nat → Bool} {f : Nat → Nat} {c d k : Nat} (h : Per f c d) (hk : (posn A f 0 c).length ≤ k) (he : posn A f c d = []) : NthV A f k .non := by
  refine .inr ⟨rfl, fun m => ?_⟩
  have h0 := posn_len A f 0 c
  have e0 : cw A f 0 = 0 := rfl
  rw [e0, Nat.zero_add, Nat.zero_add] at h0
  by_cases z : m ≤ c
  · have := cw_mono A f z
    omega
  · have h1 := cw_far (A := A) h (Nat.le_of_lt (Nat.lt_of_not_le z))
    have h2 := posn_len A f c d
    have h3 := posn_len A f c ((m - c) % d)
    have h4 := cw_mono A f (show c + (m - c) % d ≤ c + d by have := Nat.mod_lt (m - c) h.1; omega)
    rw [he] at h1 h2
    rw [List.length_nil, Nat.mul_zero] at h1
    rw [List.length_nil] at h2
    omega
theorem nth_late {A : Nat → Bool} {f : Nat → Nat} {c d k m : Nat} (h : Per f c d) (hk : (posn A f 0 c).length ≤ k) (he : (posn A f c d)[(k - (posn A f 0 c).length) % (posn A f c d).length]? = some m) :
    NthV A f k (.int ((c + (k - (posn A f 0 c).length) / (posn A f c d).length * d + m : Nat) : Int)) := by
  obtain ⟨h1, h2, h3⟩ := posn_get he
  have h0 := posn_len A f 0 c
  have e0 : cw A f 0 = 0 := rfl
  rw [e0, Nat.zero_add, Nat.zero_add] at h0
  obtain ⟨q, hq⟩ : ∃ q, q = (k - (posn A f 0 c).length) / (posn A f c d).length := ⟨_, rfl⟩
  have h4 := Nat.div_add_mod (k - (posn A f 0 c).length) (posn A f c d).length
  have h5 := cw_rounds (A := A) h q m
  have h6 := posn_len A f c d
  have h7 := h.mul q (c + m) (by omega)
  rw [← hq] at h4 ⊢
  rw [Nat.mul_comm] at h4
  rw [show cw A f (c + d) - cw A f c = (posn A f c d).length by omega] at h5
  rw [show c + q * d + m = c + m + q * d by omega]
  refine .inl ⟨_, rfl, by rw [h7]; exact h1, ?_⟩
  rw [h5, h2]
  omega
theorem NthV.uniq {A : Nat → Bool} {f : Nat → Nat} {k : Nat} {y z : V} (hy : NthV A f k y) (hz : NthV A f k z) : y = z := by
  have no : ∀ {m n : Nat}, A (f m) = true → cw A f m = k → m < n → cw A f n = k → False := fun {m n} h1 h2 h3 h4 => by
    have h5 : cw A f (m + 1) = cw A f m + 1 := by
      show cw A f m + (if A (f m) = true then 1 else 0) = _
      rw [if_pos h1]
    have h6 := cw_mono A f (show m + 1 ≤ n from h3)
    omega
  rcases hy with ⟨m, rfl, h1, h2⟩ | ⟨rfl, h1⟩
  · rcases hz with ⟨n, rfl, g1, g2⟩ | ⟨rfl, g1⟩
    · rcases Nat.lt_trichotomy m n with c | c | c
      · exact (no h1 h2 c g2).elim
      · rw [c]
      · exact (no g1 g2 c h2).elim
    · have := g1 (m + 1)
      have h5 : cw A f (m + 1) = cw A f m + 1 := by
        show cw A f m + (if A (f m) = true then 1 else 0) = _
        rw [if_pos h1]
      omega
  · rcases hz with ⟨n, rfl, g1, g2⟩ | ⟨rfl, g1⟩
    · have := h1 (n + 1)
      have h5 : cw A f (n + 1) = cw A f n + 1 := by
        show cw A f n + (if A (f n) = true then 1 else 0) = _
        rw [if_pos g1]
      omega
    · rfl
/-! ### letters, or any mark -/
def ltV : Option Nat → V
  | none => .non
  | some c => T [c]
def ltA : Option Nat → Nat → Bool
  | none, x => decide (x ≠ 46)
  | some c, x => decide (x = c)
/-! ### xs == [] -/
def rEqNil : R2 := fun x y H Q => ∃ a b xs, x = .ref a ∧ y = .ref b ∧ H a = some (.lst xs) ∧ H b = some (.lst []) ∧ Q (.bl (decide (xs = []))) H
theorem op_eqNil {X : Cx} (hu : X.A.units < cLine) : OpR X (compareOp .Eq) rEqNil := by
  intro pins s σ H x y v u Q I rx ry h
  obtain ⟨a, b, xs, rfl, rfl, ha, hb, q⟩ := h
  cases rx
  cases ry
  obtain ⟨_, its, n, r, hl, e⟩ := I.lstM ha
  obtain ⟨_, its2, n2, r2, hl2, e2⟩ := I.lstM hb
  have hz2 : its2 = [] := List.eq_nil_of_length_eq_zero (by rw [← hl2]; rfl)
  subst hz2
  have L1 : s.heap.IsList a its.toArray := ⟨_, e, rfl, n, rfl⟩
  have L2' : s.heap.IsList b ([] : List Value).toArray := ⟨_, e2, rfl, n2, rfl⟩
  by_cases hx : xs = []
  · subst hx
    have hz : its = [] := List.eq_nil_of_length_eq_zero (by rw [← hl]; rfl)
    subst hz
    exact SeqAt.RcAt.lists (e := fun _ => true) L1 L2' rfl hu (fun j h1 _ => absurd h1 (Nat.not_lt_zero _)) X.prog X.w X.xe _ ⟨.bl true, H, I, rfl, q⟩
  · have hne : (its.toArray.size != ([] : List Value).toArray.size) = true := by
      have : its.length ≠ 0 := fun z => hx (List.eq_nil_of_length_eq_zero (by rw [hl]; exact z))
      simpa using this
    rw [decide_eq_false hx] at q
    exact SeqAt.RcAt.lists_lengths L1 L2' hne hu X.prog X.w X.xe _ ⟨.bl false, H, I, rfl, q⟩
end RPL

/-! The last sign of a text; tuples compared; dicts as they are written. -/
namespace RPT
open PySem PySem.Spec PyProof.Rows L2 Evl TL RC RD RE RG RP RR RT RU RV RX RK RPL
/-! ### text[-1] -/
def rIxM : R2 := fun x y H Q => ∃ l i c, x = T l ∧ y = .int i ∧ l.length ≤ 16777216 ∧ atI l i = some c ∧ Q (T [c]) H
theorem ix_M {X : Cx} : IxR X rIxM := by
  intro ve sl pins s σ H x y v u Q I rx ry h
  obtain ⟨l, i, c, hx, hy, hl, a, q⟩ := h
  exact ix_str ve sl pins s σ H x y v u Q I rx ry ⟨S l, i, c, hx, hy, by rw [S_len, big]; exact hl, a, q⟩
section
variable {K : PySem.W.Frag} {σ : L2.St} {H : Hp} {te ta tb : TE} {l : List Nat} {c : Nat}
theorem ev_lastC (ha : Ev ta σ H (T (l ++ [c]))) (hb : Ev tb σ H (.int (-1))) (hl : l.length < 16777216) : Ev (tOp rIxM ta tb) σ H (T [c]) :=
  ev_op ha hb fun H1 _ Q q => ⟨_, _, c, rfl, rfl, by rw [List.length_append, List.length_singleton]; omega, L2.atI_last l c, q H1 (Ex.refl H1)⟩
theorem cutS_init (l : List Nat) (c : Nat) : cutS (S (l ++ [c])) none (some (-1)) = S l := by
  have h1 : HT.sIx (l ++ [c]).length (l ++ [c]).length (some (-1)) = l.length := by
    unfold HT.sIx
    simp
    omega
  rw [cutS_eq, HT.sIx_none, h1]
  simp
theorem cutS_dropA (l : List Nat) (a : Nat) : cutS (S l) (some (a : Int)) none = S (l.drop a) := by
  by_cases h : a ≤ l.length
  · exact RTU.cutS_drop l h
  · rw [cutS_eq, HT.sIx_nat, Nat.min_eq_right (by omega)]
    show S (List.take (l.length - l.length) (l.drop l.length)) = _
    rw [List.drop_eq_nil_of_le (by omega : l.length ≤ a)]
    simp
/-- x.join(e), in a comprehension -/
theorem pe_joinK {Y : Cx} {K : PySem.W.Frag} {o e : Expr} {to te : TE} {apos pos : Pos} (hK : Y.K = K) (ho : PE Y o to) (he : PE Y e te) (hs : starEach [e] Y.env = [(false, eval e Y.env)] := by rfl) (hbase : attributeBase o "join" Y.env (eval o Y.env) = eval o Y.env := by rfl) (hline : (apos.endLine == pos.line) = true := by rfl) :
    PE Y (.Call (.Attribute o "join" apos) [e] [] pos) (tM1 (rJoin K) to te) := by
  subst hK
  exact pe_join ho he hs hbase hline
/-! ### tuples compared -/
def Tt (xs : List V) : V → Hp → Prop := fun v H' => ∃ p, v = .ref p ∧ H' p = some (.tup xs)
theorem Tt.ex {xs : List V} {v : V} {H H' : Hp} (e : Ex H H') (h : Tt xs v H) : Tt xs v H' := h.elim fun p h => ⟨p, h.1, e _ _ h.2⟩
theorem tt_eu {xs : List V} (h : EvU te σ H xs) : EvP te σ H (Tt xs) := fun H1 e Q q => h H1 e _ fun t H2 _ e2 h2 => q _ H2 e2 ⟨t, rfl, h2⟩
theorem tt_var {xs : List V} {p : Addr} (h : Ev te σ H (.ref p)) (hp : H p = some (.tup xs)) : EvP te σ H (Tt xs) := fun H1 e Q q => h H1 e _ fun H2 e2 => q _ H2 e2 ⟨p, rfl, e2 _ _ (e _ _ hp)⟩
theorem ev_opPP {r : R2} {z : V} {P1 P2 : V → Hp → Prop} (ha : EvP ta σ H P1) (m : ∀ v H1 H2, Ex H1 H2 → P1 v H1 → P1 v H2) (hb : EvP tb σ H P2) (hr : ∀ x y H1, P1 x H1 → P2 y H1 → RV r x y H1 z) : Ev (tOp r ta tb) σ H z := fun H1 e Q q =>
  ha H1 e _ fun x H2 e2 hx => hb H2 (e.trans e2) _ fun y H3 e3 hy => hr x y H3 (m _ _ _ e3 hx) hy H3 (Ex.refl H3) Q fun H4 e4 => q H4 ((e2.trans e3).trans e4)
theorem rv_neTT {p q : Addr} {a b c d : List Nat} (hp : SqT K H p [T a, T b]) (hq : SqT K H q [T c, T d]) (ha : ∀ x ∈ a, x < 1114112) (hb : ∀ x ∈ b, x < 1114112) (hc : ∀ x ∈ c, x < 1114112) (hd : ∀ x ∈ d, x < 1114112) :
    RV (rNeD K) (.ref p) (.ref q) H (.bl (!decide (a = c ∧ b = d))) := fun H1 e Q q' =>
  ⟨.tuple [.str (S a), .str (S b)], .tuple [.str (S c), .str (S d)], .tup (ex_t e hp) (.cons (.str _) (.cons (.str _) .nil)), .tup (ex_t e hq) (.cons (.str _) (.cons (.str _) .nil)),
    by simp [SeqAt.shaped, PyData.canLay0, PyData.canLayAll0, PyData.depth, PyData.depthAll, strOk_S ha, strOk_S hb], by simp [SeqAt.shaped, PyData.canLay0, PyData.canLayAll0, PyData.depth, PyData.depthAll, strOk_S hc, strOk_S hd], by
    have e2 : PyData.eqv (.tuple [.str (S a), .str (S b)]) (.tuple [.str (S c), .str (S d)]) = decide (a = c ∧ b = d) := by
      simp only [PyData.eqv, PyData.eqvAll]
      by_cases h1 : a = c <;> by_cases h2 : b = d <;> simp [h1, h2, S_inj]
    rw [e2]
    exact q' H1 (Ex.refl H1)⟩
theorem ev_neTT {a b c d : List Nat} (h1 : EvP ta σ H (Tt [T a, T b])) (h2 : EvP tb σ H (Tt [T c, T d])) (ha : ∀ x ∈ a, x < 1114112) (hb : ∀ x ∈ b, x < 1114112) (hc : ∀ x ∈ c, x < 1114112) (hd : ∀ x ∈ d, x < 1114112) : Ev (tOp (rNeD K) ta tb) σ H (.bl (!decide (a = c ∧ b = d))) :=
  ev_opPP h1 (fun _ _ _ e h => h.ex e) h2 fun x y H1 ⟨p, hx, hp⟩ ⟨q, hy, hq⟩ => by
    subst hx hy
    exact rv_neTT (SqT.of hp) (SqT.of hq) ha hb hc hd
theorem ev_neII {i j k l : Int} (h1 : EvP ta σ H (Tt [.int i, .int j])) (h2 : EvP tb σ H (Tt [.int k, .int l])) : Ev (tOp (rNeD K) ta tb) σ H (.bl (!decide (i = k ∧ j = l))) :=
  ev_opPP h1 (fun _ _ _ e h => h.ex e) h2 fun x y H1 ⟨p, hx, hp⟩ ⟨q, hy, hq⟩ => by
    subst hx hy
    exact rv_neP (SqT.of hp) (SqT.of hq)
/-! ### {a: b, c: d}.get(x, x) -/
theorem merge2 {a b c d : Nat} (h : a ≠ c) : mergeK [] (dyesK [(a, b), (c, d)]) = dyesK [(a, b), (c, d)] := by
  show putK (putK [] (Sum.inr (S [a])) (T [b])) (Sum.inr (S [c])) (T [d]) = _
  rw [putK_new (kvs := []) (by simp), putK_new]
  · rfl
  · intro z
    simp only [List.nil_append, List.map_cons, List.map_nil, List.mem_singleton] at z
    have z2 : S [c] = S [a] := Sum.inr.inj z
    have := S_inj.mp z2
    exact h (by cases this; rfl)
theorem ev_dispDye {a b c d x : Nat} {z1 z2 z3 z4 : Str} {tk tx : TE} (h : a ≠ c) (h1 : z1 = S [a]) (h2 : z2 = S [b]) (h3 : z3 = S [c]) (h4 : z4 = S [d]) (hk : Ev tk σ H (T [x])) (hx : Ev tx σ H (T [x])) :
    Ev (tDGet2 (tDisp [(tC (.str z1), tC (.str z2)), (tC (.str z3), tC (.str z4))]) tk tx) σ H (T [dye [(a, b), (c, d)] x]) := fun H1 e Q q p hp => by
  subst h1 h2 h3 h4
  refine ⟨upd_same, dyesK [(a, b), (c, d)], rfl, by show 2 ≤ 15; decide, ?_⟩
  rw [merge2 h]
  have e1 : Ex H1 (upd (upd H1 p (.dK [])) p (.dK (dyesK [(a, b), (c, d)]))) := (Ex.new hp).mut hp
  exact (ev_dye (ds := [(a, b), (c, d)]) (dd := p) ev_c upd_same (hk.mono (e.trans e1)) (hx.mono (e.trans e1))) _ (Ex.refl _) Q fun H2 e2 => q H2 (e1.trans e2)
end
end RPT

/-! Lists of ints, of None, compared. -/
namespace RPI
open PySem PySem.Spec PyProof.Rows L2 Evl TL RC RD RE
variable {K : PySem.W.Frag} {H : Hp}
theorem dpAll_ints : ∀ xs : List Int, DpAll K H (xs.map V.int) (xs.map PyData.int)
  | [] => .nil
  | x :: r => .cons (.int x) (dpAll_ints r)
theorem canLay_ints : ∀ xs : List Int, PyData.canLayAll0 (xs.map PyData.int) = true
  | [] => rfl
  | x :: r => by simp [PyData.canLayAll0, PyData.canLay0, canLay_ints r]
theorem depth_ints : ∀ xs : List Int, PyData.depthAll (xs.map PyData.int) ≤ 1
  | [] => by simp [PyData.depthAll]
  | x :: r => by
    have := depth_ints r
    simp [PyData.depthAll, PyData.depth]
    omega
theorem shaped_ints (xs : List Int) : SeqAt.shaped (.list (xs.map PyData.int)) = true := by
  unfold SeqAt.shaped
  rw [Bool.and_eq_true]
  refine ⟨by simp [PyData.canLay0, canLay_ints xs], decide_eq_true ?_⟩
  have := depth_ints xs
  simp [PyData.depth]
  omega
theorem eqv_ints : ∀ xs ys : List Int, PyData.eqvAll (xs.map PyData.int) (ys.map PyData.int) = decide (xs = ys)
  | [], [] => by simp [PyData.eqvAll]
  | [], _ :: _ => by simp [PyData.eqvAll]
  | _ :: _, [] => by simp [PyData.eqvAll]
  | x :: r, y :: t => by
    simp only [List.map_cons, PyData.eqvAll, PyData.eqv, eqv_ints r t, List.cons.injEq]
    by_cases e : x = y <;> simp [e]
theorem rv_eqDI {p q : Addr} {xs ys : List Int} (hp : SqL K H p (xs.map V.int)) (hq : SqL K H q (ys.map V.int)) : RV (rEqD K) (.ref p) (.ref q) H (.bl (decide (xs = ys))) := fun H1 e Q k =>
  ⟨_, _, .lst (ex_l e hp) (dpAll_ints xs), .lst (ex_l e hq) (dpAll_ints ys), shaped_ints xs, shaped_ints ys, by
    have e2 : PyData.eqv (.list (xs.map PyData.int)) (.list (ys.map PyData.int)) = decide (xs = ys) := by
      rw [PyData.eqv]
      exact eqv_ints xs ys
    rw [e2]
    exact k H1 (Ex.refl H1)⟩
theorem rv_neDI {p q : Addr} {xs ys : List Int} (hp : SqL K H p (xs.map V.int)) (hq : SqL K H q (ys.map V.int)) : RV (rNeD K) (.ref p) (.ref q) H (.bl (!decide (xs = ys))) := fun H1 e Q k =>
  ⟨_, _, .lst (ex_l e hp) (dpAll_ints xs), .lst (ex_l e hq) (dpAll_ints ys), shaped_ints xs, shaped_ints ys, by
    have e2 : PyData.eqv (.list (xs.map PyData.int)) (.list (ys.map PyData.int)) = decide (xs = ys) := by
      rw [PyData.eqv]
      exact eqv_ints xs ys
    rw [e2]
    exact k H1 (Ex.refl H1)⟩
theorem rv_neNN {p q : Addr} (hp : SqL K H p [.non, .non]) (hq : SqL K H q [.non, .non]) : RV (rNeD K) (.ref p) (.ref q) H (.bl false) := fun H1 e Q k =>
  ⟨.list [.none, .none], .list [.none, .none], .lst (ex_l e hp) (.cons .non (.cons .non .nil)), .lst (ex_l e hq) (.cons .non (.cons .non .nil)),
    by simp [SeqAt.shaped, PyData.canLay0, PyData.canLayAll0, PyData.depth, PyData.depthAll], by simp [SeqAt.shaped, PyData.canLay0, PyData.canLayAll0, PyData.depth, PyData.depthAll], by
    have e2 : PyData.eqv (.list [.none, .none]) (.list [.none, .none]) = true := by simp [PyData.eqv, PyData.eqvAll]
    rw [e2]
    exact k H1 (Ex.refl H1)⟩
/-- xs == [], xs != [] -/
theorem ev_eqNil {σ : L2.St} {ta : TE} {p : Addr} {xs : List Int} (ha : Ev ta σ H (.ref p)) (hp : SqL K H p (xs.map V.int)) : Ev (tOp (rEqD K) ta (tLst tNil)) σ H (.bl (decide (xs = []))) :=
  ev_opL ha el_nil fun q H1 hq e => rv_eqDI (ys := []) (ex_l e hp) (SqL.of hq)
theorem ev_neNil {σ : L2.St} {ta : TE} {p : Addr} {xs : List Int} (ha : Ev ta σ H (.ref p)) (hp : SqL K H p (xs.map V.int)) : Ev (tOp (rNeD K) ta (tLst tNil)) σ H (.bl (!decide (xs = []))) :=
  ev_opL ha el_nil fun q H1 hq e => rv_neDI (ys := []) (ex_l e hp) (SqL.of hq)
end RPI

/-! Walks with draws out of a bag of which so many are left: what is left at the start, and at the end. -/
namespace RMB
open PySem PySem.Spec PyProof.Rows L2 Evl TL RC RD RE RG RU RM RK
/-- so many draws are left -/
def Bg (b : Addr) (k : Nat) (H : Hp) : Prop := ∃ q n, Bag H b q n ∧ n + k ≤ 2 ^ 58
theorem Bg.le {b : Addr} {k m : Nat} {H : Hp} (h : Bg b k H) (l : m ≤ k) : Bg b m H := by
  obtain ⟨q, n, h1, h2⟩ := h
  exact ⟨q, n, h1, by omega⟩
theorem bag_lst {H : Hp} {b q : Addr} {n : Nat} (h : Bag H b q n) : ∃ xs, H b = some (.lst xs) ∧ ∀ p, V.ref p ∈ xs → p = q ∧ ∃ o, H p = some o := by
  obtain ⟨ns, i, j, c, t, h1, h2, _⟩ := h
  refine ⟨_, h1, fun p hp => ?_⟩
  simp only [List.mem_cons, List.not_mem_nil, or_false, V.ref.injEq, reduceCtorEq, or_self] at hp
  subst hp
  exact ⟨rfl, _, h2⟩
theorem bagDrw (b : Addr) (k : Nat) : Drw (Bg b k) b where
  lst := fun ⟨q, n, h1, _⟩ => by
    obtain ⟨xs, g1, g2⟩ := bag_lst h1
    exact ⟨xs, g1, fun p hp => (g2 p hp).2⟩
  same := fun {H H1} ⟨q, n, h1, h2⟩ h => ⟨q, n, by
    obtain ⟨ns, i, j, c, t, g1, g2, g3⟩ := h1
    exact ⟨ns, i, j, c, t, h _ _ (.inl rfl) g1, h _ _ (.inr ⟨_, g1, by simp⟩) g2, g3⟩, h2⟩
/-- what a draw leaves -/
theorem bag_stp {b q : Addr} {n m : Nat} {H H' G : Hp} (h : Bag H b q n) (e : Ex G (Hd b H)) (x : But b H H') (h' : Bag H' b q m) : Stp b H H' G G := by
  obtain ⟨ns, i, j, c, t, g1, g2, _⟩ := h
  obtain ⟨ns', i', j', c', t', k1, k2, _⟩ := h'
  have own : ∀ {a : Addr}, ¬ owns b H a → ¬ owns b H' a := fun {a} ha ho => by
    rcases ho with z | ⟨xs, z1, z2⟩
    · exact ha (.inl z)
    · rw [k1] at z1
      cases z1
      simp only [List.mem_cons, List.not_mem_nil, or_false, V.ref.injEq, reduceCtorEq, or_self] at z2
      exact ha (.inr ⟨_, g1, by rw [z2]; simp⟩)
  have old : Ex (Hd b H) (Hd b H') := fun a o ha => by
    have hn := Hd_some ha
    rw [Hd_no hn] at ha
    rw [Hd_no (own hn)]
    exact x a o (fun z => hn (.inl z)) ha
  refine ⟨old, fun a ha => ?_, Ex.refl _, e.trans old, fun _ _ => rfl⟩
  by_cases c : a = b
  · rw [c, k1]
    exact fun z => by cases z
  · cases c2 : H a with
    | none => exact absurd c2 ha
    | some o =>
      rw [x a o c c2]
      exact fun z => by cases z
/-- a value by draws: from R to R1 -/
def EvB (R R1 : Hp → Prop) (b : Addr) (te : TE) (σ : L2.St) (G : Hp) (P : V → Hp → Prop) : Prop := ∀ H, R H → Ex G (Hd b H) → ∀ Q : VK, RetD R1 b G P H Q → te σ H Q
def EvAB (R R1 : Hp → Prop) (b : Addr) (ta : TA) (σ : L2.St) (G : Hp) (P : List V → Hp → Prop) : Prop := ∀ H, R H → Ex G (Hd b H) → ∀ Q : List V → Hp → Prop, (∀ vs H' G', R1 H' → Stp b H H' G G' → P vs G' → Q vs H') → ta σ H Q
section
variable {K : PySem.W.Frag} {R R1 R2 R3 : Hp → Prop} {b : Addr} {σ : L2.St} {H0 G0 G : Hp} {te ta tb : TE} {t : TT} {ts tz tu tw : TS} {D : Ends} {v : V} {P P1 P2 : V → Hp → Prop}
theorem eb_of (h : EvD R b te σ G P) : EvB R R b te σ G P := h
theorem eab_of {ta : TA} {P : List V → Hp → Prop} (h : EvAD R b ta σ G P) : EvAB R R b ta σ G P := h
theorem eb_imp {P' : V → Hp → Prop} (h : EvB R R1 b te σ G P) (i : ∀ v G1, Ex G G1 → P v G1 → P' v G1) : EvB R R1 b te σ G P' := fun H hR e Q q => h H hR e Q fun v H' G' r x p => q v H' G' r x (i v _ x.kn p)
theorem eb_le (h : EvB R R1 b te σ G P) (l : ∀ H, R1 H → R2 H) : EvB R R2 b te σ G P := fun H hR e Q q => h H hR e Q fun v H' G' r x p => q v H' G' (l _ r) x p
theorem eb_from (h : EvB R1 R2 b te σ G P) (l : ∀ H, R H → R1 H) : EvB R R2 b te σ G P := fun H hR e Q q => h H (l _ hR) e Q q
theorem eb_ev (Dw : Drw R b) (h : Ev te σ G v) : EvB R R b te σ G (fun v' _ => v' = v) := ed_ev Dw h
theorem eab_nil : EvAB R R b tNil σ G (fun vs _ => vs = []) := ead_nil
theorem eab_ev (Dw : Drw R b) {ta : TA} {vs : List V} (h : EvA ta σ G vs) : EvAB R R b ta σ G (fun vs' _ => vs' = vs) := ead_ev Dw h
theorem eab_cons {tr : TA} {P2 : List V → Hp → Prop} (h : EvB R R1 b te σ G P1) (m : ∀ v G1 G2, Ex G1 G2 → P1 v G1 → P1 v G2) (hr : ∀ G1, Ex G G1 → EvAB R1 R2 b tr σ G1 P2) : EvAB R R2 b (tCons te tr) σ G (fun vs G' => ∃ v r, vs = v :: r ∧ P1 v G' ∧ P2 r G') := fun H hR e Q q =>
  h H hR e _ fun v H1 G1 r1 x1 p1 => hr G1 x1.kn H1 r1 x1.sub _ fun vs H2 G2 r2 x2 p2 => q (v :: vs) H2 G2 r2 (x1.trans x2) ⟨v, vs, rfl, m v _ _ x2.kn p1, p2⟩
theorem eab_imp {ta : TA} {P P' : List V → Hp → Prop} (h : EvAB R R1 b ta σ G P) (i : ∀ v G1, Ex G G1 → P v G1 → P' v G1) : EvAB R R1 b ta σ G P' := fun H hR e Q q => h H hR e Q fun v H' G' r x p => q v H' G' r x (i v _ x.kn p)
theorem eab_two (Dw : Drw R b) {v0 : V} (ha : Ev ta σ G v0) (hb : EvB R R1 b tb σ G P) : EvAB R R1 b (tCons ta (tCons tb tNil)) σ G (fun vs G2 => ∃ v, vs = [v0, v] ∧ P v G2) := fun H hR e Q q =>
  ha H (e.trans (Hd_sub b H)) _ fun H1 e1 => hb H1 (Dw.ex hR e1).1 (e.trans (Dw.ex hR e1).2) _ fun v H2 G2 r2 x2 p2 => q _ H2 G2 r2 ((Dw.stp hR e e1).2.trans x2) ⟨v, rfl, p2⟩
theorem q_asgB {i : Nat} (h : EvB R R1 b te σ G P) (k : ∀ v G1, Ex G G1 → P v G1 → StD R1 b H0 G0 tz D (σ.set i (some v)) G1) : StD R b H0 G0 (tSeq (tAsg te (gName i)) tz) D σ G := fun H hR s =>
  h H hR s.sub _ fun v H1 G1 r1 x1 p1 => k v G1 x1.kn p1 H1 r1 (s.trans x1)
theorem s_asgB {i : Nat} (h : EvB R R1 b te σ G P) (k : ∀ v G1, Ex G G1 → P v G1 → ∀ H, R1 H → Stp b H0 H G0 G1 → D.nx (σ.set i (some v)) H) : StD R b H0 G0 (tAsg te (gName i)) D σ G := fun H hR s =>
  h H hR s.sub _ fun v H1 G1 r1 x1 p1 => k v G1 x1.kn p1 H1 r1 (s.trans x1)
theorem s_retB (h : EvB R R1 b te σ G P) (k : ∀ v H G1, R1 H → Stp b H0 H G0 G1 → Ex G G1 → P v G1 → D.rt v H) : StD R b H0 G0 (tRet te) D σ G := fun H hR s => h H hR s.sub _ fun v H1 G1 r1 x1 p1 => k v H1 G1 r1 (s.trans x1) x1.kn p1
/-- less is left -/
theorem sd_le (h : StD R1 b H0 G0 ts D σ G) (l : ∀ H, R H → R1 H) : StD R b H0 G0 ts D σ G := fun H hR s => h H (l _ hR) s
theorem sb_end {i : Nat} {Pv : L2.St → Hp → Prop} (h : EvB R R1 b te σ G P) (hD : D.nx = Kn R2 b H0 G0 Pv) (l : ∀ H, R1 H → R2 H) (k : ∀ v G1, Ex G G1 → P v G1 → Pv (σ.set i (some v)) G1) : StD R b H0 G0 (tAsg te (gName i)) D σ G := s_asgB h fun v G1 e p H r s => by
  rw [hD]
  exact ⟨G1, l _ r, s, k v G1 e p⟩
/-- an if at the end: no draw in the test; less left at the end -/
theorem sb_ifN (Dw : Drw R b) {Pv : L2.St → Hp → Prop} {c : Bool} (hD : D.nx = Kn R2 b H0 G0 Pv) (l : ∀ H, R H → R2 H) (h : EvT t σ G c) (h1 : c = true → StD R b H0 G0 tu D σ G) (h2 : c = false → Pv σ G) : StD R b H0 G0 (tIfS t tu tNext) D σ G := fun H hR s =>
  s_when (h.mono (s.sub.trans (Hd_sub b H))) (fun hc H1 e1 => h1 hc H1 (Dw.ex hR e1).1 (s.trans (Dw.stp hR s.sub e1).2)) (fun hc H1 e1 => by
    rw [hD]
    exact ⟨G, l _ (Dw.ex hR e1).1, s.trans (Dw.stp hR s.sub e1).2, h2 hc⟩)
/-- a test that draws -/
theorem sb_whenD (h : EvB R R1 b te σ G (fun v _ => ∃ c : Bool, v = .bl c)) (h1 : ∀ G1, Ex G G1 → StD R1 b H0 G0 tu { D with nx := tz D } σ G1) (h2 : ∀ G1, Ex G G1 → StD R1 b H0 G0 tz D σ G1) : StD R b H0 G0 (tSeq (tIfS (tTest te) tu tNext) tz) D σ G := fun H hR s =>
  h H hR s.sub _ fun v H1 G1 r1 x1 ⟨c, hc⟩ => ⟨c, hc, by
    cases c with
    | true => exact h1 G1 x1.kn H1 r1 (s.trans x1)
    | false => exact h2 G1 x1.kn H1 r1 (s.trans x1)⟩
theorem sb_cut {Pm : L2.St → Hp → Prop} (h : StD R b H0 G0 tu { D with nx := Kn R1 b H0 G0 Pm } σ G) (k : ∀ σ' G', Pm σ' G' → StD R1 b H0 G0 tz D σ' G') : StD R b H0 G0 (tCut tu tz) D σ G := fun H hR s =>
  q_cut (M := Kn R1 b H0 G0 Pm) (h H hR s) fun σ' H' hM => by
    obtain ⟨G', r', s', p'⟩ := hM
    exact k σ' G' p' H' r' s'
/-- for over a range: at each turn so many draws less -/
theorem sb_forR1 {ta : TA} {j n c k : Nat} (h : EvAB R (Bg b (k + n * c)) b ta σ G (fun vs _ => vs = [.int (n : Int)])) (hn : n ≤ 100000) (Pv : Nat → L2.St → Hp → Prop) (h0 : ∀ G1, Ex G G1 → Pv 0 σ G1)
    (hs : ∀ (i m : Nat) σ' G', i < n → Pv i σ' G' → StD (Bg b (m + c)) b H0 G0 tu { D with nx := Kn (Bg b m) b H0 G0 (Pv (i + 1)), ct := Kn (Bg b m) b H0 G0 (Pv (i + 1)), bk := tz D } (σ'.set j (some (.int (i : Int)))) G')
    (hd : ∀ σ' G', Pv n σ' G' → StD (Bg b k) b H0 G0 tz D σ' G') : StD R b H0 G0 (tSeq (tFor (iRng1 ta) (gName j) tu) tz) D σ G := fun H hR s =>
  h H hR s.sub _ fun vs H1 G1 r1 x1 hv => ⟨(n : Int), hv, by omega, by omega, by
    rw [show ((n : Int)).toNat = n by omega]
    refine for_range (lo := 0) (n := n) (fun i => Kn (Bg b (k + (n - i) * c)) b H0 G0 (Pv i)) ⟨G1, r1, s.trans x1, h0 G1 x1.kn⟩ (fun i σ' H' hi p => ?_) fun σ' H' p => ?_
    · have e0 : (0 : Int) + (i : Int) = (i : Int) := Int.zero_add _
      rw [e0]
      obtain ⟨G', r', s', p'⟩ := p
      have ei : k + (n - i) * c = k + (n - (i + 1)) * c + c := by
        obtain ⟨d, hd⟩ : ∃ d, n - i = d + 1 := ⟨n - i - 1, by omega⟩
        rw [hd, show n - (i + 1) = d by omega, Nat.add_mul, Nat.one_mul, Nat.add_assoc]
      rw [ei] at r'
      exact hs i _ σ' G' hi p' H' r' s'
    · obtain ⟨G', r', s', p'⟩ := p
      rw [Nat.sub_self, Nat.zero_mul, Nat.add_zero] at r'
      exact hd σ' G' p' H' r' s'⟩
/-- x op y -/
theorem eb_op {r : L2.R2} (ha : EvB R R1 b ta σ G P1) (m : ∀ v G1 G2, Ex G1 G2 → P1 v G1 → P1 v G2) (hb : ∀ G1, Ex G G1 → EvB R1 R2 b tb σ G1 P2)
    (hr : ∀ x y H G1, R2 H → Ex G G1 → Ex G1 (Hd b H) → P1 x G1 → P2 y G1 → ∀ Q : VK, RetD R2 b G1 P H Q → r x y H Q) : EvB R R2 b (tOp r ta tb) σ G P := fun H hR e Q q =>
  ha H hR e _ fun x H1 G1 r1 x1 p1 => hb _ x1.kn H1 r1 x1.sub _ fun y H2 G2 r2 x2 p2 => hr x y H2 G2 r2 (x1.trans x2).kn x2.sub (m x _ _ x2.kn p1) p2 _ fun v H3 G3 r3 x3 p3 => q v H3 G3 r3 ((x1.trans x2).trans x3) p3
theorem eb_I0 {g : Int → Int → V} {A B : Int → Prop} (ha : EvB R R1 b ta σ G (fun v _ => ∃ i, v = .int i ∧ A i)) (hb : ∀ G1, Ex G G1 → EvB R1 R2 b tb σ G1 (fun v _ => ∃ j, v = .int j ∧ B j)) (hp : ∀ i j G1, A i → B j → P (g i j) G1) :
    EvB R R2 b (tOp (rI0 g) ta tb) σ G P := eb_op ha (fun _ _ _ _ h => h) hb fun x y H G1 hR e e1 ⟨i, ei, ai⟩ ⟨j, ej, bj⟩ Q q => ⟨i, j, ei, ej, q _ H G1 hR (Stp.refl e1) (hp i j _ ai bj)⟩
/-- xs[i] -/
theorem eb_ixL {xs : List V} (Dw : Drw R b) (ha : EvL ta σ G xs) (hb : ∀ G1, Ex G G1 → EvB R R1 b tb σ G1 (fun v _ => ∃ i : Int, v = .int i ∧ 0 ≤ i ∧ i < xs.length)) : EvB R R1 b (tOp (rIxL K) ta tb) σ G (fun v _ => v ∈ xs) :=
  eb_op (ed_el Dw ha) (fun v G1 G2 e ⟨p, h1, h2⟩ => ⟨p, h1, e _ _ h2⟩) hb fun x y H G1 hR e e1 ⟨p, h1, h2⟩ ⟨i, h3, h4, h5⟩ Q q => by
    subst h1 h3
    obtain ⟨z, hz⟩ : ∃ z, xs[i.toNat]? = some z := ⟨_, List.getElem?_eq_getElem (by omega)⟩
    exact ⟨p, xs, i, z, rfl, rfl, SqL.of (Hd_sub b H _ _ (e1 _ _ h2)), at_of (j := i.toNat) (by omega) hz, q z H G1 hR (Stp.refl e1) (List.mem_of_getElem? hz)⟩
/-- a sign of a text -/
theorem eb_ixC {a : List Nat} (Dw : Drw R b) (ha : Ev ta σ G (T a)) (hl : a.length ≤ 16777216) (hb : ∀ G1, Ex G G1 → EvB R R1 b tb σ G1 (fun v _ => ∃ i : Int, v = .int i ∧ 0 ≤ i ∧ i < a.length)) : EvB R R1 b (tOp rIxC ta tb) σ G (fun v _ => ∃ c, v = T [c] ∧ c ∈ a) :=
  eb_op (ed_ev Dw ha) (fun v G1 G2 e h => h) hb fun x y H G1 hR e e1 h1 ⟨i, h3, h4, h5⟩ Q q => by
    subst h1 h3
    exact ⟨a, i, rfl, rfl, hl, h4, h5, q _ H G1 hR (Stp.refl e1) ⟨_, rfl, getD_mem (by omega)⟩⟩
/-- (a, b, ..) -/
theorem eb_tup (Dw : Drw R1 b) {tr : TA} {P2 : List V → Hp → Prop} (m : ∀ vs G1 G2, Ex G1 G2 → P2 vs G1 → P2 vs G2) (hl : ∀ vs G1, P2 vs G1 → vs.length ≤ 100) (h : EvAB R R1 b tr σ G P2) : EvB R R1 b (tTup tr) σ G (fun v G' => ∃ p xs, v = .ref p ∧ G' p = some (.tup xs) ∧ P2 xs G') := fun H hR e Q q =>
  h H hR e _ fun vs H1 G1 r1 x1 p1 => ⟨by rw [big]; have := hl vs _ p1; omega, fun p hp => by
    obtain ⟨p2, p3⟩ := Dw.stpNew (o := .tup vs) r1 x1.sub hp
    exact q _ _ _ p2 (x1.trans p3) ⟨p, vs, rfl, upd_same, m vs _ _ p3.kn p1⟩⟩
/-- [a, b, ..] -/
theorem eb_lst (Dw : Drw R1 b) {tr : TA} {P2 : List V → Hp → Prop} (m : ∀ vs G1 G2, Ex G1 G2 → P2 vs G1 → P2 vs G2) (hl : ∀ vs G1, P2 vs G1 → vs.length ≤ 100) (h : EvAB R R1 b tr σ G P2) : EvB R R1 b (tLst tr) σ G (fun v G' => ∃ p xs, v = .ref p ∧ G' p = some (.lst xs) ∧ P2 xs G') := fun H hR e Q q =>
  h H hR e _ fun vs H1 G1 r1 x1 p1 => ⟨by rw [big]; have := hl vs _ p1; omega, fun p hp => by
    obtain ⟨p2, p3⟩ := Dw.stpNew (o := .lst vs) r1 x1.sub hp
    exact q _ _ _ p2 (x1.trans p3) ⟨p, vs, rfl, upd_same, m vs _ _ p3.kn p1⟩⟩
theorem eb_call {sp : Sp} {dvs : List V} {E : XK} {ta : TA} {P2 : List V → Hp → Prop} (h : EvAB R R1 b ta σ G P2) (hs : ∀ vs H1 G1, R1 H1 → Ex G1 (Hd b H1) → Ex G G1 → P2 vs G1 → ∀ Q : VK, RetD R2 b G1 P H1 Q → ∀ E : XK, sp (vs ++ dvs) H1 Q E) : EvB R R2 b (tCall sp dvs E ta) σ G P := fun H hR e Q q =>
  h H hR e _ fun vs H1 G1 r1 x1 p1 => hs vs H1 G1 r1 x1.sub x1.kn p1 Q (fun v H2 G2 r2 x2 p2 => q v H2 G2 r2 (x1.trans x2) p2) E
/-- a call of known values -/
theorem eb_callV (Dw : Drw R b) {sp : Sp} {dvs vs : List V} {E : XK} {ta : TA} (h : EvA ta σ G vs) (hs : ∀ H1, R H1 → Ex G (Hd b H1) → ∀ Q : VK, RetD R1 b G P H1 Q → ∀ E : XK, sp (vs ++ dvs) H1 Q E) : EvB R R1 b (tCall sp dvs E ta) σ G P := fun H hR e Q q =>
  h H (e.trans (Hd_sub b H)) _ fun H1 e1 => hs H1 (Dw.ex hR e1).1 (e.trans (Dw.ex hR e1).2) Q (fun v H2 G2 r2 x2 p2 => q v H2 G2 r2 ((Dw.stp hR e e1).2.trans x2) p2) E
/-- one or the other, by a test that does not draw -/
theorem eb_ifV (Dw : Drw R b) {c : Bool} (h : EvT t σ G c) (h1 : c = true → EvB R R1 b ta σ G P) (h2 : c = false → EvB R R1 b tb σ G P) : EvB R R1 b (tIf t ta tb) σ G P := fun H hR e Q q =>
  h H (e.trans (Hd_sub b H)) _ fun H1 e1 => by
    obtain ⟨r1, x1⟩ := Dw.stp hR e e1
    cases c with
    | true => exact h1 rfl H1 r1 x1.sub _ fun v H2 G2 r2 x2 p2 => q v H2 G2 r2 (x1.trans x2) p2
    | false => exact h2 rfl H1 r1 x1.sub _ fun v H2 G2 r2 x2 p2 => q v H2 G2 r2 (x1.trans x2) p2
/-- tuple(list): a plain tuple -/
theorem eb_tupF (Dw : Drw R1 b) {P2 : List V → Hp → Prop} (m : ∀ vs G1 G2, Ex G1 G2 → P2 vs G1 → P2 vs G2) (h : EvB R R1 b te σ G (fun v G' => ∃ p xs, v = .ref p ∧ G' p = some (.lst xs) ∧ P2 xs G')) : EvB R R1 b (tThen te (RDI.kTupF K)) σ G (fun v G' => ∃ p xs, v = .ref p ∧ RDI.PlT G' p xs ∧ P2 xs G') := fun H hR e Q q =>
  h H hR e _ fun v H1 G1 r1 x1 ⟨p, xs, h1, h2, h3⟩ => ⟨p, xs, h1, SqL.of (Hd_sub b H1 _ _ (x1.sub _ _ h2)), fun t o ht ho => by
    obtain ⟨r2, x2⟩ := Dw.stpNew (o := .frz o (.tup xs)) r1 x1.sub ht
    exact q _ _ _ r2 (x1.trans x2) ⟨t, xs, rfl, ⟨o, ho, upd_same⟩, m xs _ _ x2.kn h3⟩⟩
/-- what it keeps, where it draws -/
theorem lcb_step {n c : Nat} {H1 H' G1 G' : Hp} {Dl : Addr} {xs : List V} {tel : TE} {σ2 : L2.St} {Gd : V → Hp → Prop} {Pn : Hp → Prop} (hz : xs.length < 100000) (hD : H1 Dl = none) (r : Bg b (n + c) H') (s : Stp b H1 H' G1 G') (gD : G' Dl = none) (h3 : Hd b H' Dl = some (.lst xs))
    (h : EvB (Bg b (n + c)) (Bg b n) b tel σ2 G' Gd) (k : ∀ v H4 G4, Bg b n H4 → Stp b H1 H4 G1 G4 → Ex G' G4 → G4 Dl = none → Hd b H4 Dl = some (.lst (xs ++ [v])) → Gd v G4 → Pn H4) :
    tel σ2 H' fun y H4 => ∃ acc, H4 Dl = some (.lst acc) ∧ acc.length < sizeLine ∧ Pn (upd H4 Dl (.lst (acc ++ [y]))) :=
  h H' r s.sub _ fun v H2 G2 r2 x2 gv => by
    have h6 := x2.old _ _ h3
    have hD2 : G2 Dl = none := by
      rw [x2.new Dl fun z => ?_]
      · exact gD
      · have := Hd_sub b H' _ _ h3
        rw [z] at this
        cases this
    obtain ⟨p3, p4⟩ := (bagDrw b n).put (o := .lst (xs ++ [v])) r2 (Hd_some h6)
    have s2 := s.trans x2
    have hn : Hd b H1 Dl = none := by
      cases c : Hd b H1 Dl with
      | none => rfl
      | some o => rw [Hd_sub b H1 _ _ c] at hD; cases hD
    refine ⟨xs, Hd_sub b H2 _ _ h6, sz_lt hz, k v _ G2 p3 ⟨?_, ?_, s2.kn, ?_, s2.new⟩ x2.kn hD2 (by rw [p4]; exact upd_same) gv⟩
    · rw [p4]
      intro a o ha
      rw [upd_ne (ne_of_none ha hn)]
      exact s2.old _ _ ha
    · intro a ha
      by_cases c : a = Dl
      · rw [c, upd_same]
        exact fun z => by cases z
      · rw [upd_ne c]
        exact s2.dom a ha
    · rw [p4]
      intro a o ha
      rw [upd_ne (ne_of_none ha hD2)]
      exact x2.sub _ _ ha
/-- a list by draws, over a list -/
theorem eb_lcL {k c : Nat} {a : Addr} {xs : List V} {tel : TE} {vs : List Nat} {j : Nat} (Gd : Nat → V → Hp → Prop) (m : ∀ i v G1 G2, Ex G1 G2 → Gd i v G1 → Gd i v G2) (h : Ev ta σ G (.ref a)) (hx : SqL K G a xs) (hz : xs.length ≤ 40000) (hw : ∀ x, wipe ((wipe σ vs).set j (some x)) vs = wipe σ vs)
    (hel : ∀ (i n : Nat) x G1, xs[i]? = some x → Ex G G1 → EvB (Bg b (n + c)) (Bg b n) b tel ((wipe σ vs).set j (some x)) G1 (Gd i)) :
    EvB (Bg b (k + xs.length * c)) (Bg b k) b (tLc (iList K ta) (gName j) tYes tel vs) σ G (fun v G' => ∃ p ys, v = .ref p ∧ G' p = some (.lst ys) ∧ ys.length = xs.length ∧ ∀ i y, ys[i]? = some y → Gd i y G') := fun H hR e Q q =>
  h H (e.trans (Hd_sub b H)) _ fun H1 e1 => ⟨a, rfl, ⟨xs, ex_l ((e.trans (Hd_sub b H)).trans e1) hx⟩, fun Dl hD => by
    obtain ⟨r1, x1⟩ := (bagDrw b _).stp hR e e1
    refine lc_list (xs := xs) (fun i H' => ∃ ys G', ys.length = i ∧ (∀ k y, ys[k]? = some y → Gd k y G') ∧ Bg b (k + (xs.length - i) * c) H' ∧ Stp b H1 H' G G' ∧ G' Dl = none ∧ Hd b H' Dl = some (.lst ys))
      ⟨[], G, rfl, fun k y hk => (by cases hk), lc_begin (bagDrw b _) r1 x1.sub hD⟩ (fun i H' _ hp => ?_) (fun i x H' hi hp => ?_) (fun H' hp => ?_)
    · obtain ⟨ys, G', h1, h2, h3, h4, h5, h6⟩ := hp
      exact ex_l (h4.kn.trans (h4.sub.trans (Hd_sub b H'))) hx
    · obtain ⟨ys, G', h1, h2, h3, h4, h5, h6⟩ := hp
      have hil := (List.getElem?_eq_some_iff.mp hi).1
      refine ⟨hw _, ?_⟩
      show tel ((wipe σ vs).set j (some x)) H' _
      have ei : k + (xs.length - i) * c = k + (xs.length - (i + 1)) * c + c := by
        obtain ⟨d, hd⟩ : ∃ d, xs.length - i = d + 1 := ⟨xs.length - i - 1, by omega⟩
        rw [hd, show xs.length - (i + 1) = d by omega, Nat.add_mul, Nat.one_mul, Nat.add_assoc]
      rw [ei] at h3
      refine lcb_step (Pn := fun H' => ∃ ys G', ys.length = i + 1 ∧ (∀ k y, ys[k]? = some y → Gd k y G') ∧ Bg b (k + (xs.length - (i + 1)) * c) H' ∧ Stp b H1 H' G G' ∧ G' Dl = none ∧ Hd b H' Dl = some (.lst ys)) (by omega) hD h3 h4 h5 h6 (hel i _ x G' hi h4.kn) fun v H4 G4 r4 s4 e4 d4 l4 g4 => ⟨ys ++ [v], G4, by rw [List.length_append, h1]; rfl, fun k y hk => ?_, r4, s4, d4, l4⟩
      rcases Nat.lt_or_ge k ys.length with c | c
      · rw [List.getElem?_append_left c] at hk
        exact m k y _ _ e4 (h2 k y hk)
      · rw [List.getElem?_append_right c] at hk
        have hk0 : k - ys.length = 0 := by
          cases c2 : k - ys.length with
          | zero => rfl
          | succ n => rw [c2] at hk; cases hk
        rw [hk0] at hk
        cases hk
        have : k = i := by omega
        rw [this]
        exact g4
    · obtain ⟨ys, G', h1, h2, h3, h4, h5, h6⟩ := hp
      rw [Nat.sub_self, Nat.zero_mul, Nat.add_zero] at h3
      exact q _ H' _ h3 (x1.trans (lc_end (bagDrw b k) hD h4 h5 h6)) ⟨Dl, ys, rfl, upd_same, h1, fun k y hk => m k y _ _ (Ex.new h5) (h2 k y hk)⟩⟩
/-- a list by draws, over a list that is written -/
theorem eb_lcN {k c : Nat} {xs : List V} {tl tel : TE} {vs : List Nat} {j : Nat} (Gd : Nat → V → Hp → Prop) (m : ∀ i v G1 G2, Ex G1 G2 → Gd i v G1 → Gd i v G2) (h : EvL tl σ G xs) (hz : xs.length ≤ 40000) (hw : ∀ x, wipe ((wipe σ vs).set j (some x)) vs = wipe σ vs)
    (hel : ∀ (i n : Nat) x G1, xs[i]? = some x → Ex G G1 → EvB (Bg b (n + c)) (Bg b n) b tel ((wipe σ vs).set j (some x)) G1 (Gd i)) :
    EvB (Bg b (k + xs.length * c)) (Bg b k) b (tLc (iList K tl) (gName j) tYes tel vs) σ G (fun v G' => ∃ p ys, v = .ref p ∧ G' p = some (.lst ys) ∧ ys.length = xs.length ∧ ∀ i y, ys[i]? = some y → Gd i y G') := fun H hR e Q q =>
  ed_el (bagDrw b _) h H hR e _ fun v H1 G1 r1 x1 ⟨p, hv, hp⟩ => by
    subst hv
    exact (eb_lcL (K := K) (ta := tC (.ref p)) Gd m ev_c (SqL.of hp) hz hw fun i n x G2 hx e2 => hel i n x G2 hx (x1.kn.trans e2)) H1 r1 x1.sub Q fun v H2 G2 r2 x2 p2 => q v H2 G2 r2 (x1.trans x2) p2
end
end RMB

/-! A list mixed: taken out of it one by one, by draws. -/
namespace RMX
open PySem PySem.Spec PyProof.Rows L2 Evl TL RC RD RE RG RU RM RK RMB
theorem pe_popAtK {Y : Cx} {K : PySem.W.Frag} {o e : Expr} {to : TE} {t : TA} {apos cpos : Pos} (hK : Y.K = K) (ho : PE Y o to) (ha : PA Y [e] t) (hbase : attributeBase o "pop" Y.env (eval o Y.env) = eval o Y.env := by rfl)
    (hfew : ((backTo cpos (starEach [e] Y.env)).all (fun x => !x.1) && (backToKw cpos (keywordEach [] Y.env)).all (fun x => x.1.isSome)
      && decide ([e].length + ([] : List Keyword).length + (if ([] : List Keyword).isEmpty then 0 else 1) < 30)) = true := by rfl)
    (hline : (apos.endLine == cpos.line) = true := by rfl) (hs : starEach [e] Y.env = (false, eval e Y.env) :: starEach [] Y.env := by rfl) (hplain : (backTo cpos (starEach [] Y.env)).any (·.1) = false := by rfl) :
    PE Y (.Call (.Attribute o "pop" apos) [e] [] cpos) (tBM K "list" rPopAt to t) := by
  subst hK
  exact pe_bm PySem.F.plainAttrs_list PySem.F.slot_list_pop PySem.F.type_list_pop mt_popAt ho ha hbase hfew hline hs hplain
section
theorem seqIx {d n : Nat} (h : d < n) : seqIndex? (d : Int) n = some d := by
  unfold seqIndex?
  have h1 : ¬ ((d : Int) < 0) := by omega
  simp [h1, h]
end
end RMX

/-! Slices of lists by draws; lists mixed. -/
namespace RMC
open PySem PySem.Spec PyProof.Rows L2 Evl TL RC RD RE RG RU RM RK RMB
theorem cutV_take (xs : List V) (k : Nat) : cutV xs none (some (k : Int)) = xs.take k := by
  unfold cutV
  rw [HT.sIx_none, HT.sIx_nat, List.drop_zero, Nat.sub_zero]
  by_cases h : k ≤ xs.length
  · rw [Nat.min_eq_left h]
  · rw [Nat.min_eq_right (by omega), List.take_of_length_le (Nat.le_refl _), List.take_of_length_le (by omega)]
section
variable {K : PySem.W.Frag} {R R1 R2 : Hp → Prop} {b : Addr} {σ : L2.St} {G : Hp} {te th : TE}
/-- xs[:so many drawn] -/
theorem eb_slTo {n : Nat} {P2 : List V → Hp → Prop} (Dw : Drw R2 b) (m : ∀ vs G1 G2, Ex G1 G2 → P2 vs G1 → P2 vs G2) (h : EvB R R1 b te σ G (fun v G' => ∃ p xs, v = .ref p ∧ G' p = some (.lst xs) ∧ P2 xs G')) (hi : ∀ G1, Ex G G1 → EvB R1 R2 b th σ G1 (fun v _ => ∃ d : Nat, v = .int (d : Int) ∧ d < n)) :
    EvB R R2 b (tSl (rSlL K) te tNoPart (tPart th)) σ G (fun v G' => ∃ p xs d, v = .ref p ∧ G' p = some (.lst (xs.take d)) ∧ P2 xs G' ∧ d < n) := fun H hR e Q q =>
  h H hR e _ fun v H1 G1 r1 x1 ⟨p, xs, h1, h2, h3⟩ => hi G1 x1.kn H1 r1 x1.sub _ fun v2 H2 G2 r2 x2 ⟨d, hd, hdn⟩ => ⟨(d : Int), hd, p, xs, h1, SqL.of (Hd_sub b H2 _ _ (x2.sub _ _ (x2.kn _ _ h2))), fun t ht => by
    obtain ⟨r3, x3⟩ := Dw.stpNew (o := .lst (xs.take d)) r2 x2.sub ht
    rw [cutV_take]
    exact q _ _ _ r3 ((x1.trans x2).trans x3) ⟨t, xs, d, rfl, upd_same, m xs _ _ (x2.kn.trans x3.kn) h3, hdn⟩⟩
end
section
variable {K : PySem.W.Frag} {R R1 R2 : Hp → Prop} {b : Addr} {σ : L2.St} {G : Hp} {te : TE}
/-- tuple(list) -/
theorem eb_tupT (Dw : Drw R1 b) {P2 : List V → Hp → Prop} (m : ∀ vs G1 G2, Ex G1 G2 → P2 vs G1 → P2 vs G2) (h : EvB R R1 b te σ G (fun v G' => ∃ p xs, v = .ref p ∧ G' p = some (.lst xs) ∧ P2 xs G')) : EvB R R1 b (tThen te (kTup K)) σ G (fun v G' => ∃ p xs, v = .ref p ∧ G' p = some (.tup xs) ∧ P2 xs G') := fun H hR e Q q =>
  h H hR e _ fun v H1 G1 r1 x1 ⟨p, xs, h1, h2, h3⟩ => .inl ⟨p, xs, h1, SqL.of (Hd_sub b H1 _ _ (x1.sub _ _ h2)), fun t ht => by
    obtain ⟨r2, x2⟩ := Dw.stpNew (o := .tup xs) r1 x1.sub ht
    exact q _ _ _ r2 (x1.trans x2) ⟨t, xs, rfl, upd_same, m xs _ _ x2.kn h3⟩⟩
/-- a list over a text, by draws -/
theorem eb_lcS {k c : Nat} {l : List Nat} {tel : TE} {vs : List Nat} {j : Nat} (Gd : Nat → V → Hp → Prop) (m : ∀ i v G1 G2, Ex G1 G2 → Gd i v G1 → Gd i v G2) (h : Ev te σ G (T l)) (hz : l.length ≤ 40000) (hw : ∀ x, wipe ((wipe σ vs).set j (some x)) vs = wipe σ vs)
    (hel : ∀ (i n : Nat) x G1, l[i]? = some x → Ex G G1 → EvB (Bg b (n + c)) (Bg b n) b tel ((wipe σ vs).set j (some (T [x]))) G1 (Gd i)) :
    EvB (Bg b (k + l.length * c)) (Bg b k) b (tLc (iStr te) (gName j) tYes tel vs) σ G (fun v G' => ∃ p ys, v = .ref p ∧ G' p = some (.lst ys) ∧ ys.length = l.length ∧ ∀ i y, ys[i]? = some y → Gd i y G') := fun H hR e Q q =>
  h H (e.trans (Hd_sub b H)) _ fun H1 e1 => ⟨S l, rfl, fun Dl hD => by
    obtain ⟨r1, x1⟩ := (bagDrw b _).stp hR e e1
    have hsz : (S l).cps.size = l.length := by simp [S]
    refine lc_it (walk_str (z := S l)) (fun i H' => ∃ ys G', ys.length = i ∧ (∀ k y, ys[k]? = some y → Gd k y G') ∧ Bg b (k + (l.length - i) * c) H' ∧ Stp b H1 H' G G' ∧ G' Dl = none ∧ Hd b H' Dl = some (.lst ys))
      ⟨[], G, rfl, fun k y hk => (by cases hk), lc_begin (bagDrw b _) r1 x1.sub hD⟩ (fun _ _ _ _ => trivial) (fun i x H2 H3 hi hp y => ?_) (fun H' hp => ?_)
    · obtain ⟨ys, G', h1, h2, h3, h4, h5, h6⟩ := hp
      obtain ⟨rfl, c0, hc, rfl⟩ := y
      have hc' : l[i]? = some c0 := by simpa [S] using hc
      have hil := (List.getElem?_eq_some_iff.mp hc').1
      refine ⟨hw _, ?_⟩
      simp only [tYes, ↓reduceIte]
      have ei : k + (l.length - i) * c = k + (l.length - (i + 1)) * c + c := by
        obtain ⟨d, hd⟩ : ∃ d, l.length - i = d + 1 := ⟨l.length - i - 1, by omega⟩
        rw [hd, show l.length - (i + 1) = d by omega, Nat.add_mul, Nat.one_mul, Nat.add_assoc]
      rw [ei] at h3
      refine lcb_step (Pn := fun H' => ∃ ys G', ys.length = i + 1 ∧ (∀ k y, ys[k]? = some y → Gd k y G') ∧ Bg b (k + (l.length - (i + 1)) * c) H' ∧ Stp b H1 H' G G' ∧ G' Dl = none ∧ Hd b H' Dl = some (.lst ys)) (by omega) hD h3 h4 h5 h6 (hel i _ c0 G' hc' h4.kn) fun v H4 G4 r4 s4 e4 d4 l4 g4 => ⟨ys ++ [v], G4, by rw [List.length_append, h1]; rfl, fun k y hk => ?_, r4, s4, d4, l4⟩
      rcases Nat.lt_or_ge k ys.length with c | c
      · rw [List.getElem?_append_left c] at hk
        exact m k y _ _ e4 (h2 k y hk)
      · rw [List.getElem?_append_right c] at hk
        have hk0 : k - ys.length = 0 := by
          cases c2 : k - ys.length with
          | zero => rfl
          | succ n => rw [c2] at hk; cases hk
        rw [hk0] at hk
        cases hk
        have : k = i := by omega
        rw [this]
        exact g4
    · obtain ⟨ys, G', h1, h2, h3, h4, h5, h6⟩ := hp
      rw [hsz] at h1 h3
      rw [Nat.sub_self, Nat.zero_mul, Nat.add_zero] at h3
      exact q _ H' _ h3 (x1.trans (lc_end (bagDrw b k) hD h4 h5 h6)) ⟨Dl, ys, rfl, upd_same, h1, fun k y hk => m k y _ _ (Ex.new h5) (h2 k y hk)⟩⟩
end
theorem perm_inv {α β : Type} {f : α → β} {ys zs : List β} (h : ys.Perm zs) : ∀ {l : List α}, zs = l.map f → ∃ l' : List α, ys = l'.map f ∧ l'.Perm l := by
  induction h with
  | nil =>
    intro l hl
    exact ⟨[], rfl, by rw [List.map_eq_nil_iff.mp hl.symm]⟩
  | cons x p ih =>
    intro l hl
    cases l with
    | nil => cases hl
    | cons a r =>
      obtain ⟨h1, h2⟩ := List.cons.inj hl
      obtain ⟨l', h3, h4⟩ := ih h2
      exact ⟨a :: l', by rw [h1, h3, List.map_cons], h4.cons a⟩
  | swap x y r =>
    intro l hl
    match l, hl with
    | [], hl => cases hl
    | [a], hl => cases (List.cons.inj hl).2
    | a :: c :: s, hl =>
      obtain ⟨h1, h2⟩ := List.cons.inj hl
      obtain ⟨h3, h4⟩ := List.cons.inj h2
      exact ⟨c :: a :: s, by rw [h1, h3, h4, List.map_cons, List.map_cons], List.Perm.swap _ _ _⟩
  | trans p q ih1 ih2 =>
    intro l hl
    obtain ⟨l', h1, h2⟩ := ih2 hl
    obtain ⟨l2, h3, h4⟩ := ih1 h1
    exact ⟨l2, h3, h4.trans h2⟩
section
variable {σ : L2.St} {H : Hp} {te : TE}
theorem el_listT {l : List Nat} (h : Ev te σ H (T l)) (hz : l.length ≤ 100000) : EvL (tCB RLS.rListT (tCons te tNil)) σ H (l.map fun c => T [c]) := fun H1 e Q q =>
  h H1 e _ fun H2 e2 => ⟨S l, rfl, by simp [S]; omega, fun p hp => by
    rw [RLS.signsV_S]
    exact q p _ (fresh_back e2 hp) (e2.trans (Ex.new hp)) upd_same⟩
end
end RMC

/-! A list of one's own that changes, between draws. -/
namespace RMU
open PySem PySem.Spec PyProof.Rows L2 Evl TL RC RD RE RG RU RM
/-- a list at l that changes; H0, G0 where one began; G is known, l is not -/
structure Mut (R : Hp → Prop) (b : Addr) (H0 G0 G : Hp) (l : Addr) (xs : List V) (H : Hp) : Prop where
  r : R H
  s : Stp b H0 H G0 G
  g : G l = none
  z : H0 l = none
  own : Hd b H l = some (.lst xs)
section
variable {K : PySem.W.Frag} {R : Hp → Prop} {b l : Addr} {σ : L2.St} {H H1 H0 G0 G : Hp} {te : TE} {tz : TS} {D : Ends} {xs ys : List V}
theorem Mut.lst (M : Mut R b H0 G0 G l xs H) : H l = some (.lst xs) := Hd_sub b H _ _ M.own
theorem Mut.sub (M : Mut R b H0 G0 G l xs H) : Ex G H := M.s.sub.trans (Hd_sub b H)
theorem Mut.ex (Dw : Drw R b) (M : Mut R b H0 G0 G l xs H) (e : Ex H H1) : Mut R b H0 G0 G l xs H1 :=
  ⟨(Dw.ex M.r e).1, M.s.trans (Dw.stp M.r M.s.sub e).2, M.g, M.z, (Dw.ex M.r e).2 _ _ M.own⟩
theorem Mut.set (Dw : Drw R b) (M : Mut R b H0 G0 G l xs H) (ys : List V) : Mut R b H0 G0 G l ys (upd H l (.lst ys)) := by
  obtain ⟨r, x⟩ := Dw.put (o := .lst ys) M.r (Hd_some M.own)
  refine ⟨r, ⟨?_, fun a ha => ?_, M.s.kn, ?_, M.s.new⟩, M.g, M.z, by rw [x]; exact upd_same⟩
  · rw [x]
    intro a o ha
    have hne : a ≠ l := fun z => by
      have := Hd_sub b H0 _ _ ha
      rw [z, M.z] at this
      cases this
    rw [upd_ne hne]
    exact M.s.old _ _ ha
  · by_cases c : a = l
    · rw [c, upd_same]
      exact fun z => by cases z
    · rw [upd_ne c]
      exact M.s.dom a ha
  · rw [x]
    intro a o ha
    rw [upd_ne (ne_of_none ha M.g)]
    exact M.s.sub _ _ ha
theorem Mut.begin (Dw : Drw R b) (hR : R H) (s : Stp b H0 H G0 G) (hl : H l = none) (e : Ex H H1) (h1 : H1 l = some (.lst xs)) : Mut R b H0 G0 G l xs H1 := by
  obtain ⟨r1, x1⟩ := Dw.stp hR s.sub e
  refine ⟨r1, s.trans x1, fresh_back (s.sub.trans (Hd_sub b H)) hl, ?_, ?_⟩
  · cases c : H0 l with
    | none => rfl
    | some o => exact absurd hl (s.dom l (by rw [c]; exact fun z => by cases z))
  · have hn := Dw.fresh hR hl
    obtain ⟨zs, h2, _⟩ := Dw.lst hR
    rw [Hd_no fun c => hn ((owns_of (by rw [h2, e _ _ h2])).mp c)]
    exact h1
theorem Mut.done (Dw : Drw R b) (M : Mut R b H0 G0 G l xs H) : Stp b H0 H G0 (upd G l (.lst xs)) := lc_end Dw M.z M.s M.g M.own
theorem sd_asgM (Dw : Drw R b) {i : Nat} (h : EvL te σ G xs) (k : ∀ l H1, Mut R b H0 G0 G l xs H1 → tz D (σ.set i (some (.ref l))) H1) : StD R b H0 G0 (tSeq (tAsg te (gName i)) tz) D σ G := fun H hR s =>
  h H (s.sub.trans (Hd_sub b H)) _ fun p H1 hp e1 h1 => k p H1 (Mut.begin Dw hR s hp e1 h1)
theorem Mut.go (Dw : Drw R b) {ts : TS} (M : Mut R b H0 G0 G l xs H) (k : StD R b H0 G0 ts D σ (upd G l (.lst xs))) : ts D σ H := k H M.r (M.done Dw)
/-- a, b = x, y, things made now -/
theorem sd_parD {i j : Nat} {ta : TA} {P : List V → Hp → Prop} (h : EvAD R b ta σ G P) (hp : ∀ vs G1, P vs G1 → ∃ v w, vs = [v, w]) (k : ∀ v w G1, Ex G G1 → P [v, w] G1 → StD R b H0 G0 tz D ((σ.set i (some v)).set j (some w)) G1) :
    StD R b H0 G0 (tSeq (tPar i j ta) tz) D σ G := fun H hR s => h H hR s.sub _ fun vs H1 G1 r1 x1 p1 => by
  obtain ⟨v, w, rfl⟩ := hp vs G1 p1
  exact ⟨v, w, rfl, k v w G1 x1.kn p1 H1 r1 (s.trans x1)⟩
theorem el_slL {tl th : TO} {lo hi : Option Int} (h : EvL te σ H xs) (h1 : EvO tl σ H lo) (h2 : EvO th σ H hi) : EvL (tSl (rSlL K) te tl th) σ H (cutV xs lo hi) := fun H1 e Q q =>
  h H1 e _ fun p H2 hp e2 hl => h1 H2 (e.trans e2) _ fun H3 e3 => h2 H3 ((e.trans e2).trans e3) _ fun H4 e4 =>
    ⟨p, xs, rfl, SqL.of ((e3.trans e4) _ _ hl), fun m hm => q m _ (fresh_back ((e2.trans e3).trans e4) hm) (((e2.trans e3).trans e4).trans (Ex.new hm)) upd_same⟩
end
end RMU

/-! A tuple as written, without a dict of its own. -/
namespace RFZ
open PySem PySem.Spec PyProof.Rows L2 Evl TL RC RD RDI RG RU RM RK RMB
def tTupZ (t : TA) : TE := fun σ H Q => t σ H fun xs H1 => xs.length ≤ sizeLine ∧ ∀ (p : Addr) (o : Obj), H1 p = none → o.dict = none → Q (.ref p) (upd H1 p (.frz o (.tup xs)))
theorem pe_tupZ {X : Cx} {es : List Expr} {t : TA} {pos : Pos} {x1} (h : PA X es t) : PE X (.Tuple es x1 pos) (tTupZ t) := by
  refine ⟨fun pins s σ H Q I hq => ?_⟩
  refine wpAny_Tuple_spliced (thn (h.run pos pins s σ H _ I hq) fun us s1 ⟨xs, H1, I1, r, z, q⟩ => ⟨by rw [← r.length]; exact z, ?_⟩)
  have hf : H1 s1.heap.objs.size = none := I1.hok.fresh (Nat.le_refl _)
  have I2 := I1.laid (a := s1.heap.objs.size) (o := .frz { cls := .type "tuple", data := .seq us.toArray } (.tup xs)) (h' := s1.heap.push { cls := .type "tuple", data := .seq us.toArray }) (t' := s1.toks) (fun b u e => Heap.get?_push_of_some _ e) (Nat.le_refl _)
    (show ObjOk X.prog X.w _ _ _ (.frz _ (.tup xs)) from ⟨Heap.get?_push_size _ rfl, z, us, r, IsTup.new _ _⟩)
  exact ⟨.ref s1.heap.objs.size, _, I2, rfl, q _ _ hf rfl⟩
theorem eb_tupZ {R R1 : Hp → Prop} {b : Addr} {σ : L2.St} {G : Hp} (Dw : Drw R1 b) {tr : TA} {P2 : List V → Hp → Prop} (m : ∀ vs G1 G2, Ex G1 G2 → P2 vs G1 → P2 vs G2) (hl : ∀ vs G1, P2 vs G1 → vs.length ≤ 100) (h : EvAB R R1 b tr σ G P2) : EvB R R1 b (tTupZ tr) σ G (fun v G' => ∃ p xs, v = .ref p ∧ PlT G' p xs ∧ P2 xs G') := fun H hR e Q q =>
  h H hR e _ fun vs H1 G1 r1 x1 p1 => ⟨by rw [big]; have := hl vs _ p1; omega, fun p o hp ho => by
    obtain ⟨p2, p3⟩ := Dw.stpNew (o := .frz o (.tup vs)) r1 x1.sub hp
    exact q _ _ _ p2 (x1.trans p3) ⟨p, vs, rfl, ⟨o, ho, upd_same⟩, m vs _ _ p3.kn p1⟩⟩
theorem op_notInK {X : Cx} {K : PySem.W.Frag} (hK : X.K = K) : OpR X (compareOp .NotIn) (rIn K true) := by
  subst hK
  exact op_notIn_seq
end RFZ

/-! The wound reel: what is left of a great cell, a number turned. -/
namespace RWD
open PySem PySem.Spec PyProof.Rows L2 Evl TL RC RA RD RE RG RU RM RK RV RTU RX
def Wind (b : Addr) (H : Hp) : Prop := ∃ (i j : Int), H b = some (.lst [.int i, .int j]) ∧ 0 ≤ i ∧ 0 ≤ j ∧ j < 2147483647
theorem windDrw (b : Addr) : Drw (Wind b) b where
  lst := fun ⟨i, j, h1, _⟩ => ⟨_, h1, fun p hp => by simp at hp⟩
  same := fun ⟨i, j, h1, h2⟩ h => ⟨i, j, h _ _ (.inl rfl) h1, h2⟩
theorem wind_own {b a : Addr} {H : Hp} {i j : Int} (hb : H b = some (.lst [.int i, .int j])) (h : a ≠ b) : ¬ owns b H a := fun ho => by
  rcases ho with z | ⟨xs, hx, hax⟩
  · exact h z
  · rw [hb] at hx
    cases hx
    simp at hax
theorem wind_put {b : Addr} {H H1 : Hp} {i j i' j' : Int} (hb : H b = some (.lst [.int i, .int j])) (e : Ex H H1) (z1 : 0 ≤ i') (z2 : 0 ≤ j') (z3 : j' < 2147483647) :
    Wind b (upd H1 b (.lst [.int i', .int j'])) ∧ Ex (Hd b H) (Hd b (upd H1 b (.lst [.int i', .int j']))) ∧ ∀ a, H a ≠ none → (upd H1 b (.lst [.int i', .int j'])) a ≠ none := by
  refine ⟨⟨i', j', upd_same, z1, z2, z3⟩, fun a o ha => ?_, fun a ha => ?_⟩
  · have hn := Hd_some ha
    rw [Hd_no hn] at ha
    have ab : a ≠ b := fun z => hn (.inl z)
    rw [Hd_no (wind_own upd_same ab), upd_ne ab]
    exact e _ _ ha
  · by_cases c : a = b
    · rw [c, upd_same]
      exact fun z => by cases z
    · rw [upd_ne c]
      exact ex_dom e a ha
theorem wind_new {b : Addr} {H H1 : Hp} {i j : Int} (hb : H b = none) (e : Ex H H1) (h1 : H1 b = some (.lst [.int i, .int j])) : Ex H (Hd b H1) := fun x o hx => by
  have hxb : x ≠ b := ne_of_none hx hb
  rw [Hd_no (wind_own h1 hxb)]
  exact e _ _ hx
section
variable {K : PySem.W.Frag} {R : Hp → Prop} {b : Addr} {σ : L2.St} {H0 G0 G : Hp} {te ta tb : TE} {t : TT} {P P1 : V → Hp → Prop}
theorem ead_two {b0 : V} (Dw : Drw R b) (ha : Ev ta σ G b0) (hb : EvD R b tb σ G P) : EvAD R b (tCons ta (tCons tb tNil)) σ G (fun vs G2 => ∃ v, vs = [b0, v] ∧ P v G2) := fun H hR e Q q =>
  ha H (e.trans (Hd_sub b H)) _ fun H1 e1 => hb H1 (Dw.ex hR e1).1 (e.trans (Dw.ex hR e1).2) _ fun v H2 G2 r2 x2 p2 => q _ H2 G2 r2 ((Dw.stp hR e e1).2.trans x2) ⟨v, rfl, p2⟩
/-- so many and a draw more -/
theorem ed_more (Dw : Drw R b) (m : Nat) {Z : Nat → Prop} (hb : ∀ G2, Ex G G2 → EvD R b tb σ G2 (fun v _ => ∃ d : Nat, v = .int (d : Int) ∧ Z d)) : EvD R b (tOp (rI0 fun i j => .int (i + j)) (tC (.int (m : Int))) tb) σ G (fun v _ => ∃ d : Nat, v = .int ((m + d : Nat) : Int) ∧ Z d) :=
  ed_I0 (A := fun i => i = m) (B := fun j => ∃ d : Nat, j = d ∧ Z d) (ed_int Dw ev_c) (fun G2 e2 => ed_imp (hb G2 e2) fun v _ _ ⟨d, h1, h2⟩ => ⟨d, h1, d, rfl, h2⟩) fun i j G2 hi ⟨d, hj, hz⟩ => ⟨d, by rw [hi, hj, Int.natCast_add], hz⟩
theorem ed_nat {n : Nat} (h : EvD R b tb σ G (fun v _ => ∃ i : Int, v = .int i ∧ 0 ≤ i ∧ i < n)) : EvD R b tb σ G (fun v _ => ∃ d : Nat, v = .int (d : Int) ∧ d < n) :=
  ed_imp h fun v _ _ ⟨i, h1, h2, h3⟩ => ⟨i.toNat, by rw [h1, Int.toNat_of_nonneg h2], by omega⟩
/-- whether a draw is that -/
theorem ed_is (Dw : Drw R b) {n : Nat} {j : Int} (h : EvD R b tb σ G (fun v _ => ∃ i : Int, v = .int i ∧ 0 ≤ i ∧ i < n)) : EvD R b (tOp rEq tb (tC (.int j))) σ G (fun v _ => ∃ c : Bool, v = .bl c) :=
  ed_imp (RSP.ed_eqI (A := fun i => 0 ≤ i ∧ i < n) (B := fun i => i = j) h fun G2 e2 => ed_int Dw ev_c) fun v _ _ ⟨i, j, h1, _⟩ => ⟨_, h1⟩
/-- a draw held against a number -/
theorem ed_cmp (Dw : Drw R b) {n : Nat} {j : Int} {g : Int → Int → Bool} (h : EvD R b tb σ G (fun v _ => ∃ i : Int, v = .int i ∧ 0 ≤ i ∧ i < n)) (hj : ∀ G1, Ex G G1 → Ev ta σ G1 (.int j)) : EvD R b (tOp (rI0 fun i j => .bl (g i j)) tb ta) σ G (fun v _ => ∃ c : Bool, v = .bl c) :=
  ed_I0 (A := fun i => 0 ≤ i ∧ i < n) (B := fun i => i = j) h (fun G2 e2 => ed_int Dw (hj G2 e2)) fun i j G2 _ _ => ⟨_, rfl⟩
/-- a test that draws -/
theorem sd_whenD {D : Ends} {tu tz : TS} (h : EvD R b te σ G (fun v _ => ∃ c : Bool, v = .bl c)) (h1 : ∀ G1, Ex G G1 → StD R b H0 G0 tu { D with nx := tz D } σ G1) (h2 : ∀ G1, Ex G G1 → StD R b H0 G0 tz D σ G1) : StD R b H0 G0 (tSeq (tIfS (tTest te) tu tNext) tz) D σ G := fun H hR s =>
  h H hR s.sub _ fun v H1 G1 r1 x1 ⟨c, hc⟩ => ⟨c, hc, by
    cases c with
    | true => exact h1 G1 x1.kn H1 r1 (s.trans x1)
    | false => exact h2 G1 x1.kn H1 r1 (s.trans x1)⟩
/-- ''.join of signs, told place by place -/
theorem ed_joinP {x0 : Str} {l : List Nat} {A : Nat → Nat → Prop} (hx : x0 = S []) (hz : l.length ≤ 100000) (h : EvD R b te σ G (fun v G' => ∃ p ys, v = .ref p ∧ G' p = some (.lst ys) ∧ ys.length = l.length ∧ ∀ (i : Nat) c y, l[i]? = some c → ys[i]? = some y → ∃ d, y = T [d] ∧ A c d)) :
    EvD R b (tM1 (rJoin K) (tC (.str x0)) te) σ G (fun v _ => ∃ s, v = T s ∧ s.length = l.length ∧ ∀ (i : Nat) c d, l[i]? = some c → s[i]? = some d → A c d) := fun H hR e Q q => by
  subst hx
  exact ⟨⟨_, rfl⟩, h H hR e _ fun v H1 G1 r1 x1 hp => by
    obtain ⟨p, ys, rfl, hp, hl, hA⟩ := hp
    obtain ⟨s, rfl, hl2, _⟩ := signs_of (xs := ys) (A := fun _ => True) fun y hy => by
      obtain ⟨i, hi, rfl⟩ := List.getElem_of_mem hy
      obtain ⟨d, h1, _⟩ := hA i _ _ (List.getElem?_eq_getElem (by omega)) (List.getElem?_eq_getElem hi)
      exact ⟨d, h1, trivial⟩
    have hz2 : s.length = l.length := by rw [← hl, hl2]
    refine ⟨S [], p, (s.map fun c => [c]).map S, rfl, rfl, .inl (SqL.of (by rw [Hd_sub b H1 _ _ (x1.sub _ _ hp), List.map_map (g := V.str)]; rfl)), by rw [sum_lens, S_len, List.length_nil, Nat.mul_zero, flat_signs]; omega, ?_⟩
    rw [RE.join_nil, flat_signs]
    refine q _ H1 G1 r1 x1 ⟨s, rfl, hz2, fun i c d hc hd => ?_⟩
    obtain ⟨d', h1, h2⟩ := hA i c (T [d]) hc (by rw [List.getElem?_map, List.getElem?_map, hd]; rfl)
    have := List.singleton_inj.mp (T_inj.mp h1)
    rw [this]
    exact h2⟩
/-- a text's beginning, the text drawn -/
theorem ed_slTo {k : Nat} {A : List Nat → Prop} (h : EvD R b te σ G (fun v _ => ∃ l, v = T l ∧ A l)) (hA : ∀ l, A l → l.length ≤ 16777216) (ht : ∀ G1, Ex G G1 → Ev ta σ G1 (.int (k : Int))) (Dw : Drw R b) : EvD R b (tSl rSlS te tNoPart (tPart ta)) σ G (fun v _ => ∃ l, v = T (l.take k) ∧ A l) := fun H hR e Q q =>
  h H hR e _ fun v H1 G1 r1 x1 ⟨l, hv, hl⟩ => by
    subst hv
    have hev : Ev (tSl rSlS (tC (T l)) tNoPart (tPart ta)) σ G1 (T (l.take k)) := ev_is (ev_slT ev_c eo_none (eo_some (ht G1 x1.kn)) (hA l hl)) (by rw [cutS_take])
    exact hev H1 (x1.sub.trans (Hd_sub b H1)) Q fun H2 e2 => q _ H2 G1 (Dw.stp r1 x1.sub e2).1 (x1.trans (Dw.stp r1 x1.sub e2).2) ⟨l, rfl, hl⟩
/-- a value that nothing draws, of a promise -/
theorem ret_of (Dw : Drw R b) {H : Hp} {v : V} {Q : VK} (hR : R H) (e : Ex G (Hd b H)) (q : RetD R b G P H Q) (hp : P v G) : RetV v H Q := fun H2 e2 => q v H2 G (Dw.stp hR e e2).1 (Dw.stp hR e e2).2 hp
/-- a list by draws, over a text -/
theorem ed_lcS (Dw : Drw R b) {l : List Nat} {tel : TE} {vs : List Nat} {j : Nat} (Gd : Nat → V → Hp → Prop) (m : ∀ c v G1 G2, Ex G1 G2 → Gd c v G1 → Gd c v G2) (h : Ev te σ G (T l)) (hz : l.length ≤ 40000) (hw : ∀ x, wipe ((wipe σ vs).set j (some x)) vs = wipe σ vs)
    (hel : ∀ c G1, c ∈ l → Ex G G1 → EvD R b tel ((wipe σ vs).set j (some (T [c]))) G1 (Gd c)) :
    EvD R b (tLc (iStr te) (gName j) tYes tel vs) σ G (fun v G' => ∃ p ys, v = .ref p ∧ G' p = some (.lst ys) ∧ ys.length = l.length ∧ ∀ (i : Nat) c y, l[i]? = some c → ys[i]? = some y → Gd c y G') := fun H hR e Q q =>
  h H (e.trans (Hd_sub b H)) _ fun H1 e1 => ⟨S l, rfl, fun Dl hD => by
    obtain ⟨r1, x1⟩ := Dw.stp hR e e1
    have hsz : (S l).cps.size = l.length := by simp [S]
    refine lc_it (walk_str (z := S l)) (fun i H' => ∃ ys G', ys.length = i ∧ (∀ (k : Nat) c y, l[k]? = some c → ys[k]? = some y → Gd c y G') ∧ R H' ∧ Stp b H1 H' G G' ∧ G' Dl = none ∧ Hd b H' Dl = some (.lst ys))
      ⟨[], G, rfl, fun k c y _ hk => (by cases hk), lc_begin Dw r1 x1.sub hD⟩ (fun _ _ _ _ => trivial) (fun i x H2 H3 hi hp y => ?_) (fun H' hp => ?_)
    · obtain ⟨ys, G', h1, h2, h3, h4, h5, h6⟩ := hp
      obtain ⟨rfl, c0, hc, rfl⟩ := y
      have hc' : l[i]? = some c0 := by simpa [S] using hc
      have hil := (List.getElem?_eq_some_iff.mp hc').1
      refine ⟨hw _, ?_⟩
      simp only [tYes, ↓reduceIte]
      refine lc_step (Pn := fun H' => ∃ ys G', ys.length = i + 1 ∧ (∀ (k : Nat) c y, l[k]? = some c → ys[k]? = some y → Gd c y G') ∧ R H' ∧ Stp b H1 H' G G' ∧ G' Dl = none ∧ Hd b H' Dl = some (.lst ys)) Dw (by omega) hD h3 h4 h5 h6 (hel c0 G' (List.mem_of_getElem? hc') h4.kn) fun v H4 G4 r4 s4 e4 d4 l4 g4 => ⟨ys ++ [v], G4, by rw [List.length_append, h1]; rfl, fun k c y hk hy => ?_, r4, s4, d4, l4⟩
      rcases Nat.lt_or_ge k ys.length with z | z
      · rw [List.getElem?_append_left z] at hy
        exact m c y _ _ e4 (h2 k c y hk hy)
      · rw [List.getElem?_append_right z] at hy
        have hk0 : k - ys.length = 0 := by
          cases c2 : k - ys.length with
          | zero => rfl
          | succ n => rw [c2] at hy; cases hy
        rw [hk0] at hy
        cases hy
        have hki : k = i := by omega
        rw [hki, hc'] at hk
        cases hk
        exact g4
    · obtain ⟨ys, G', h1, h2, h3, h4, h5, h6⟩ := hp
      rw [hsz] at h1
      exact q _ H' _ h3 (x1.trans (lc_end Dw hD h4 h5 h6)) ⟨Dl, ys, rfl, upd_same, h1, fun k c y hk hy => m c y _ _ (Ex.new h5) (h2 k c y hk hy)⟩⟩
/-- a list by draws, over a range, of those that a test lets by -/
theorem ed_lcRF (Dw : Drw R b) {n : Nat} {ti : TA} {tel : TE} {vs : List Nat} {j : Nat} (Gd : Nat → V → Hp → Prop) (m : ∀ c v G1 G2, Ex G1 G2 → Gd c v G1 → Gd c v G2) (h : EvA ti σ G [.int (n : Int)]) (hz : n ≤ 1000) (hw : ∀ x, wipe ((wipe σ vs).set j (some x)) vs = wipe σ vs)
    (ht : ∀ c G1, c < n → Ex G G1 → EvD R b tb ((wipe σ vs).set j (some (.int (c : Int)))) G1 (fun v _ => ∃ k : Bool, v = .bl k)) (hel : ∀ c G1, c < n → Ex G G1 → EvD R b tel ((wipe σ vs).set j (some (.int (c : Int)))) G1 (Gd c)) :
    EvD R b (tLc (iRng1 ti) (gName j) (tTest tb) tel vs) σ G (fun v G' => ∃ p ys cs, v = .ref p ∧ G' p = some (.lst ys) ∧ List.Sublist cs (List.range n) ∧ ys.length = cs.length ∧ ∀ (i : Nat) c y, cs[i]? = some c → ys[i]? = some y → Gd c y G') := fun H hR e Q q =>
  h H (e.trans (Hd_sub b H)) _ fun H1 e1 => ⟨(n : Int), rfl, by omega, by omega, fun Dl hD => by
    obtain ⟨r1, x1⟩ := Dw.stp hR e e1
    refine lc_range (lo := 0) (n := ((n : Int)).toNat) (fun i H' => ∃ ys cs G', List.Sublist cs (List.range i) ∧ ys.length = cs.length ∧ (∀ (k : Nat) c y, cs[k]? = some c → ys[k]? = some y → Gd c y G') ∧ R H' ∧ Stp b H1 H' G G' ∧ G' Dl = none ∧ Hd b H' Dl = some (.lst ys))
      ⟨[], [], G, List.nil_sublist _, rfl, fun k c y hk => (by cases hk), lc_begin Dw r1 x1.sub hD⟩ (fun i H3 hi pv => ?_) (fun H' hp => ?_)
    · have hin : i < n := by omega
      have e0 : (0 : Int) + (i : Int) = (i : Int) := Int.zero_add _
      rw [e0]
      obtain ⟨ys, cs, G', p1, p2, p3, p4, p5, p6, p7⟩ := pv
      have hlen : cs.length ≤ 1000 := by
        have h1 := p1.length_le
        rw [List.length_range] at h1
        omega
      refine ⟨hw _, ht i G' hin p5.kn H3 p4 p5.sub _ fun v H4 G4 r4 x4 hv => ?_⟩
      obtain ⟨k, rfl⟩ := hv
      have hD4 : G4 Dl = none := by
        rw [x4.new Dl fun z => ?_]
        · exact p6
        · have := Hd_sub b H3 _ _ p7
          rw [z] at this
          cases this
      have hl4 := x4.old _ _ p7
      refine ⟨k, rfl, ?_⟩
      cases k with
      | true =>
        show tel _ H4 _
        refine lc_step (Pn := fun H' => ∃ ys cs G', List.Sublist cs (List.range (i + 1)) ∧ ys.length = cs.length ∧ (∀ (k : Nat) c y, cs[k]? = some c → ys[k]? = some y → Gd c y G') ∧ R H' ∧ Stp b H1 H' G G' ∧ G' Dl = none ∧ Hd b H' Dl = some (.lst ys))
          Dw (by omega) hD r4 (p5.trans x4) hD4 hl4 (hel i G4 hin (p5.kn.trans x4.kn)) fun v H5 G5 r5 s5 e5 d5 l5 g5 => ⟨ys ++ [v], cs ++ [i], G5, by rw [List.range_succ]; exact p1.append (List.Sublist.refl _), by rw [List.length_append, List.length_append, p2]; rfl, fun k c' y' hk hy => ?_, r5, s5, d5, l5⟩
        rcases Nat.lt_or_ge k cs.length with z | z
        · rw [List.getElem?_append_left z] at hk
          rw [List.getElem?_append_left (by omega)] at hy
          exact m _ _ _ _ e5 (m _ _ _ _ x4.kn (p3 k c' y' hk hy))
        · rw [List.getElem?_append_right z] at hk
          rw [List.getElem?_append_right (by omega)] at hy
          have hk0 : k - cs.length = 0 := by
            cases c2 : k - cs.length with
            | zero => rfl
            | succ n => rw [c2] at hk; cases hk
          rw [hk0] at hk
          rw [p2, hk0] at hy
          cases hk
          cases hy
          exact g5
      | false =>
        exact ⟨ys, cs, G4, by rw [List.range_succ]; exact p1.trans (List.sublist_append_left _ _), p2, fun k c' y' hk hy => m _ _ _ _ x4.kn (p3 k c' y' hk hy), r4, p5.trans x4, hD4, hl4⟩
    · obtain ⟨ys, cs, G', p1, p2, p3, p4, p5, p6, p7⟩ := hp
      rw [show ((n : Int)).toNat = n by omega] at p1
      exact q _ H' _ p4 (x1.trans (lc_end Dw hD p5 p6 p7)) ⟨Dl, ys, cs, rfl, upd_same, p1, p2, fun k c y hk hy => m _ _ _ _ (Ex.new p6) (p3 k c y hk hy)⟩⟩
end
section
variable {K : PySem.W.Frag} {σ : L2.St} {H : Hp} {te tx : TE} {tt : TT}
theorem ev_callAP {sp : Sp} {dvs : List V} {E : XK} {tr : TA} {z : V} {P : List V → Hp → Prop} (h : EvAP tr σ H P) (hs : ∀ vs H1, Ex H H1 → P vs H1 → ∀ Q : VK, RetV z H1 Q → ∀ E : XK, sp (vs ++ dvs) H1 Q E) : Ev (tCall sp dvs E tr) σ H z := fun H1 e Q q =>
  h H1 e _ fun vs H2 e2 p => hs vs H2 (e.trans e2) p Q (fun H3 e3 => q H3 (e2.trans e3)) E
def TuP (p : RP.Pr) : V → Hp → Prop := fun v H => RTU.Tu H p v
theorem TuP.mono {p : RP.Pr} (v : V) (H1 H2 : Hp) (e : Ex H1 H2) (h : TuP p v H1) : TuP p v H2 := RTU.Tu.ex e h
theorem evp_tu {p : RP.Pr} {v : V} (h : Ev te σ H v) (hp : RTU.Tu H p v) : EvP te σ H (TuP p) := fun H1 e Q q => h H1 e _ fun H2 e2 => q v H2 e2 (RTU.Tu.ex (e.trans e2) hp)
theorem evp_wheel {z : Str} {rim : List Nat} (hz : z = S (wd 0)) (h : Ev te σ H (T rim)) : EvP (tTup (tCons (tC (.str z)) (tCons te tNil))) σ H (TuP (.wheel rim)) := fun H1 e Q q =>
  (eu_tup (vs := [T (wd 0), T rim]) (ea_cons (ev_wd hz) (ea_cons h ea_nil)) (by show 2 ≤ 100000; decide)) H1 e _ fun t H2 _ e2 h2 => q _ H2 e2 ⟨t, rfl, h2⟩
theorem evp_overP {z : Str} {t1 t2 : TE} {p q : RP.Pr} (hz : z = S (wd 2)) (h1 : EvP t1 σ H (TuP p)) (h2 : EvP t2 σ H (TuP q)) : EvP (tTup (tCons (tC (.str z)) (tCons t1 (tCons t2 tNil)))) σ H (TuP (.over p q)) :=
  evp_imp (evp_tup (P := fun ws H' => ∃ x y, ws = [T (wd 2), x, y] ∧ TuP p x H' ∧ TuP q y H') (fun vs H1 H2 e ⟨x, y, g1, g2, g3⟩ => ⟨x, y, g1, TuP.mono x _ _ e g2, TuP.mono y _ _ e g3⟩) (fun vs H1 ⟨x, y, g1, _⟩ => by rw [g1]; exact Nat.le_of_ble_eq_true rfl)
    (fun H1 e Q qq => eap_cons (ev_wd hz) (eap_consP TuP.mono h1 (eap_consP TuP.mono h2 eap_nil)) H1 e Q fun vs H2 e2 ⟨r, g1, x, r2, g2, g3, y, r3, g4, g5, g6⟩ => qq vs H2 e2 ⟨x, y, by rw [g1, g2, g4, g6], g3, g5⟩)) fun v H1 e ⟨t, ws, g1, g2, x, y, g3, g4, g5⟩ => ⟨t, x, y, g1, by rw [g2, g3], g4, g5⟩
/-- enumerate(list) gone through, none let by -/
theorem el_lcEnumNo {jk jx : Nat} {a : Addr} {vs : List Nat} {xs : List V} {tl : TE} (h : Ev tl σ H (.ref a)) (hs : SqL K H a xs) (hz : xs.length ≤ 40000)
    (hw : ∀ x y, wipe (((wipe σ vs).set jk (some x)).set jx (some y)) vs = wipe σ vs)
    (ht : ∀ (i : Nat) x H1, Ex H H1 → xs[i]? = some x → EvT tt (((wipe σ vs).set jk (some (.int (i : Int)))).set jx (some x)) H1 false) :
    EvL (tLc (iEnum K (tCons tl tNil)) (gTup K 2 (gCons (gName jk) (gCons (gName jx) gNil))) tt tx vs) σ H [] := fun H0 e Q q => h H0 e _ fun H1 ee => ⟨a, xs, rfl, ex_l (e.trans ee) hs, fun Dl hD => by
    refine lc_it (walk_enum (xs := xs)) (fun i H' => H1 Dl = none ∧ Ex H1 H' ∧ H' Dl = some (.lst [])) ⟨hD, Ex.new hD, upd_same⟩ (fun i H' _ pv => ex_l ((e.trans ee).trans pv.2.1) hs) (fun i x H2 H3 hi pv y => ?_) (fun H2 pv => q Dl H2 (fresh_back ee pv.1) (ee.trans pv.2.1) pv.2.2)
    obtain ⟨A, x0, y0, rfl, hn, rfl, hx0, hy0⟩ := y
    cases hx0
    have hAD : Dl ≠ A := ne_of_none pv.2.2 hn
    refine ⟨A, _, rfl, SqT.of upd_same, rfl, _, _, rfl, _, _, rfl, rfl, hw _ _, ?_⟩
    have e3 : Ex H1 (upd H2 A (.tup [.int (i : Nat), y0])) := pv.2.1.trans (Ex.new hn)
    refine ht i y0 H1 (e.trans ee) hy0 _ e3 _ fun H4 e4 => ?_
    exact ⟨pv.1, e3.trans e4, e4 _ _ (by rw [upd_ne hAD]; exact pv.2.2)⟩⟩
theorem ev_eqL0 (h : EvL te σ H []) : Ev (tOp (rEqD K) te (tLst tNil)) σ H (.bl true) :=
  ev_is (ev_opLL (xs := ([] : List Int).map V.int) (ys := ([] : List Int).map V.int) h el_nil fun p q H1 hp hq _ => RPI.rv_eqDI (SqL.of hp) (SqL.of hq)) (by simp)
end
end RWD

/-! Where two strips are unlike; turned on to one another. Plain. -/
namespace RPB
open PySem PySem.Spec PyProof.Rows L2 Evl TL RC RD RP RPL
/-! ### two periods -/
theorem chain {w : Nat → Nat} {g L : Nat} (h : ∀ i, i + g < L → w i = w (i + g)) : ∀ (m i : Nat), i + m * g < L → w i = w (i + m * g)
  | 0, i, _ => by rw [Nat.zero_mul]; rfl
  | m + 1, i, hi => by
    rw [Nat.succ_mul] at hi ⊢
    have h1 := chain h m i (by omega)
    have h2 := h (i + m * g) (by omega)
    rw [h1, h2, Nat.add_assoc]
theorem fine_wilf : ∀ (n p q : Nat) (w : Nat → Nat) (L : Nat), p + q ≤ n → 0 < p → 0 < q → p ≤ q → p + q ≤ L + Nat.gcd p q → (∀ i, i + p < L → w i = w (i + p)) → (∀ i, i + q < L → w i = w (i + q)) → ∀ i, i + Nat.gcd p q < L → w i = w (i + Nat.gcd p q)
  | 0, p, q, _, _, hn, hp, _, _, _, _, _ => by omega
  | n + 1, p, q, w, L, hn, hp, hq, hpq, hL, h1, h2 => by
    by_cases e : p = q
    · subst e
      rw [Nat.gcd_self]
      exact h1
    · have hg : Nat.gcd p q = Nat.gcd p (q - p) := by rw [Nat.gcd_sub_self_right hpq]
      have g0 : 0 < Nat.gcd p q := Nat.gcd_pos_of_pos_left _ hp
      have gp : Nat.gcd p q ∣ p := Nat.gcd_dvd_left _ _
      have gqp : Nat.gcd p q ∣ q - p := hg ▸ Nat.gcd_dvd_right p (q - p)
      have gle : Nat.gcd p q ≤ q - p := Nat.le_of_dvd (by omega) gqp
      have glp : Nat.gcd p q ≤ p := Nat.le_of_dvd hp gp
      obtain ⟨m, hm⟩ := gp
      -- the beginning of L - p
      have k1 : ∀ i, i + p < L - p → w i = w (i + p) := fun i hi => h1 i (by omega)
      have k2 : ∀ i, i + (q - p) < L - p → w i = w (i + (q - p)) := fun i hi => by
        have a1 := h2 i (by omega)
        have a2 := h1 (i + (q - p)) (by omega)
        rw [a1, a2, show i + (q - p) + p = i + q by omega]
      have ih : ∀ i, i + Nat.gcd p q < L - p → w i = w (i + Nat.gcd p q) := by
        rcases Nat.le_total p (q - p) with c | c
        · have := fine_wilf n p (q - p) w (L - p) (by omega) hp (by omega) c (by rw [← hg]; omega) k1 k2
          rw [← hg] at this
          exact this
        · have := fine_wilf n (q - p) p w (L - p) (by omega) (by omega) hp c (by rw [Nat.gcd_comm, ← hg]; omega) k2 k1
          rw [Nat.gcd_comm, ← hg] at this
          exact this
      obtain ⟨g, hgg⟩ : ∃ g, g = Nat.gcd p q := ⟨_, rfl⟩
      rw [← hgg] at ih hm glp gle g0 hL ⊢
      intro i hi
      by_cases c : i + g < L - p
      · exact ih i c
      · by_cases c2 : p ≤ i
        · have a1 := h1 (i - p) (by omega)
          have a2 := h1 (i - p + g) (by omega)
          have a3 := ih (i - p) (by omega)
          rw [show i - p + p = i by omega] at a1
          rw [show i - p + g + p = i + g by omega] at a2
          rw [← a1, ← a2, a3]
        · have a1 := h1 (i + g - p) (by omega)
          rw [show i + g - p + p = i + g by omega] at a1
          obtain ⟨m', hm'⟩ : ∃ m', m = m' + 1 := ⟨m - 1, by
            cases m with
            | zero => rw [Nat.mul_zero] at hm; omega
            | succ m => omega⟩
          rw [hm', Nat.mul_add, Nat.mul_one, Nat.mul_comm] at hm
          have a2 := chain ih m' (i + g - p) (by omega)
          rw [show i + g - p + m' * g = i by omega] at a2
          rw [← a1, a2]
/-- two strips alike so long are alike for ever -/
theorem alike {f g : Nat → Nat} {b p q : Nat} (hf : Per f b p) (hg : Per g b q) (h : ∀ i, i < b + (p + q - Nat.gcd p q) → f i = g i) : ∀ i, f i = g i := by
  have p0 := hf.1
  have q0 := hg.1
  have g0 : 0 < Nat.gcd p q := Nat.gcd_pos_of_pos_left _ p0
  have gp : Nat.gcd p q ∣ p := Nat.gcd_dvd_left _ _
  have gq : Nat.gcd p q ∣ q := Nat.gcd_dvd_right _ _
  have glp : Nat.gcd p q ≤ p := Nat.le_of_dvd p0 gp
  have glq : Nat.gcd p q ≤ q := Nat.le_of_dvd q0 gq
  have h1 : ∀ i, i + p < p + q - Nat.gcd p q → f (b + i) = f (b + (i + p)) := fun i _ => by rw [← Nat.add_assoc, hf.2 _ (by omega)]
  have h2 : ∀ i, i + q < p + q - Nat.gcd p q → f (b + i) = f (b + (i + q)) := fun i hi => by rw [h _ (by omega), h (b + (i + q)) (by omega), ← Nat.add_assoc, hg.2 _ (by omega)]
  have hw : ∀ i, i + Nat.gcd p q < p + q - Nat.gcd p q → f (b + i) = f (b + (i + Nat.gcd p q)) := by
    rcases Nat.le_total p q with c | c
    · exact fine_wilf _ p q (fun i => f (b + i)) _ (Nat.le_refl _) p0 q0 c (by omega) h1 h2
    · have := fine_wilf _ q p (fun i => f (b + i)) (p + q - Nat.gcd p q) (Nat.le_refl _) q0 p0 c (by rw [Nat.gcd_comm]; omega) h2 h1
      rw [Nat.gcd_comm] at this
      exact this
  have red : ∀ n, n < p + q - Nat.gcd p q → f (b + n) = f (b + n % Nat.gcd p q) := fun n hn => by
    have e := Nat.div_add_mod n (Nat.gcd p q)
    rw [Nat.mul_comm] at e
    have := chain (w := fun i => f (b + i)) hw (n / Nat.gcd p q) (n % Nat.gcd p q) (by omega)
    have this' : f (b + n % Nat.gcd p q) = f (b + (n % Nat.gcd p q + n / Nat.gcd p q * Nat.gcd p q)) := this
    rw [this', show n % Nat.gcd p q + n / Nat.gcd p q * Nat.gcd p q = n by omega]
  have back : ∀ {f : Nat → Nat} {p : Nat}, Per f b p → ∀ n, f (b + n) = f (b + n % p) := fun {f p} hp n => by
    have e := Nat.div_add_mod n p
    rw [Nat.mul_comm] at e
    have := hp.mul (n / p) (b + n % p) (by omega)
    rw [← this]
    congr 1
    omega
  intro i
  by_cases c : i < b
  · exact h i (by omega)
  · obtain ⟨n, rfl⟩ : ∃ n, i = b + n := ⟨i - b, by omega⟩
    have m1 := Nat.mod_lt n p0
    have m2 := Nat.mod_lt n q0
    rw [back hf n, back hg n, red _ (by omega), ← h (b + n % q) (by omega), red (n % q) (by omega), Nat.mod_mod_of_dvd _ gp, Nat.mod_mod_of_dvd _ gq]
/-! ### a strip told by what is ahead and a round -/
theorem per_mono {f : Nat → Nat} {b c l : Nat} (h : Per f b l) (hc : b ≤ c) : Per f c l := ⟨h.1, fun i hi => h.2 i (by omega)⟩
theorem per_mul {f : Nat → Nat} {b l m : Nat} (h : Per f b l) (hm : 0 < m) (hd : l ∣ m) : Per f b m := ⟨hm, fun i hi => by
  obtain ⟨k, rfl⟩ := hd
  rw [Nat.mul_comm]
  exact h.mul k i hi⟩
theorem rep_seg {f : Nat → Nat} {c d : Nat} (h : Per f c d) : ∀ k, repT (seg f c d) k = seg f c (k * d)
  | 0 => by rw [Nat.zero_mul]; rfl
  | k + 1 => by
    have e : repT (seg f c d) (k + 1) = seg f c d ++ repT (seg f c d) k := by
      show (List.replicate (k + 1) (seg f c d)).flatten = _
      rw [List.replicate_succ, List.flatten_cons]
      rfl
    rw [e, rep_seg h k, Nat.succ_mul, Nat.add_comm (k * d) d, ← seg_add]
    congr 1
    exact seg_eq.mpr fun j _ => by rw [show c + d + j = c + j + d by omega, h.2 _ (by omega)]
theorem strip_of {f : Nat → Nat} {c d n k : Nat} (h : Per f c d) (hk : n ≤ c + k * d) : (seg f 0 c ++ repT (seg f c d) k).take n = seg f 0 n := by
  have := seg_add f 0 c (k * d)
  rw [Nat.zero_add] at this
  rw [rep_seg h, this, seg_takeL hk]
/-! ### unlike places -/
def A1 : Nat → Bool := fun x => decide (x = 1)
def mix (f g : Nat → Nat) : Nat → Nat := fun i => if f i = g i then 0 else 1
theorem mix_A {f g : Nat → Nat} {i : Nat} : A1 (mix f g i) = true ↔ f i ≠ g i := by
  unfold A1 mix
  by_cases c : f i = g i
  · simp [c]
  · simp [c]
theorem mix_b (f g : Nat → Nat) (i : Nat) : A1 (mix f g i) = !decide (f i = g i) := by
  unfold A1 mix
  by_cases c : f i = g i
  · simp [c]
  · simp [c]
theorem mix_comm (f g : Nat → Nat) : mix f g = mix g f := by
  funext i
  unfold mix
  by_cases c : f i = g i
  · rw [if_pos c, if_pos c.symm]
  · rw [if_neg c, if_neg fun e => c e.symm]
theorem mix_per {f g : Nat → Nat} {b l : Nat} (hf : Per f b l) (hg : Per g b l) : Per (mix f g) b l := ⟨hf.1, fun i hi => by
  unfold mix
  rw [hf.2 i hi, hg.2 i hi]⟩
theorem mix_lcm {f g : Nat → Nat} {b c p q : Nat} (hf : Per f b p) (hg : Per g c q) : Per (mix f g) (max b c) (Nat.lcm p q) :=
  have l0 := Nat.lcm_pos hf.1 hg.1
  mix_per (per_mul (per_mono hf (Nat.le_max_left _ _)) l0 (Nat.dvd_lcm_left _ _)) (per_mul (per_mono hg (Nat.le_max_right _ _)) l0 (Nat.dvd_lcm_right _ _))
/-- both have marks, unlike ones -/
def clash (f g : Nat → Nat) : Nat → Nat := fun i => if f i ≠ g i ∧ f i ≠ 46 ∧ g i ≠ 46 then 1 else 0
theorem clash_per {f g : Nat → Nat} {b l : Nat} (hf : Per f b l) (hg : Per g b l) : Per (clash f g) b l := ⟨hf.1, fun i hi => by
  unfold clash
  rw [hf.2 i hi, hg.2 i hi]⟩
theorem clash_lcm {f g : Nat → Nat} {b c p q : Nat} (hf : Per f b p) (hg : Per g c q) : Per (clash f g) (max b c) (Nat.lcm p q) :=
  have l0 := Nat.lcm_pos hf.1 hg.1
  clash_per (per_mul (per_mono hf (Nat.le_max_left _ _)) l0 (Nat.dvd_lcm_left _ _)) (per_mul (per_mono hg (Nat.le_max_right _ _)) l0 (Nat.dvd_lcm_right _ _))
theorem posn_nil {A : Nat → Bool} {f : Nat → Nat} {a n : Nat} : posn A f a n = [] ↔ ∀ i, i < n → A (f (a + i)) = false := by
  unfold posn
  rw [List.filter_eq_nil_iff]
  refine ⟨fun h i hi => ?_, fun h i hi => ?_⟩
  · have := h i (List.mem_range.mpr hi)
    simpa using this
  · rw [h i (List.mem_range.mp hi)]
    decide
theorem cw_zero {A : Nat → Bool} {f : Nat → Nat} (h : ∀ i, A (f i) = false) : ∀ n, cw A f n = 0
  | 0 => rfl
  | n + 1 => by
    show cw A f n + (if A (f n) = true then 1 else 0) = 0
    rw [cw_zero h n, h n]
    rfl
/-- the first one by what is listed -/
theorem first_of {f g : Nat → Nat} {b c p q : Nat} {z : V} (hf : Per f b p) (hg : Per g c q) (hz : NthV A1 (mix f g) 0 z) {n : Nat} (hn : n = max b c + (p + q - Nat.gcd p q)) :
    (∃ (m : Nat) (r : List Nat), posn A1 (mix f g) 0 n = m :: r ∧ z = .int (m : Int)) ∨ (posn A1 (mix f g) 0 n = [] ∧ z = .non) := by
  cases e : posn A1 (mix f g) 0 n with
  | cons m r => exact .inl ⟨m, r, rfl, hz.uniq (nth_early (k := 0) (by rw [e]; rfl))⟩
  | nil =>
    refine .inr ⟨rfl, ?_⟩
    rw [posn_nil] at e
    have all : ∀ i, f i = g i := alike (per_mono hf (Nat.le_max_left b c)) (per_mono hg (Nat.le_max_right b c)) fun i hi => by
      have := e i (by omega)
      rw [Nat.zero_add, mix_b] at this
      simpa using this
    exact hz.uniq (.inr ⟨rfl, fun m => by rw [cw_zero fun i => by rw [mix_b, all i]; simp]; exact Nat.le_refl 0⟩)
theorem posn_split (A : Nat → Bool) (f : Nat → Nat) (a : Nat) : ∀ n, posn A f 0 (a + n) = posn A f 0 a ++ (posn A f a n).map (a + ·)
  | 0 => by
    show posn A f 0 a = posn A f 0 a ++ []
    rw [List.append_nil]
  | n + 1 => by
    rw [← Nat.add_assoc, posn_succ, posn_split A f a n, posn_succ, List.map_append, List.append_assoc, Nat.zero_add]
    congr 2
    by_cases c : A (f (a + n)) = true
    · rw [if_pos c, if_pos c]
      rfl
    · rw [if_neg c, if_neg c]
      rfl
theorem posn_below {A : Nat → Bool} {f : Nat → Nat} {a n m : Nat} (h : n ≤ m) : (posn A f a m).filter (fun i => decide (i < n)) = posn A f a n := by
  unfold posn
  obtain ⟨k, rfl⟩ : ∃ k, m = n + k := ⟨m - n, by omega⟩
  rw [List.range_add, List.filter_append, List.filter_append]
  have e1 : (List.filter (fun i => A (f (a + i))) (List.range n)).filter (fun i => decide (i < n)) = List.filter (fun i => A (f (a + i))) (List.range n) := by
    rw [List.filter_eq_self]
    intro i hi
    have := List.mem_range.mp (List.mem_filter.mp hi).1
    simpa using this
  have e2 : (List.filter (fun i => A (f (a + i))) ((List.range k).map (n + ·))).filter (fun i => decide (i < n)) = [] := by
    rw [List.filter_eq_nil_iff]
    intro i hi
    obtain ⟨j, _, rfl⟩ := List.mem_map.mp (List.mem_filter.mp hi).1
    simp
  rw [e1, e2, List.append_nil]
theorem posn_mem {A : Nat → Bool} {f : Nat → Nat} {a n i : Nat} (h : i ∈ posn A f a n) : i < n := List.mem_range.mp (List.mem_filter.mp h).1
/-- ahead of the round, and in it -/
theorem posn_parts (A : Nat → Bool) (f : Nat → Nat) (a n : Nat) : (posn A f 0 (a + n)).filter (fun i => decide (i < a)) = posn A f 0 a ∧ ((posn A f 0 (a + n)).filter (fun i => decide (a ≤ i))).map (· - a) = posn A f a n := by
  refine ⟨posn_below (Nat.le_add_right _ _), ?_⟩
  rw [posn_split, List.filter_append]
  have e1 : (posn A f 0 a).filter (fun i => decide (a ≤ i)) = [] := by
    rw [List.filter_eq_nil_iff]
    intro i hi
    have := posn_mem hi
    simp
    omega
  have e2 : ((posn A f a n).map (a + ·)).filter (fun i => decide (a ≤ i)) = (posn A f a n).map (a + ·) := by
    rw [List.filter_eq_self]
    intro i hi
    obtain ⟨j, _, rfl⟩ := List.mem_map.mp hi
    simp
  rw [e1, e2, List.nil_append, List.map_map]
  conv => rhs; rw [← List.map_id (posn A f a n)]
  refine List.map_congr_left fun i _ => ?_
  show a + i - a = i
  omega
theorem posn_enum {f g : Nat → Nat} (n : Nat) : given n (fun i => !decide (f i = g i)) (fun i => V.int (i : Int)) = (posn A1 (mix f g) 0 n).map fun (i : Nat) => V.int (i : Int) := by
  rw [given_filter]
  unfold posn
  congr 1
  refine List.filter_congr fun i _ => ?_
  rw [Nat.zero_add, mix_b]
theorem clash_b (f g : Nat → Nat) (i : Nat) : A1 (clash f g i) = (!decide (f i = g i) && (!decide (f i = 46) && !decide (g i = 46))) := by
  unfold A1 clash
  by_cases c : f i = g i
  · simp [c]
  · by_cases c2 : f i = 46
    · simp [c, c2]
    · by_cases c3 : g i = 46
      · simp [c, c2, c3]
      · simp [c, c2, c3]
theorem clash_enum {f g : Nat → Nat} (n : Nat) : given n (fun i => !decide (f i = g i) && (!decide (f i = 46) && !decide (g i = 46))) (fun i => V.int (i : Int)) = (posn A1 (clash f g) 0 n).map fun (i : Nat) => V.int (i : Int) := by
  rw [given_filter]
  unfold posn
  congr 1
  refine List.filter_congr fun i _ => ?_
  rw [Nat.zero_add, clash_b]
/-- the first clash by one common round -/
theorem first_clash {f g : Nat → Nat} {b c p q : Nat} {z : V} (hf : Per f b p) (hg : Per g c q) (hz : NthV A1 (clash f g) 0 z) :
    (∃ (m : Nat) (r : List Nat), posn A1 (clash f g) 0 (max b c + Nat.lcm p q) = m :: r ∧ z = .int (m : Int)) ∨ (posn A1 (clash f g) 0 (max b c + Nat.lcm p q) = [] ∧ z = .non) := by
  cases e : posn A1 (clash f g) 0 (max b c + Nat.lcm p q) with
  | cons m r => exact .inl ⟨m, r, rfl, hz.uniq (nth_early (k := 0) (by rw [e]; rfl))⟩
  | nil =>
    refine .inr ⟨rfl, ?_⟩
    have hp := clash_lcm hf hg
    rw [posn_split, List.append_eq_nil_iff, List.map_eq_nil_iff] at e
    exact hz.uniq (nth_none hp (by rw [e.1]; exact Nat.le_refl 0) e.2)
/-! ### turned on to another one -/
def Same (f g : Nat → Nat) (k : Nat) : Prop := ∀ i, f (i + k) = g i
def TurnV (f g : Nat → Nat) (z : V) : Prop := (∃ m : Nat, z = .int (m : Int) ∧ Same f g m ∧ ∀ k, k < m → ¬ Same f g k) ∨ (z = .non ∧ ∀ k, ¬ Same f g k)
theorem TurnV.uniq {f g : Nat → Nat} {y z : V} (hy : TurnV f g y) (hz : TurnV f g z) : y = z := by
  rcases hy with ⟨m, rfl, h1, h2⟩ | ⟨rfl, h1⟩
  · rcases hz with ⟨n, rfl, g1, g2⟩ | ⟨rfl, g1⟩
    · rcases Nat.lt_trichotomy m n with c | c | c
      · exact (g2 m c h1).elim
      · rw [c]
      · exact (h2 n c g1).elim
    · exact (g1 m h1).elim
  · rcases hz with ⟨n, rfl, g1, g2⟩ | ⟨rfl, g1⟩
    · exact (h1 n g1).elim
    · rfl
theorem per_turn {f : Nat → Nat} {c d : Nat} (k : Nat) (h : Per f c d) : Per (fun i => f (i + k)) (c - k) d := ⟨h.1, fun i hi => by
  show f (i + d + k) = f (i + k)
  rw [show i + d + k = i + k + d by omega, h.2 _ (by omega)]⟩
theorem rnd_turn {f : Nat → Nat} {c d : Nat} (k : Nat) (r : Rnd f c d) : Rnd (fun i => f (i + k)) (c - k) d := by
  refine ⟨per_turn k r.per, fun b l h => ?_, ?_⟩
  · refine r.least (b + k) l ⟨h.1, fun i hi => ?_⟩
    have := h.2 (i - k) (by omega)
    have this' : f (i - k + l + k) = f (i - k + k) := this
    rw [show i - k + l + k = i + l by omega, show i - k + k = i by omega] at this'
    exact this'
  · by_cases z : c - k = 0
    · exact .inl z
    · refine .inr ?_
      show f (c - k - 1 + k) ≠ f (c - k - 1 + d + k)
      rcases r.back with y | y
      · omega
      · rw [show c - k - 1 + k = c - 1 by omega, show c - k - 1 + d + k = c - 1 + d by omega]
        exact y
theorem same_rnd {f g : Nat → Nat} {c d c' d' k : Nat} (r : Rnd f c d) (s : Rnd g c' d') (h : Same f g k) : c' = c - k ∧ d' = d := by
  have e : (fun i => f (i + k)) = g := funext h
  have := rnd_turn k r
  rw [e] at this
  exact s.uniq this
/-- by pieces: from a place on both come round -/
theorem same_of {f g : Nat → Nat} {c c' d k : Nat} (hf : Per f c d) (hg : Per g c' d) (hk : c ≤ c' + k) (h : ∀ i, i < c' + d → f (i + k) = g i) : Same f g k := by
  have hf' : Per (fun i => f (i + k)) c' d := per_mono (per_turn k hf) (by omega)
  intro i
  induction i using Nat.strongRecOn with
  | ind i ih =>
    by_cases c : i < c' + d
    · exact h i c
    · have d0 := hf.1
      have a1 := ih (i - d) (by omega)
      have a2 := hf'.2 (i - d) (by omega)
      have a3 := hg.2 (i - d) (by omega)
      rw [show i - d + d = i by omega] at a2 a3
      have a2' : f (i + k) = f (i - d + k) := a2
      rw [a2', a3, a1]
theorem turn_ahead {f g : Nat → Nat} {c d c' d' : Nat} {z : V} (r : Rnd f c d) (s : Rnd g c' d') (h0 : 0 < c') (hz : TurnV f g z) :
    z = if c' ≤ c ∧ seg f (c - c') c' = seg g 0 c' ∧ seg f c d = seg g c' d' then .int ((c - c' : Nat) : Int) else .non := by
  have only : ∀ k, Same f g k → c' ≤ c ∧ k = c - c' ∧ d' = d := fun k hk => by
    obtain ⟨h1, h2⟩ := same_rnd r s hk
    exact ⟨by omega, by omega, h2⟩
  by_cases cc : c' ≤ c ∧ seg f (c - c') c' = seg g 0 c' ∧ seg f c d = seg g c' d'
  · rw [if_pos cc]
    obtain ⟨h1, h2, h3⟩ := cc
    have hd : d = d' := by
      have := congrArg List.length h3
      rwa [seg_len, seg_len] at this
    subst hd
    have hs : Same f g (c - c') := same_of r.per s.per (by omega) fun i hi => by
      by_cases y : i < c'
      · have := seg_eq.mp h2 i y
        rw [Nat.zero_add] at this
        rw [Nat.add_comm, this]
      · have := seg_eq.mp h3 (i - c') (by omega)
        rw [show c' + (i - c') = i by omega] at this
        rw [show i + (c - c') = c + (i - c') by omega, this]
    exact hz.uniq (.inl ⟨_, rfl, hs, fun k hk hk2 => by
      have := only k hk2
      omega⟩)
  · rw [if_neg cc]
    refine hz.uniq (.inr ⟨rfl, fun k hk => cc ?_⟩)
    obtain ⟨h1, h2, h3⟩ := only k hk
    subst h2 h3
    refine ⟨h1, seg_eq.mpr fun j hj => ?_, seg_eq.mpr fun j hj => ?_⟩
    · rw [Nat.zero_add, Nat.add_comm]
      exact hk j
    · have := hk (c' + j)
      rw [← this]
      congr 1
      omega
theorem at_lap {f g : Nat → Nat} {c d : Nat} (h : Per f c d) (i : Nat) : AtL (seg f c d ++ seg f c d) (seg g 0 d) i ↔ i ≤ d ∧ seg f (c + i) d = seg g 0 d := by
  have e1 : seg f c d ++ seg f c d = seg f c (d + d) := by
    rw [← seg_add]
    congr 1
    exact seg_eq.mpr fun j hj => by rw [show c + d + j = c + j + d by omega, h.2 _ (by omega)]
  rw [e1]
  unfold AtL
  rw [seg_len, seg_len]
  constructor
  · rintro ⟨h1, h2⟩
    rw [seg_dropL (by omega), seg_takeL (by omega)] at h2
    exact ⟨by omega, h2⟩
  · rintro ⟨h1, h2⟩
    exact ⟨by omega, by rw [seg_dropL (by omega), seg_takeL (by omega)]; exact h2⟩
theorem same_lap {f g : Nat → Nat} {c d : Nat} (hf : Per f c d) (hg : Per g 0 d) (j : Nat) : Same f g (c + j) ↔ seg f (c + j) d = seg g 0 d := by
  refine ⟨fun h => seg_eq.mpr fun i _ => ?_, fun h => same_of hf hg (by omega) fun i hi => ?_⟩
  · rw [Nat.zero_add, Nat.add_comm]
    exact h i
  · have := seg_eq.mp h i (by omega)
    rw [Nat.zero_add] at this
    rw [Nat.add_comm, this]
theorem turn_round {f g : Nat → Nat} {c d d' : Nat} {z : V} (r : Rnd f c d) (s : Rnd g 0 d') (hz : TurnV f g z) :
    (d ≠ d' ∧ z = .non) ∨ (d = d' ∧ ((∃ j : Nat, AtL (seg f c d ++ seg f c d) (seg g 0 d') j ∧ (∀ k, k < j → ¬ AtL (seg f c d ++ seg f c d) (seg g 0 d') k) ∧ z = .int ((c + j : Nat) : Int)) ∨ ((∀ j, ¬ AtL (seg f c d ++ seg f c d) (seg g 0 d') j) ∧ z = .non))) := by
  have only : ∀ k, Same f g k → c ≤ k ∧ d' = d := fun k hk => by
    obtain ⟨h1, h2⟩ := same_rnd r s hk
    exact ⟨by omega, h2⟩
  by_cases cd : d = d'
  · subst cd
    refine .inr ⟨rfl, ?_⟩
    have d0 := r.per.1
    rcases hz with ⟨m, rfl, h1, h2⟩ | ⟨rfl, h1⟩
    · obtain ⟨g1, _⟩ := only m h1
      obtain ⟨j, rfl⟩ : ∃ j, m = c + j := ⟨m - c, by omega⟩
      have hj : j ≤ d := by
        by_cases y : j ≤ d
        · exact y
        · have : Same f g (c + (j - d)) := fun i => by
            have e := r.per.2 (i + (c + (j - d))) (by omega)
            rw [← e, show i + (c + (j - d)) + d = i + (c + j) by omega]
            exact h1 i
          exact absurd this (h2 _ (by omega))
      refine .inl ⟨j, (at_lap r.per j).mpr ⟨hj, (same_lap r.per s.per j).mp h1⟩, fun k hk ha => h2 (c + k) (by omega) ((same_lap r.per s.per k).mpr ((at_lap r.per k).mp ha).2), rfl⟩
    · exact .inr ⟨fun j ha => h1 (c + j) ((same_lap r.per s.per j).mpr ((at_lap r.per j).mp ha).2), rfl⟩
  · refine .inl ⟨cd, ?_⟩
    rcases hz with ⟨m, rfl, h1, h2⟩ | ⟨rfl, h1⟩
    · exact absurd (only m h1).2 fun e => cd e.symm
    · rfl
theorem turn_ex (f g : Nat → Nat) : ∃ z, TurnV f g z := by
  by_cases c : ∃ k, Same f g k
  · obtain ⟨k, hk⟩ := c
    obtain ⟨m, h1, h2⟩ := least_of (A := fun k => Same f g k) k hk
    exact ⟨_, .inl ⟨m, rfl, h1, h2⟩⟩
  · exact ⟨_, .inr ⟨rfl, fun k hk => c ⟨k, hk⟩⟩⟩
/-! ### by least rounds -/
theorem rnd_dvd {f : Nat → Nat} {c d b l : Nat} (r : Rnd f c d) (h : Per f b l) : d ∣ l := by
  have hd := r.per.1
  have hb := per_shift h r.per
  by_cases z : l % d = 0
  · exact Nat.dvd_of_mod_eq_zero z
  · have hm := Nat.div_add_mod l d
    rw [Nat.mul_comm] at hm
    have := r.least b (l % d) ⟨Nat.pos_of_ne_zero z, fun i hi => by
      have h1 := h.2 i hi
      have h2 := hb.mul (l / d) (i + l % d) (by omega)
      rw [show i + l % d + l / d * d = i + l by omega] at h2
      rw [← h2, h1]⟩
    have := Nat.mod_lt l hd
    omega
theorem rnd_two {f g : Nat → Nat} {b l b' l' c d c' d' : Nat} (r : Rnd f c d) (s : Rnd g c' d') (hf : Per f b l) (hg : Per g b' l') : max c c' + Nat.lcm d d' ≤ max b b' + Nat.lcm l l' := by
  have h1 := r.le hf
  have h2 := s.le hg
  have h3 : Nat.lcm d d' ∣ Nat.lcm l l' := Nat.lcm_dvd (Nat.dvd_trans (rnd_dvd r hf) (Nat.dvd_lcm_left _ _)) (Nat.dvd_trans (rnd_dvd s hg) (Nat.dvd_lcm_right _ _))
  have h4 := Nat.le_of_dvd (Nat.lcm_pos hf.1 hg.1) h3
  omega
theorem rnd_same {f g : Nat → Nat} {b l c d c' d' : Nat} (r : Rnd f c d) (s : Rnd g c' d') (hf : Per f b l) (hg : Per g b l) : max c c' + Nat.lcm d d' ≤ b + l := by
  have := rnd_two r s hf hg
  rwa [Nat.max_self, Nat.lcm_self] at this
theorem cw_iff {A B : Nat → Bool} {f g : Nat → Nat} (h : ∀ i, A (f i) = B (g i)) : ∀ n, cw A f n = cw B g n
  | 0 => rfl
  | n + 1 => by
    show cw A f n + (if A (f n) = true then 1 else 0) = cw B g n + (if B (g n) = true then 1 else 0)
    rw [cw_iff h n, h n]
theorem nth_iff {A B : Nat → Bool} {f g : Nat → Nat} (h : ∀ i, A (f i) = B (g i)) {k : Nat} {z : V} (hz : NthV A f k z) : NthV B g k z := by
  rcases hz with ⟨m, h1, h2, h3⟩ | ⟨h1, h2⟩
  · exact .inl ⟨m, h1, by rw [← h m]; exact h2, by rw [← cw_iff h m]; exact h3⟩
  · exact .inr ⟨h1, fun m => by rw [← cw_iff h m]; exact h2 m⟩
end RPB

/-! A list that grows between draws; a list unpacked; comprehensions over pairs; max and sorted of a list. -/
namespace RUX
open PySem PySem.Spec PyProof.Rows L2 Evl TL RC RD RE RG RU RM RMB RMU
section
variable {K : PySem.W.Frag} {R R1 : Hp → Prop} {b l : Addr} {σ : L2.St} {H H1 H2 H0 G0 G G1 : Hp} {te ta : TE} {tt : TT} {tz : TS} {D : Ends} {xs ys : List V} {P : V → Hp → Prop}
/-! ### a list that grows -/
theorem _root_.RMU.Mut.step (M : Mut R b H0 G0 G l xs H) (r : R1 H2) (s : Stp b H H2 G G1) : Mut R1 b H0 G0 G1 l xs H2 :=
  ⟨r, M.s.trans s, (s.new l (by rw [M.lst]; exact fun z => by cases z)).trans M.g, M.z, s.old _ _ M.own⟩
/-- xs = [e], e drawn -/
theorem sd_asgM1 {i : Nat} (Dw1 : Drw R1 b) (h : EvB R R1 b te σ G P) (k : ∀ v G1 l H1, Ex G G1 → P v G1 → Mut R1 b H0 G0 G1 l [v] H1 → tz D (σ.set i (some (.ref l))) H1) :
    StD R b H0 G0 (tSeq (tAsg (tLst (tCons te tNil)) (gName i)) tz) D σ G := fun H hR s =>
  h H hR s.sub _ fun v H1 G1 r1 x1 p1 => ⟨sz_of (show 1 ≤ 100000 by decide), fun p hp => k v G1 p _ x1.kn p1 (Mut.begin Dw1 r1 (s.trans x1) hp (Ex.new hp) upd_same)⟩
/-- xs = [] -/
theorem sd_asgM0 {i : Nat} (Dw : Drw R b) (k : ∀ l H1, Mut R b H0 G0 G l [] H1 → tz D (σ.set i (some (.ref l))) H1) :
    StD R b H0 G0 (tSeq (tAsg (tLst tNil) (gName i)) tz) D σ G := fun H hR s =>
  ⟨sz_of (show 0 ≤ 100000 by decide), fun p hp => k p _ (Mut.begin Dw hR s hp (Ex.new hp) upd_same)⟩
/-- xs.append(e), e drawn -/
theorem s_appM (Dw : Drw R b) (Dw1 : Drw R1 b) (M : Mut R b H0 G0 G l xs H) (ha : Ev ta σ H (.ref l)) (hz : xs.length < 100000) (h : ∀ H1, Mut R b H0 G0 G l xs H1 → ∀ Q : VK, RetD R1 b G P H1 Q → te σ H1 Q)
    (k : ∀ v G1 H1, Ex G G1 → P v G1 → Mut R1 b H0 G0 G1 l (xs ++ [v]) H1 → D.nx σ H1) : tDrop (tBM K "list" rAppend ta (tCons te tNil)) D σ H :=
  ha H (Ex.refl H) _ fun H1 e1 => ⟨Or.inl ⟨rfl, xs, sq_of ((M.ex Dw e1).lst)⟩, h H1 (M.ex Dw e1) _ fun v H2 G1 r2 s2 p2 =>
    ⟨l, xs, v, rfl, rfl, ((M.ex Dw e1).step r2 s2).lst, sz_lt hz, k v G1 _ s2.kn p2 (((M.ex Dw e1).step r2 s2).set Dw1 (xs ++ [v]))⟩⟩
/-- a call among draws, what it takes told of the heap as it stands -/
theorem call_M {sp : Sp} {dvs vs : List V} {E : XK} {tr : TA} (Dw : Drw R b) (M : Mut R b H0 G0 G l xs H) (h : EvA tr σ H vs) (hs : ∀ H1, R H1 → Ex G (Hd b H1) → ∀ Q : VK, RetD R1 b G P H1 Q → ∀ E : XK, sp (vs ++ dvs) H1 Q E) (Q : VK) (q : RetD R1 b G P H Q) : tCall sp dvs E tr σ H Q :=
  h H (Ex.refl H) _ fun H1 e1 => hs H1 (M.ex Dw e1).r (M.ex Dw e1).s.sub Q (fun v H' G' r s p => q v H' G' r ((Dw.stp M.r M.s.sub e1).2.trans s) p) E
/-! ### unpacking -/
theorem sd_unl3 {i j k : Nat} {x y z : V} (Dw : Drw R b) (h : EvL te σ G [x, y, z]) (kk : ∀ G1, Ex G G1 → StD R b H0 G0 tz D (((σ.set i (some x)).set j (some y)).set k (some z)) G1) :
    StD R b H0 G0 (tSeq (tAsg te (gUnl K 3 (gCons (gName i) (gCons (gName j) (gCons (gName k) gNil))))) tz) D σ G := fun H hR s =>
  ed_el Dw h H hR s.sub _ fun v H1 G1 r1 x1 hv => by
    obtain ⟨q, rfl, hq⟩ := hv
    exact ⟨q, _, rfl, SqL.of (Hd_sub b H1 _ _ (x1.sub _ _ hq)), rfl, _, _, rfl, _, _, rfl, _, _, rfl, rfl, kk G1 x1.kn H1 r1 (s.trans x1)⟩
theorem sd_unlV {i j k : Nat} {a : Addr} {x y z : V} (Dw : Drw R b) (h : Ev te σ G (.ref a)) (ha : G a = some (.lst [x, y, z])) (kk : StD R b H0 G0 tz D (((σ.set i (some x)).set j (some y)).set k (some z)) G) :
    StD R b H0 G0 (tSeq (tAsg te (gUnl K 3 (gCons (gName i) (gCons (gName j) (gCons (gName k) gNil))))) tz) D σ G := fun H hR s =>
  h H (s.sub.trans (Hd_sub b H)) _ fun H1 e1 => ⟨a, _, rfl, SqL.of (e1 _ _ (Hd_sub b H _ _ (s.sub _ _ ha))), rfl, _, _, rfl, _, _, rfl, _, _, rfl, rfl, kk H1 (Dw.ex hR e1).1 (s.trans (Dw.stp hR s.sub e1).2)⟩
/-! ### max, sorted -/
theorem ev_maxL {ns : List Int} {m : Int} (h : EvL te σ H (ns.map V.int)) (hm : m ∈ ns) (hy : ∀ y ∈ ns, y ≤ m) : Ev (tCB (rMax K) (tCons te tNil)) σ H (.int m) := fun H1 e Q q =>
  h H1 e _ fun p H2 hp e2 h2 => ⟨p, ns, rfl, SqL.of h2, List.length_pos_of_mem hm, fun m' k1 k2 => by
    have e3 := hy m' k1
    have e4 := k2 m hm
    have e5 : m' = m := by omega
    rw [e5]
    exact q H2 e2⟩
theorem sd_asgSort {i : Nat} {ns : List Int} (Dw : Drw R b) (h : EvL te σ G (ns.map V.int)) (h64 : ns.length < 64) (k : ∀ (ns' : List Int) p G1, ns'.Perm ns → ns'.Pairwise (· ≤ ·) → Ex G G1 → G1 p = some (.lst (ns'.map V.int)) → StD R b H0 G0 tz D (σ.set i (some (.ref p))) G1) :
    StD R b H0 G0 (tSeq (tAsg (tCB (rSorted K) (tCons te tNil)) (gName i)) tz) D σ G := fun H hR s =>
  ed_el Dw h H hR s.sub _ fun v H1 G1 r1 x1 hv => by
    obtain ⟨q, rfl, hq⟩ := hv
    refine ⟨q, ns, rfl, SqL.of (Hd_sub b H1 _ _ (x1.sub _ _ hq)), h64, fun ns' p hp hs hn => ?_⟩
    obtain ⟨r2, x2⟩ := Dw.stpNew (o := .lst (ns'.map V.int)) r1 x1.sub hn
    exact k ns' p _ hp hs (x1.kn.trans x2.kn) upd_same _ r2 ((s.trans x1).trans x2)
/-! ### comprehensions over pairs -/
def Prs (K : PySem.W.Frag) (n : Nat) (x y : Nat → V) (w : V) (H : Hp) : Prop := ∃ a xs, w = .ref a ∧ H a = some (.lst xs) ∧ xs.length = n ∧ ∀ i z, xs[i]? = some z → ∃ q, z = .ref q ∧ SqT K H q [x i, y i]
theorem el_lcT2 {n j k : Nat} {x y v : Nat → V} {f : Nat → Bool} {vs : List Nat} {tel : TE} (h : EvP te σ H (Prs K n x y)) (hz : n ≤ 40000)
    (hw : ∀ x y, wipe (((wipe σ vs).set j (some x)).set k (some y)) vs = wipe σ vs)
    (ht : ∀ i H1, i < n → Ex H H1 → EvT tt (((wipe σ vs).set j (some (x i))).set k (some (y i))) H1 (f i)) (he : ∀ i H1, i < n → Ex H H1 → f i = true → Ev tel (((wipe σ vs).set j (some (x i))).set k (some (y i))) H1 (v i)) :
    EvL (tLc (iList K te) (gTup K 2 (gCons (gName j) (gCons (gName k) gNil))) tt tel vs) σ H (given n f v) := fun H0 e Q q => h H0 e _ fun w H1 e1 hw' => by
  obtain ⟨a, xs, rfl, h1, h2, h3⟩ := hw'
  refine ⟨a, rfl, ⟨xs, SqL.of h1⟩, fun Dl hD => lc_list (xs := xs) (Cw H1 f v Dl) ⟨hD, Ex.new hD, upd_same⟩ (fun i H' _ p => ex_l p.2.1 (SqL.of h1)) (fun i z H' hi p => ?_) (fun H' p => q Dl H' (fresh_back e1 p.1) (e1.trans p.2.1) (by have := p.2.2; rwa [h2] at this))⟩
  have hin : i < n := by
    have := (List.getElem?_eq_some_iff.mp hi).1
    omega
  obtain ⟨q0, rfl, hq⟩ := h3 i z hi
  exact ⟨q0, _, rfl, ex_t p.2.1 hq, rfl, _, _, rfl, _, _, rfl, rfl, hw _ _, cw_turn p (by omega) (ht i H1 hin (e.trans e1)) (fun hf => he i H1 hin (e.trans e1) hf)⟩
theorem evp_L (h : Ev te σ H (.ref l)) (hl : H l = some (.lst xs)) : EvP te σ H (fun w H' => w = .ref l ∧ Ex H H') := fun H1 e Q q => h H1 e _ fun H2 e2 => q _ H2 e2 ⟨rfl, e.trans e2⟩
theorem evp_three0 {t1 t2 t3 : TE} {x y : Nat → V} (h1 : EvU t1 σ H [x 0, y 0]) (h2 : EvU t2 σ H [x 1, y 1]) (h3 : EvU t3 σ H [x 2, y 2]) :
    EvP (tLst (tCons t1 (tCons t2 (tCons t3 tNil)))) σ H (Prs K 3 x y) := fun H0 e Q q =>
  h1 H0 e _ fun a H1 ha e1 g1 => h2 H1 (e.trans e1) _ fun b H2 hb e2 g2 => h3 H2 ((e.trans e1).trans e2) _ fun c H3 hc e3 g3 => ⟨sz_of (show 3 ≤ 100000 by decide), fun p hp => q _ _ (((e1.trans e2).trans e3).trans (Ex.new hp)) ⟨p, _, rfl, upd_same, rfl, fun i z hi => by
    match i, hi with
    | 0, hi => cases hi; exact ⟨a, rfl, SqT.of ((Ex.new hp) _ _ (e3 _ _ (e2 _ _ g1)))⟩
    | 1, hi => cases hi; exact ⟨b, rfl, SqT.of ((Ex.new hp) _ _ (e3 _ _ g2))⟩
    | 2, hi => cases hi; exact ⟨c, rfl, SqT.of ((Ex.new hp) _ _ g3)⟩⟩⟩
/-- [(a, b), (c, d), (e, f)] -/
theorem evp_three {t1 t2 t3 t4 t5 t6 : TE} {x y : Nat → V} (h1 : Ev t1 σ H (x 0)) (h2 : Ev t2 σ H (y 0)) (h3 : Ev t3 σ H (x 1)) (h4 : Ev t4 σ H (y 1)) (h5 : Ev t5 σ H (x 2)) (h6 : Ev t6 σ H (y 2)) :
    EvP (tLst (tCons (tTup (tCons t1 (tCons t2 tNil))) (tCons (tTup (tCons t3 (tCons t4 tNil))) (tCons (tTup (tCons t5 (tCons t6 tNil))) tNil)))) σ H (Prs K 3 x y) :=
  evp_three0 (eu_tup (ea_cons h1 (ea_cons h2 ea_nil)) (show 2 ≤ 100000 by decide)) (eu_tup (ea_cons h3 (ea_cons h4 ea_nil)) (show 2 ≤ 100000 by decide)) (eu_tup (ea_cons h5 (ea_cons h6 ea_nil)) (show 2 ≤ 100000 by decide))
end
/-! ### where two part, of three: the plain law -/
theorem first0 {f g : Nat → Nat} {z : V} (h : RPL.NthV RPB.A1 (RPB.mix f g) 0 z) : (∃ m : Nat, z = .int (m : Int) ∧ f m ≠ g m ∧ ∀ i, i < m → f i = g i) ∨ (z = .non ∧ ∀ i, f i = g i) := by
  have same : ∀ {m : Nat}, RPL.cw RPB.A1 (RPB.mix f g) m ≤ 0 → ∀ i, i < m → f i = g i := fun {m} hm i hi => by
    have h1 := RPL.cw_mono RPB.A1 (RPB.mix f g) (show i + 1 ≤ m by omega)
    have h2 : RPL.cw RPB.A1 (RPB.mix f g) (i + 1) = RPL.cw RPB.A1 (RPB.mix f g) i + if RPB.A1 (RPB.mix f g i) = true then 1 else 0 := rfl
    rw [RPB.mix_b] at h2
    by_cases c : f i = g i
    · exact c
    · rw [decide_eq_false c] at h2
      simp only [Bool.not_false, if_true] at h2
      omega
  rcases h with ⟨m, h1, h2, h3⟩ | ⟨h1, h2⟩
  · refine .inl ⟨m, h1, fun c => ?_, same (by omega)⟩
    rw [RPB.mix_b, decide_eq_true c] at h2
    cases h2
  · exact .inr ⟨h1, fun i => same (h2 (i + 1)) i (by omega)⟩
/-- a place that one pair parts at: another parts there or sooner -/
theorem sooner {f g h : Nat → Nat} {x y z : V} (hx : RPL.NthV RPB.A1 (RPB.mix f g) 0 x) (hy : RPL.NthV RPB.A1 (RPB.mix g h) 0 y) (hz : RPL.NthV RPB.A1 (RPB.mix f h) 0 z) {m : Nat} (hm : x = .int (m : Int)) : (∃ k : Nat, y = .int (k : Int) ∧ k ≤ m) ∨ ∃ k : Nat, z = .int (k : Int) ∧ k ≤ m := by
  have ne : f m ≠ g m := by
    rcases first0 hx with ⟨m', h1, h2, _⟩ | ⟨h1, _⟩
    · rw [hm] at h1
      cases h1
      exact h2
    · rw [hm] at h1
      cases h1
  by_cases c : g m = h m
  · refine .inr ?_
    rcases first0 hz with ⟨k, h1, _, h3⟩ | ⟨_, h3⟩
    · exact ⟨k, h1, Nat.le_of_not_lt fun lt => ne (by rw [c, h3 m lt])⟩
    · exact absurd (h3 m) fun e => ne (by rw [c, e])
  · refine .inl ?_
    rcases first0 hy with ⟨k, h1, _, h3⟩ | ⟨_, h3⟩
    · exact ⟨k, h1, Nat.le_of_not_lt fun lt => c (h3 m lt)⟩
    · exact absurd (h3 m) c
def intsOf (zs : List V) : List Int := zs.filterMap fun z => match z with | .int i => some i | _ => none
/-- of three first places the least one is there twice -/
theorem twice {f g h : Nat → Nat} {x y z : V} (hx : RPL.NthV RPB.A1 (RPB.mix f g) 0 x) (hy : RPL.NthV RPB.A1 (RPB.mix g h) 0 y) (hz : RPL.NthV RPB.A1 (RPB.mix f h) 0 z) {ns : List Int} (hp : ns.Perm (intsOf [x, y, z])) (hs : ns.Pairwise (· ≤ ·)) :
    ns = [] ∨ ∃ a r, ns = a :: a :: r := by
  have U1 := fun m => sooner hx hy hz (m := m)
  have U2 := fun m => sooner hy (by rw [RPB.mix_comm]; exact hz) (by rw [RPB.mix_comm]; exact hx) (m := m)
  have U3 := fun m => sooner hz (by rw [RPB.mix_comm]; exact hy) hx (m := m)
  have key : ∀ a, a ∈ intsOf [x, y, z] → 2 ≤ ((intsOf [x, y, z]).filter fun b => decide (b ≤ a)).length := by
    rcases first0 hx with ⟨i, rfl, _⟩ | ⟨rfl, _⟩ <;> rcases first0 hy with ⟨j, rfl, _⟩ | ⟨rfl, _⟩ <;> rcases first0 hz with ⟨k, rfl, _⟩ | ⟨rfl, _⟩
    all_goals try simp only [V.int.injEq, Int.ofNat_inj, exists_eq_left', reduceCtorEq, false_and, exists_false, or_false, false_or, forall_eq', forall_const, false_imp_iff, imp_false] at U1 U2 U3
    all_goals intro a ha
    all_goals try simp only [intsOf, List.filterMap_cons, List.filterMap_nil, List.mem_cons, List.not_mem_nil, or_false] at ha
    all_goals simp only [intsOf, List.filterMap_cons, List.filterMap_nil, List.filter_cons, List.filter_nil, decide_eq_true_eq]
    all_goals repeat' split
    all_goals simp only [List.length_cons, List.length_nil]
    all_goals omega
  match ns, hp, hs with
  | [], _, _ => exact .inl rfl
  | [a], hp, _ =>
    have h1 := key a (hp.mem_iff.mp List.mem_cons_self)
    rw [← (hp.filter _).length_eq] at h1
    have := List.length_filter_le (fun b => decide (b ≤ a)) [a]
    simp only [List.length_cons, List.length_nil] at this
    omega
  | a :: c :: r, hp, hs =>
    refine .inr ⟨a, r, ?_⟩
    have h1 := key a (hp.mem_iff.mp List.mem_cons_self)
    rw [← (hp.filter _).length_eq] at h1
    obtain ⟨s1, s2⟩ := List.pairwise_cons.mp hs
    obtain ⟨s3, _⟩ := List.pairwise_cons.mp s2
    by_cases e : c ≤ a
    · have := s1 c List.mem_cons_self
      rw [show c = a by omega]
    · exfalso
      have h2 : (c :: r).filter (fun b => decide (b ≤ a)) = [] := by
        rw [List.filter_eq_nil_iff]
        intro b hb
        rw [decide_eq_true_eq]
        rcases List.mem_cons.mp hb with rfl | hb
        · exact e
        · have := s3 b hb
          omega
      rw [List.filter_cons, h2] at h1
      split at h1 <;> simp at h1
/-! ### how often two part, of three -/
theorem tri (f g h : Nat → Nat) : ∀ n, RPL.cw RPB.A1 (RPB.mix f h) n ≤ RPL.cw RPB.A1 (RPB.mix f g) n + RPL.cw RPB.A1 (RPB.mix g h) n
  | 0 => Nat.le_refl 0
  | n + 1 => by
    have ih := tri f g h n
    show RPL.cw _ _ n + (if RPB.A1 (RPB.mix f h n) = true then 1 else 0) ≤ RPL.cw _ _ n + (if RPB.A1 (RPB.mix f g n) = true then 1 else 0) + (RPL.cw _ _ n + (if RPB.A1 (RPB.mix g h n) = true then 1 else 0))
    rw [RPB.mix_b, RPB.mix_b, RPB.mix_b]
    by_cases c1 : f n = g n
    · by_cases c2 : g n = h n
      · simp [c1, c2]
        omega
      · simp [c1, c2]
        omega
    · by_cases c2 : g n = h n
      · simp [c1, ← c2]
        omega
      · simp only [c1, c2, decide_false, Bool.not_false, if_true]
        split <;> omega
end RUX

/-! Lone marks: where they all meet; range with a step, loops so often as drawn. -/
namespace RLO
open PySem PySem.Spec PyProof.Rows L2 Evl TL RC RD RE RG RU RM RMB RMU RPI
theorem pi_listK {X : Cx} {K : PySem.W.Frag} {tg l : Expr} {tl : TE} (hK : X.K = K) (hl : PE X l tl) : PI X tg l (iList K tl) := by
  subst hK
  exact pi_list hl
/-- [..] == [], within a comprehension -/
theorem pts_lcNil {X : Cx} {K : PySem.W.Frag} {elt tg iter : Expr} {ifs : List Expr} {scope : Scope} {own : List (Str × Nat)} {pos pos2 pos3 : Pos} {wi : TI} {g : TG} {tt : TT} {te : TE} (hK : X.K = K) (hu : X.A.units + 64 < cLine) (hc : X.calm = true) (hN : X.N.Nodup) (hi : PI X tg iter wi) (ok : BlkOk X.N X.env.scope scope own)
    (hg : ∀ (s : Shared) (H : Hp) (C : Addr) (cl : List (Str × Addr)) (fp : List Addr), PG (X.blk s H scope (compEnvC scope cl C X.env) fp) tg g) (ht : ∀ (s : Shared) (H : Hp) (C : Addr) (cl : List (Str × Addr)) (fp : List Addr), PTs (X.blk s H scope (compEnvC scope cl C X.env) fp) ifs tt)
    (he : ∀ (s : Shared) (H : Hp) (C : Addr) (cl : List (Str × Addr)) (fp : List Addr), PE (X.blk s H scope (compEnvC scope cl C X.env) fp) elt te) (hs : ∀ x, foldedSetIterable iter X.env x = pure x := by intro _; rfl) :
    PTs X [.Compare (.ListComp elt [⟨tg, iter, ifs, 0⟩] scope pos) [.Eq] [.List [] pos2] pos3] (tTest (tOp (rEqD K) (tLc wi g tt te (own.map (·.2))) (tLst tNil))) := by
  subst hK
  exact pts_one (pt_cmpR (op_eqD hu) (pe_lc hc hN hi ok hg ht he hs) (pe_lst pa_nil) rfl)
section
variable {K : PySem.W.Frag} {R R1 : Hp → Prop} {b l : Addr} {σ : L2.St} {H H1 H2 H0 G0 G G1 : Hp} {te ta : TE} {tt : TT} {tz tu tw : TS} {D : Ends} {xs ys : List V} {P : V → Hp → Prop}
theorem rgC {i j c : Nat} (h0 : 0 < c) (hc : c ≤ 100000) (hi : i ≤ 100000) (hj : j ≤ 100000) (hij : i < j) : RgC (i : Int) (j : Int) (c : Int) ((j - i - 1) / c + 1) := by
  have hn : Builtin.Range.rangeSize (i : Int) (j : Int) (c : Int) = (((j - i - 1) / c + 1 : Nat) : Int) := by
    unfold Builtin.Range.rangeSize
    rw [if_pos (by omega), if_pos (by omega), Int.natCast_add, Int.natCast_ediv]
    congr 2
    omega
  have hd : (j - i - 1) / c ≤ j - i - 1 := Nat.div_le_self _ _
  generalize (j - i - 1) / c = t at hn hd ⊢
  refine ⟨by omega, by omega, ?_, hn⟩
  unfold Builtin.Range.small
  rw [hn]
  simp only [Builtin.Range.rangeFitsLong, if_pos (show (c : Int) > 0 by omega), Bool.and_eq_true, Bool.or_eq_true, decide_eq_true_eq]
  refine ⟨?_, .inr ?_⟩ <;> omega
/-- [e for x in range(i, j, c) if ..] -/
theorem el_lcR3 {tr : TA} {j : Nat} {vs : List Nat} {lo hi st : Nat} (f : Nat → Bool) (v : Nat → V) {tel : TE} (h : EvA tr σ H [.int (lo : Int), .int (hi : Int), .int (st : Int)]) (h0 : 0 < st) (hs : st ≤ 40000) (hl : lo < hi) (hh : hi ≤ 40000) (hw : ∀ x, wipe ((wipe σ vs).set j (some x)) vs = wipe σ vs)
    (ht : ∀ (i : Nat) H1, Ex H H1 → i < (hi - lo - 1) / st + 1 → EvT tt ((wipe σ vs).set j (some (.int ((lo + i * st : Nat) : Int)))) H1 (f i)) (he : ∀ (i : Nat) H1, Ex H H1 → i < (hi - lo - 1) / st + 1 → f i = true → Ev tel ((wipe σ vs).set j (some (.int ((lo + i * st : Nat) : Int)))) H1 (v i)) :
    EvL (tLc (iRng3 tr) (gName j) tt tel vs) σ H (given ((hi - lo - 1) / st + 1) f v) := fun H0 e Q q => h H0 e _ fun H1 e1 => ⟨(lo : Int), (hi : Int), (st : Int), (hi - lo - 1) / st + 1, rfl, rgC h0 (by omega) (by omega) (by omega) hl, fun Dl hD =>
  lc_it walk_rangeC (Cw H1 f v Dl) ⟨hD, Ex.new hD, upd_same⟩ (fun _ _ _ _ => trivial) (fun i x H2 H3 hi' p y => by
    obtain ⟨rfl, rfl⟩ := y
    have e0 : (lo : Int) + (i : Nat) * (st : Int) = ((lo + i * st : Nat) : Int) := by rw [Int.natCast_add, Int.natCast_mul]
    have hd : (hi - lo - 1) / st ≤ hi - lo - 1 := Nat.div_le_self _ _
    show gName j (V.int ((lo : Int) + (i : Nat) * (st : Int))) (wipe σ vs) H3 _
    rw [e0]
    exact ⟨hw _, cw_turn p (by omega) (ht i H1 (e.trans e1) hi') (he i H1 (e.trans e1) hi')⟩) (fun H' p => q Dl H' (fresh_back e1 p.1) (e1.trans p.2.1) p.2.2)⟩
/-- a loop so often as drawn, a list growing -/
theorem q_forR1M {tr : TA} {j : Nat} {Z : Nat → Prop} (M : Mut R b H0 G0 G l xs H) (h : EvAB R R1 b tr σ G (fun vs _ => ∃ n : Nat, vs = [.int (n : Int)] ∧ Z n)) (hN : ∀ n, Z n → n ≤ 100000) (Pv : Nat → Nat → L2.St → Hp → Prop) (h0 : ∀ n G1 H1, Z n → Ex G G1 → Mut R1 b H0 G0 G1 l xs H1 → Pv n 0 σ H1)
    (hs : ∀ (n i : Nat) σ' H', i < n → Z n → Pv n i σ' H' → tu { D with nx := Pv n (i + 1), ct := Pv n (i + 1), bk := tz D } (σ'.set j (some (.int (i : Int)))) H')
    (hd : ∀ n σ' H', Z n → Pv n n σ' H' → tz D σ' H') : tSeq (tFor (iRng1 tr) (gName j) tu) tz D σ H :=
  h H M.r M.s.sub _ fun vs H1 G1 r1 x1 ⟨n, hv, hz⟩ => ⟨(n : Int), hv, by omega, by have := hN n hz; omega, by
    rw [show ((n : Int)).toNat = n by omega]
    exact for_range (lo := 0) (n := n) (Pv n) (h0 n G1 H1 hz x1.kn (M.step r1 x1)) (fun i σ' H' hi p => by
      have e0 : (0 : Int) + (i : Int) = (i : Int) := Int.zero_add _
      show tu { D with nx := Pv n (i + 1), ct := Pv n (i + 1), bk := tz D } (σ'.set j (some (.int ((0 : Int) + (i : Int))))) H'
      rw [e0]
      exact hs n i σ' H' hi hz p) (fun σ' H' p => hd n σ' H' hz p)⟩
/-- a value drawn while a list is growing -/
theorem q_asgMB {i : Nat} (M : Mut R b H0 G0 G l xs H) (h : EvB R R1 b te σ G P) (k : ∀ v G1 H1, Ex G G1 → P v G1 → Mut R1 b H0 G0 G1 l xs H1 → tz D (σ.set i (some v)) H1) : tSeq (tAsg te (gName i)) tz D σ H :=
  h H M.r M.s.sub _ fun v H1 G1 r1 s1 p1 => k v G1 H1 s1.kn p1 (M.step r1 s1)
theorem sd_asgT2B {i j : Nat} (h : EvB R R1 b te σ G (fun v G' => ∃ t x y, v = .ref t ∧ G' t = some (.tup [x, y]) ∧ P v G')) (Dw1 : Drw R1 b) (k : ∀ t x y G1, Ex G G1 → G1 t = some (.tup [x, y]) → P (.ref t) G1 → StD R1 b H0 G0 tz D ((σ.set i (some x)).set j (some y)) G1) :
    StD R b H0 G0 (tSeq (tAsg te (gTup K 2 (gCons (gName i) (gCons (gName j) gNil)))) tz) D σ G := fun H hR s =>
  h H hR s.sub _ fun v H1 G1 r1 x1 ⟨t, x, y, hv, ht, hp⟩ => by
    subst hv
    exact ⟨t, _, rfl, SqT.of (Hd_sub b H1 _ _ (x1.sub _ _ ht)), rfl, _, _, rfl, _, _, rfl, rfl, k t x y G1 x1.kn ht hp H1 r1 (s.trans x1)⟩
/-- x, y = t, a pair that stands -/
theorem sd_tupV {i j : Nat} {a : Addr} {x y : V} (Dw : Drw R b) (h : Ev te σ G (.ref a)) (ha : G a = some (.tup [x, y])) (kk : StD R b H0 G0 tz D ((σ.set i (some x)).set j (some y)) G) :
    StD R b H0 G0 (tSeq (tAsg te (gTup K 2 (gCons (gName i) (gCons (gName j) gNil)))) tz) D σ G := fun H hR s =>
  h H (s.sub.trans (Hd_sub b H)) _ fun H1 e1 => ⟨a, _, rfl, SqT.of (e1 _ _ (Hd_sub b H _ _ (s.sub _ _ ha))), rfl, _, _, rfl, _, _, rfl, rfl, kk H1 (Dw.ex hR e1).1 (s.trans (Dw.stp hR s.sub e1).2)⟩
/-- an if with both ways, at the end -/
theorem sb_ifE (Dw : Drw R b) {t : TT} {c : Bool} (h : EvT t σ G c) (h1 : c = true → StD R b H0 G0 tu D σ G) (h2 : c = false → StD R b H0 G0 tw D σ G) : StD R b H0 G0 (tIfS t tu tw) D σ G := fun H hR s =>
  s_if (h.mono (s.sub.trans (Hd_sub b H))) (fun hc H1 e1 => h1 hc H1 (Dw.ex hR e1).1 (s.trans (Dw.stp hR s.sub e1).2)) (fun hc H1 e1 => h2 hc H1 (Dw.ex hR e1).1 (s.trans (Dw.stp hR s.sub e1).2))
theorem ev_eqNilL {ns : List Int} (h : EvL te σ H (ns.map V.int)) : Ev (tOp (rEqD K) te (tLst tNil)) σ H (.bl (decide (ns = []))) := fun H1 e Q q =>
  h H1 e _ fun p H2 hp e2 h2 => (el_nil : EvL (tLst tNil) σ H1 []) H2 e2 _ fun m H3 _ e3 hm => rv_eqDI (K := K) (ys := []) (SqL.of (e3 _ _ h2)) (SqL.of hm) H3 (Ex.refl _) _ fun H4 e4 => q H4 ((e2.trans e3).trans e4)
end
/-! ### where all meet -/
def Meet (cs : List (Nat × Nat)) (x : Nat) : Prop := ∀ c ∈ cs, x % c.1 = c.2
instance (cs : List (Nat × Nat)) (x : Nat) : Decidable (Meet cs x) := inferInstanceAs (Decidable (∀ c ∈ cs, x % c.1 = c.2))
def lcms (cs : List (Nat × Nat)) : Nat := cs.foldl (fun w c => Nat.lcm w c.1) 1
/-- the whole is a common round: divided by all, and the least such -/
structure Whole (cs : List (Nat × Nat)) (w : Nat) : Prop where
  pos : 0 < w
  up : ∀ c ∈ cs, c.1 ∣ w
  dn : ∀ d, (∀ c ∈ cs, c.1 ∣ d) → w ∣ d
theorem whole_nil : Whole [] 1 := ⟨Nat.one_pos, fun _ h => (by cases h), fun d _ => Nat.one_dvd d⟩
theorem Whole.snoc {cs : List (Nat × Nat)} {w s a : Nat} (h : Whole cs w) (hs : 0 < s) : Whole (cs ++ [(s, a)]) (Nat.lcm w s) :=
  ⟨Nat.lcm_pos h.pos hs, fun c hc => by
    rcases List.mem_append.mp hc with hc | hc
    · exact Nat.dvd_trans (h.up c hc) (Nat.dvd_lcm_left _ _)
    · rw [List.mem_singleton.mp hc]
      exact Nat.dvd_lcm_right _ _, fun d hd => Nat.lcm_dvd (h.dn d fun c hc => hd c (List.mem_append_left _ hc)) (hd (s, a) (List.mem_append_right _ List.mem_cons_self))⟩
theorem Whole.perm {cs ds : List (Nat × Nat)} {w : Nat} (h : Whole cs w) (p : ds.Perm cs) : Whole ds w := ⟨h.pos, fun c hc => h.up c (p.mem_iff.mp hc), fun d hd => h.dn d fun c hc => hd c (p.mem_iff.mpr hc)⟩
section
variable {cs : List (Nat × Nat)} {w : Nat}
theorem Meet.shift (h : Whole cs w) (x : Nat) : Meet cs (x % w) ↔ Meet cs x := by
  unfold Meet
  constructor
  · intro k c hc
    rw [← k c hc, Nat.mod_mod_of_dvd _ (h.up c hc)]
  · intro k c hc
    rw [← k c hc, Nat.mod_mod_of_dvd _ (h.up c hc)]
theorem Meet.one (h : Whole cs w) {x y : Nat} (hx : Meet cs x) (hy : Meet cs y) : x % w = y % w := by
  have key : ∀ {x y : Nat}, x ≤ y → Meet cs x → Meet cs y → x % w = y % w := fun {x y} le hx hy => by
    have hd : w ∣ y - x := h.dn _ fun c hc => by
      have := hx c hc
      have h2 := hy c hc
      exact Nat.dvd_of_mod_eq_zero (Nat.sub_mod_eq_zero_of_mod_eq (by rw [this, h2]))
    obtain ⟨q, hq⟩ := hd
    rw [show y = x + w * q by omega, Nat.add_mul_mod_self_left]
  rcases Nat.le_total x y with le | le
  · exact key le hx hy
  · exact (key le hy hx).symm
theorem Meet.iff (h : Whole cs w) {d : Nat} (hd : d < w) (hm : Meet cs d) (x : Nat) : Meet cs x ↔ x % w = d := by
  constructor
  · intro hx
    rw [Meet.one h hx hm, Nat.mod_eq_of_lt hd]
  · intro hx
    rw [← Meet.shift h x, hx]
    exact hm
theorem Whole.one {v : Nat} (h : Whole cs w) (k : Whole cs v) : w = v := Nat.dvd_antisymm (h.dn v k.up) (k.dn w h.up)
theorem whole_fold : ∀ (ds cs : List (Nat × Nat)) (w : Nat), (∀ c ∈ ds, 0 < c.1) → Whole cs w → Whole (cs ++ ds) (ds.foldl (fun w c => Nat.lcm w c.1) w)
  | [], cs, w, _, h => by
    rw [List.append_nil]
    exact h
  | (s, a) :: ds, cs, w, hp, h => by
    have := whole_fold ds (cs ++ [(s, a)]) (Nat.lcm w s) (fun c hc => hp c (List.mem_cons_of_mem _ hc)) (h.snoc (hp (s, a) List.mem_cons_self))
    rwa [List.append_assoc] at this
theorem whole_lcms {cs : List (Nat × Nat)} (hp : ∀ c ∈ cs, 0 < c.1) : Whole cs (lcms cs) := whole_fold cs [] 1 hp whole_nil
/-- the places looked at, and the first -/
def looked (cs : List (Nat × Nat)) (s a w : Nat) : List Nat := ((List.range ((w - a - 1) / s + 1)).filter fun i => decide (Meet cs (a + i * s))).map fun i => a + i * s
theorem looked_head {s a : Nat} (h : Whole cs w) (hc : (s, a) ∈ cs) (hs : 0 < s) (ha : a < w) : (∃ d r, looked cs s a w = d :: r ∧ d < w ∧ Meet cs d) ∨ (looked cs s a w = [] ∧ ∀ x, ¬ Meet cs x) := by
  cases hl : looked cs s a w with
  | cons d r =>
    refine .inl ⟨d, r, rfl, ?_⟩
    have hm : d ∈ looked cs s a w := by rw [hl]; exact List.mem_cons_self
    unfold looked at hm
    obtain ⟨i, hi, rfl⟩ := List.mem_map.mp hm
    obtain ⟨h1, h2⟩ := List.mem_filter.mp hi
    have h3 := List.mem_range.mp h1
    have h4 : i * s ≤ (w - a - 1) / s * s := Nat.mul_le_mul_right s (by omega)
    have h5 := Nat.div_mul_le_self (w - a - 1) s
    exact ⟨by omega, of_decide_eq_true h2⟩
  | nil =>
    refine .inr ⟨rfl, fun x hx => ?_⟩
    have hy := (Meet.shift h x).mpr hx
    have hyw := Nat.mod_lt x h.pos
    generalize x % w = y at hy hyw
    have h1 : y % s = a := hy (s, a) hc
    have h2 := Nat.div_add_mod y s
    rw [h1, Nat.mul_comm] at h2
    have h3 : y / s ≤ (w - a - 1) / s := (Nat.le_div_iff_mul_le hs).mpr (by omega)
    have h4 : y ∈ looked cs s a w := by
      unfold looked
      refine List.mem_map.mpr ⟨y / s, List.mem_filter.mpr ⟨List.mem_range.mpr (by omega), ?_⟩, by omega⟩
      rw [show a + y / s * s = y by omega]
      exact decide_eq_true hy
    rw [hl] at h4
    cases h4
/-! ### counts -/
theorem dv {q t : Nat} (h0 : 0 < w) (h : t < 2 * w) : (w * q + t) / w = q + if t < w then 0 else 1 := by
  rw [Nat.mul_add_div h0]
  split
  · rw [Nat.div_eq_of_lt (by assumption)]
  · have h1 : t / w = 1 := by
      rw [show t = t - w + w by omega, Nat.add_div_right _ h0, Nat.div_eq_of_lt (by omega)]
    rw [h1]
theorem cw_lone {A : Nat → Bool} {f : Nat → Nat} {d : Nat} (hd : d < w) (h : ∀ x, A (f x) = decide (x % w = d)) : ∀ n, RPL.cw A f n = (n + (w - 1 - d)) / w
  | 0 => by
    rw [Nat.zero_add, Nat.div_eq_of_lt (by omega)]
    rfl
  | n + 1 => by
    have h0 : 0 < w := by omega
    show RPL.cw A f n + (if A (f n) = true then 1 else 0) = _
    rw [cw_lone hd h n, h n]
    have h1 := Nat.div_add_mod n w
    have h2 := Nat.mod_lt n h0
    obtain ⟨q, hq⟩ : ∃ q, q = n / w := ⟨_, rfl⟩
    obtain ⟨r, hr⟩ : ∃ r, r = n % w := ⟨_, rfl⟩
    rw [← hr]
    rw [← hq, ← hr] at h1
    rw [← hr] at h2
    rw [← h1, show w * q + r + (w - 1 - d) = w * q + (r + (w - 1 - d)) by omega, show w * q + r + 1 + (w - 1 - d) = w * q + (r + 1 + (w - 1 - d)) by omega, dv h0 (by omega), dv h0 (by omega)]
    simp only [decide_eq_true_eq]
    split <;> split <;> split <;> omega
theorem nth_lone {A : Nat → Bool} {f : Nat → Nat} {d : Nat} (hd : d < w) (h : ∀ x, A (f x) = decide (x % w = d)) (k : Nat) : RPL.NthV A f k (.int ((d + k * w : Nat) : Int)) := by
  refine .inl ⟨_, rfl, ?_, ?_⟩
  · rw [h, Nat.add_mul_mod_self_right, Nat.mod_eq_of_lt hd]
    exact decide_eq_true rfl
  · rw [cw_lone hd h, show d + k * w + (w - 1 - d) = w - 1 + k * w by omega, Nat.add_mul_div_right _ _ (by omega), Nat.div_eq_of_lt (by omega), Nat.zero_add]
theorem nth_nowhere {A : Nat → Bool} {f : Nat → Nat} (h : ∀ x, A (f x) = false) (k : Nat) : RPL.NthV A f k .non := .inr ⟨rfl, fun m => by
  rw [RPB.cw_zero h]
  exact Nat.zero_le k⟩
end
end RLO

/-! sorted(set of texts), sorted(dict of texts) of any size; min of a list of texts; the one sorted list of some texts. -/
namespace RSK
open PySem PySem.Spec PyProof.Rows L2 RB
section
variable {P : Program} {w : World} {A : Around} {E : Value → Shared → Prop} {s : Shared}
/-- sorted(a set of texts) -/
theorem sorted_setA {a : Addr} {l : List Str} {Q : Value → Shared → Prop} (R : SetT w s.heap a l) (hh : A.handled = none) (h64 : l.length ≤ 16777216)
    (hQ : ∀ s' p (out : Array Value) (c : Nat) (ys : List Str), (∀ b o, s.heap.get? b = some o → s'.heap.get? b = some o) → s'.gens = s.gens → s'.os = s.os → s.heap.objs.size ≤ p →
      s'.heap.get? p = some (seqObj "list" out c) → StrsAre out.toList ys → ys.Perm l → sortedS ys = true → Q (.ref p) s') :
    wpAny (model P w) A (call (.builtin "sorted") [.ref a]) Q E s := by
  obtain ⟨o, es, ep, t, ho, hex, hd, g, p, nd, hb, hf, hr, hl⟩ := R
  refine Calls.call_function_entry kind_sorted plain_sorted entry_sorted (args_sorted1 _) ?_
  unfold Builtin.«sorted»
  refine wpAny_bind (m := checkCount "sorted" 1 1 _) (wpAny_pure ?_)
  refine wpAny_bind (collect_set (A := A.in1) hh ⟨o, ho, hex.1, hd⟩ hf hb hr hl fun s1 vs k1 hz g1 o1 pm => ?_)
  have hvl : vs.length = l.length := by
    have h1 := pm.length_eq
    have h2 := p.length_eq
    simp at h1 h2
    omega
  have hall : ∀ v ∈ vs, ∃ x t, v = Value.str x t := fun v hv => by
    obtain ⟨e, he, q⟩ := List.mem_map.mp (pm.mem_iff.mp hv)
    obtain ⟨z, tk, h1, _⟩ := g e he
    exact ⟨z, tk, by rw [← q]; exact h1⟩
  have hS := strsAre_map vs hall
  have ps : (vs.map strOf).Perm l := by
    have q := pm.map strOf
    have e2 := (strsAre_txOf g).strs
    rw [e2] at q
    exact q.trans p
  refine wpAny_bind (wpAny_newList ?_ (by rw [hvl, sizeLine_eq]; omega))
  have hoL : (s1.heap.push (seqObj "list" vs.toArray 0)).get? s1.heap.objs.size = some (seqObj "list" vs.toArray 0) := Heap.get?_push_size _ rfl
  refine wpAny_bind (wpAny_holding (wpAny_call_entry slot_list_sort ⟨_, hoL, rfl⟩ entry_list_sort
    (list_sort_treeKAny strKind_oneLt hoL hS.keysOf (fun v₁ v₂ rest e => keyKind_strs (by rw [← e]; exact hS)) (by rw [hvl, sizeLine_eq]; omega) fun st' hp hs => ⟨_, rfl, ?_⟩) (args_list_sort _)))
  obtain ⟨ys, a1, a2, a3⟩ := sorted_out_str hS hp hs
  obtain ⟨c, hc⟩ := sortedHeap_at (vs := vs) (out := (arrOf st').map (·.2)) hoL
  refine wpAny_pure ⟨_, rfl, hQ _ s1.heap.objs.size _ c ys (fun b u e => ?_) g1 o1 hz hc a1 (a2.trans ps) a3⟩
  have q := k1 b u e
  have hlt := Heap.lt_size q
  show (sortedHeap (s1.heap.push (seqObj "list" vs.toArray 0)) s1.heap.objs.size vs _).get? b = some u
  rw [sortedHeap_old (Nat.ne_of_lt hlt) (by rw [size_push']; exact Nat.lt_succ_of_lt hlt)]
  exact Heap.get?_push_of_some _ q
end
section
variable {X : Cx} {pins : List (Addr × Obj)} {σ : L2.St} {H : Hp} {s : Shared}
/-- sorted(a set of texts): a new list -/
def rSortedA (w : World) : List V → Hp → VK → Prop := fun vs H Q => ∃ (a : Addr) (l : List Str), vs = [V.ref a] ∧ H a = some (SetO w a l) ∧ l.length ≤ 16777216 ∧
  ∀ (ys : List Str) (p : Addr), ys.Perm l → sortedS ys = true → H p = none → Q (.ref p) (upd H p (.lst (ys.map V.str)))
theorem cr_sortedA (hc : X.calm = true) : CallR X (.builtin "sorted") (rSortedA X.w) := by
  intro pins s σ H vs us Q I r h
  obtain ⟨a, l, rfl, ha, h64, q⟩ := h
  have R : SetT X.w s.heap a l := (I.hok a _ ha).1
  rw [Vals.ref1 r]
  refine sorted_setA R (I.ok.hd hc) h64 fun s' p out c ys k g o hp hgt hi pm hso => ?_
  have hlen : (ys.map V.str).length ≤ sizeLine := by
    rw [List.length_map, pm.length_eq, sizeLine_eq]
    omega
  have hn : H p = none := I.hok.fresh hp
  have J : Inv X pins σ (upd H p (.lst (ys.map V.str))) { s with heap := s'.heap, gens := s'.gens, drawn := s'.drawn, toks := s'.toks } :=
    I.call (ch := []) (Un.laid k hp hn) (I.hok.laid k hp ⟨hlen, out.toList, c, vals_of_strs hi, hgt⟩) (by rw [g]; exact I.bare) (fun _ z => nomatch z)
  have e : s' = { s with heap := s'.heap, gens := s'.gens, drawn := s'.drawn, toks := s'.toks } := by
    cases s'
    cases s
    cases o
    rfl
  rw [e]
  exact ⟨.ref p, _, J, rfl, q ys p pm hso hn⟩
/-- sorted(d), d's keys texts -/
def rSortedDA : List V → Hp → VK → Prop := fun xs H Q => ∃ (a : Addr) (kvs : List (Key × V)) (ks : List Str), xs = [.ref a] ∧ Rd H a (.dK kvs) ∧ kvs.map (·.1) = ks.map Sum.inr ∧ ks.length ≤ 16777216 ∧
    ∀ ys p, ys.Perm ks → sortedS ys = true → H p = none → Q (.ref p) (upd H p (.lst (ys.map V.str)))
/-- sorted(d) of a dict of any size, all texts -/
theorem cr_sortedDA (hcalm : X.calm = true) : CallR X (.builtin "sorted") (rSortedDA) := by
  intro pins s σ H xs us Q I r q
  obtain ⟨a, kvs, ks, ex, hd, hks, h64, q⟩ := q
  subst ex
  obtain ⟨u, eu, rx⟩ := vals1 r
  subst eu
  cases rx
  obtain ⟨z, lo, vs, rel, dd⟩ := dk_rd I.hok hd
  obtain ⟨ep, hat⟩ := dd.dictAt
  have hkeys : vs.map (·.1) = ks.map Sum.inr := rel.keys.symm.trans hks
  have hl : vs.length = ks.length := by
    have e := congrArg List.length hkeys
    rw [List.length_map, List.length_map] at e
    exact e
  have h16 : vs.length ≤ sizeLine := by rw [hl, sizeLine_eq]; omega
  refine Calls.call_function_entry PyProof.Rows.kind_sorted PyProof.Rows.plain_sorted PyProof.Rows.entry_sorted (PyProof.Rows.args_sorted1 _) ?_
  unfold Builtin.«sorted»
  refine wpAny_bind (m := checkCount "sorted" 1 1 _) (wpAny_pure ?_)
  refine wpAny_bind (PySem.W.kdu_collect (A := X.A.in1) (PySem.W.kdl_dict (knd := mixKind X.prog X.w) (kvs := vs) (ep := ep) lo) (I.ok.hd hcalm) hat h16 fun h' tk acc hk hacc => ?_)
  have hal : acc.toList.length = ks.length := by rw [Array.length_toList, hacc.1, hl]
  have hS : StrsAre acc.toList ks := strs_at hal fun j v e => by
    obtain ⟨k, x, e1, e2⟩ := hacc.2 j v (by rw [← Array.getElem?_toList]; exact e)
    have e3 : (vs.map (·.1))[j]? = some k := by rw [List.getElem?_map, e1]; all_goals rfl
    rw [hkeys, List.getElem?_map] at e3
    cases e4 : ks[j]? with
    | none => rw [e4] at e3; cases e3
    | some y =>
      rw [e4] at e3
      have e5 : Sum.inr y = k := Option.some.inj e3
      subst e5
      obtain ⟨t, ev⟩ := Value.isStrOf_shape (x := y) (v := v) e2
      exact ⟨y, t, rfl, ev⟩
  have I1 : Inv X pins σ H { s with heap := h', toks := tk } := I.kept hk
  refine wpAny_bind (wpAny_newList ?_ (by rw [hal, sizeLine_eq]; omega))
  have hoL : (h'.push (seqObj "list" acc.toList.toArray 0)).get? h'.objs.size = some (seqObj "list" acc.toList.toArray 0) := Heap.get?_push_size _ rfl
  show wpAny _ _ _ _ _ { s with heap := h'.push (seqObj "list" acc.toList.toArray 0), toks := tk }
  refine wpAny_bind (wpAny_holding (wpAny_call_entry PyProof.Rows.slot_list_sort ⟨_, hoL, rfl⟩ PyProof.Rows.entry_list_sort
    (list_sort_treeKAny strKind_oneLt (s := { s with heap := h'.push (seqObj "list" acc.toList.toArray 0), toks := tk }) hoL hS.keysOf (fun v₁ v₂ rest e => keyKind_strs (by rw [← e]; exact hS)) (by rw [hal, sizeLine_eq]; omega) fun st' hp hs => ⟨_, rfl, ?_⟩)
    (PyProof.Rows.args_list_sort _)))
  obtain ⟨ys, g1, g2, g3⟩ := sorted_out_str hS hp hs
  obtain ⟨e', he'⟩ := PyProof.Rows.sortedHeap_at (vs := acc.toList) (out := (arrOf st').map (·.2)) hoL
  have hlen : (ys.map V.str).length ≤ sizeLine := by
    rw [List.length_map, g2.length_eq]
    rw [sizeLine_eq]; omega
  refine wpAny_pure ⟨_, rfl, .ref h'.objs.size, upd H h'.objs.size (.lst (ys.map V.str)), I1.laid (t' := tk) (fun b u e => ?_) (Nat.le_refl _)
    (show ObjOk X.prog X.w _ _ _ (.lst (ys.map V.str)) from ⟨hlen, ((arrOf st').map (·.2)).toList, e', vals_of_strs g1, by rw [Array.toArray_toList]; exact he'⟩), rfl, q ys _ g2 g3 (I1.hok.fresh (Nat.le_refl _))⟩
  have hb : b < h'.objs.size := Heap.lt_size e
  rw [PyProof.Rows.sortedHeap_old (Nat.ne_of_lt hb) (by rw [size_push']; exact Nat.lt_succ_of_lt hb)]
  exact Heap.get?_push_of_some _ e
end
/-! ### min of texts -/
section
variable {prog : Program} {w : World} {A : Around} {E : Value → Shared → Prop} {s : Shared} {l : Addr} {its : Array Value}
theorem iter_list {Q : Value → Shared → Prop} (hl : s.heap.IsList l its)
    (h : ∀ s₂ : Shared, s₂ = { s with heap := s.heap.push { cls := .type "list_iterator", data := .fields #[.ref l, .int 0 0] } } →
      (s₂.heap.IsListIter s.heap.objs.size l 0 ∧ s₂.heap.IsList l its) → (∀ b ∈ [s.heap.objs.size, l], b < s₂.heap.objs.size) → l ≠ s.heap.objs.size → Q (.ref s.heap.objs.size) s₂) :
    wpAny (model prog w) A (pyIter (.ref l)) Q E s := by
  have hlt : l < s.heap.objs.size := by obtain ⟨_, e, _⟩ := hl; exact Heap.lt_size e
  refine wpAny_pyIter_list hl (h _ rfl ⟨⟨_, Heap.get?_push_size _ rfl, rfl, rfl⟩, hl.push _⟩ (fun b hb => ?_) (Nat.ne_of_lt hlt))
  show b < (s.heap.push _).objs.size
  rw [Heap.size_push]
  rcases List.mem_cons.mp hb with rfl | hb
  · exact Nat.lt_succ_self _
  · rcases List.mem_cons.mp hb with rfl | hb
    · exact Nat.lt_succ_of_lt hlt
    · cases hb
def cpsAt (its : Array Value) (i : Nat) : List Nat := (its[i]?.map fun v => (strOf v).cps.toList).getD []
theorem cmp_texts {its : Array Value} (hS : ∀ (i : Nat) (v : Value), its[i]? = some v → ∃ x t, v = Value.str x t) : CmpOf prog w A .Lt (fun i v => its[i]? = some v) (fun i j => decide (cpsAt its i < cpsAt its j)) := fun i j vi vj s Q E hi hj h => by
  obtain ⟨x, t, rfl⟩ := hS i vi hi
  obtain ⟨y, u, rfl⟩ := hS j vj hj
  have e1 : cpsAt its i = x.cps.toList := by unfold cpsAt; rw [hi]; rfl
  have e2 : cpsAt its j = y.cps.toList := by unfold cpsAt; rw [hj]; rfl
  have h : Q (.bool (decide (cpsAt its i < cpsAt its j))) s := h
  rw [e1, e2] at h
  exact richCompare_gives (op := .Lt) (typeIs_str s x t) (typeIs_str s y u) F.slot_str_lt F.entry_str_lt (F.args_str_lt_2 _ _) (gives_str_lt x y t u) (fun x => nomatch x) h
theorem argBest_cps (f : Nat → List Nat) : ∀ k, argBest (fun i j => decide (f i < f j)) k ≤ k ∧ ∀ j, j ≤ k → ¬ f j < f (argBest (fun i j => decide (f i < f j)) k)
  | 0 => ⟨Nat.le_refl _, fun j hj => by
      have : j = 0 := by omega
      subst this
      exact List.lt_irrefl _⟩
  | k + 1 => by
    obtain ⟨h1, h2⟩ := argBest_cps f k
    simp only [argBest]
    by_cases hc : f (k + 1) < f (argBest (fun i j => decide (f i < f j)) k)
    · rw [if_pos (by simpa using hc)]
      refine ⟨Nat.le_refl _, fun j hj => ?_⟩
      rcases Nat.lt_or_ge j (k + 1) with hlt | hge
      · exact fun z => h2 j (by omega) (List.lt_trans z hc)
      · have : j = k + 1 := by omega
        subst this
        exact List.lt_irrefl _
    · rw [if_neg (by simpa using hc)]
      refine ⟨by omega, fun j hj => ?_⟩
      rcases Nat.lt_or_ge j (k + 1) with hlt | hge
      · exact h2 j (by omega)
      · have : j = k + 1 := by omega
        subst this
        exact hc
theorem min_texts {ss : List Str} {vs : List Value} {Q : Value → Shared → Prop} (hh : A.handled = none) (hl : s.heap.IsList l vs.toArray) (hS : StrsAre vs ss) (hne : 0 < ss.length)
    (h : ∀ m t' h' tk, (∀ b o, s.heap.get? b = some o → h'.get? b = some o) → m ∈ ss → (∀ y ∈ ss, ¬ y.cps.toList < m.cps.toList) → Q (.str m t') { s with heap := h', toks := tk }) :
    wpAny (model prog w) A (call (.builtin "min") [.ref l]) Q E s := by
  have hall := hS.all
  have hstr := hS.strs
  have hlen : vs.length = ss.length := by rw [← hstr, List.length_map]
  have hat : ∀ (i : Nat) (v : Value), vs.toArray[i]? = some v → ∃ x t, v = Value.str x t := fun i v hv => hall v (List.mem_of_getElem? (i := i) (by rw [← List.getElem?_toArray]; exact hv))
  refine call_min_walk (iter_list hl fun s₂ e st hfp hlI => ?_)
  subst e
  refine ⟨_, _, _, _, _, _, _, rfl, Walks.list (A := A.in1) hh _ l hlI vs.toArray, st, hfp, by simp; omega, cmp_texts hat, fun v h' tk hP hk => ?_⟩
  obtain ⟨g1, g2⟩ := argBest_cps (cpsAt vs.toArray) (vs.toArray.size - 1)
  generalize hb : argBest (fun i j => decide (cpsAt vs.toArray i < cpsAt vs.toArray j)) (vs.toArray.size - 1) = B at *
  obtain ⟨x, t, rfl⟩ := hat _ _ hP
  have hv : vs[B]? = some (Value.str x t) := by
    rw [← List.getElem?_toArray]
    exact hP
  have hxB : cpsAt vs.toArray B = x.cps.toList := by unfold cpsAt; rw [hP]; rfl
  refine h x t h' tk (fun b o e => ?_) ?_ fun y hy => ?_
  · refine hk b o (fun hm => ?_) (Heap.get?_push_of_some _ e)
    rcases List.mem_cons.mp hm with e1 | hm
    · exact absurd (e1 ▸ Heap.lt_size e) (Nat.lt_irrefl _)
    · cases hm
  · rw [← hstr]
    exact List.mem_map.mpr ⟨_, List.mem_of_getElem? hv, rfl⟩
  · rw [← hstr] at hy
    obtain ⟨u, hu, rfl⟩ := List.mem_map.mp hy
    obtain ⟨j, hj, rfl⟩ := List.getElem_of_mem hu
    have hcj : cpsAt vs.toArray j = (strOf vs[j]).cps.toList := by
      unfold cpsAt
      rw [show vs.toArray[j]? = some vs[j] by simp [hj]]
      rfl
    have := g2 j (by simp; omega)
    rwa [hxB, hcj] at this
end
section
variable {X : Cx}
def rMinT (K : PySem.W.Frag) : List V → Hp → VK → Prop := fun vs H Q => ∃ (a : Addr) (ss : List Str), vs = [V.ref a] ∧ SqL K H a (ss.map V.str) ∧ 0 < ss.length ∧ ∀ m, m ∈ ss → (∀ y ∈ ss, ¬ y.cps.toList < m.cps.toList) → Q (.str m) H
theorem cr_minT (hc : X.calm = true) : CallR X (.builtin "min") (rMinT X.K) := by
  intro pins s σ H vs us Q I r h
  obtain ⟨a, ss, rfl, hs, hne, q⟩ := h
  obtain ⟨its, rv, hl, _⟩ := I.list hs
  rw [Vals.ref1 r]
  exact min_texts (I.ok.hd hc) hl.isList rv.strs hne fun m t' h' tk hk h1 h2 => ⟨.str m, H, I.kept hk, ⟨t', rfl⟩, q m h1 h2⟩
end
/-! ### the least of some lists -/
def minL : List (List Nat) → List Nat
  | [] => []
  | [x] => x
  | x :: y :: r => if minL (y :: r) < x then minL (y :: r) else x
theorem minL_mem : ∀ {l : List (List Nat)}, l ≠ [] → minL l ∈ l
  | [], h => absurd rfl h
  | [x], _ => by simp [minL]
  | x :: y :: r, _ => by
    have ih := minL_mem (l := y :: r) (by simp)
    unfold minL
    split
    · exact List.mem_cons_of_mem _ ih
    · exact List.mem_cons_self
theorem minL_le : ∀ {l : List (List Nat)}, ∀ x ∈ l, ¬ x < minL l
  | [], x, h => by cases h
  | [y], x, h => by
    rw [List.mem_singleton.mp h]
    exact List.lt_irrefl _
  | a :: b :: r, x, h => by
    have ih := minL_le (l := b :: r)
    unfold minL
    split
    · rename_i c
      rcases List.mem_cons.mp h with rfl | h
      · exact fun z => List.lt_irrefl _ (List.lt_trans z c)
      · exact ih x h
    · rename_i c
      rcases List.mem_cons.mp h with rfl | h
      · exact List.lt_irrefl _
      · exact fun z => by
          have h1 := ih x h
          exact c (List.lt_of_le_of_lt (List.not_lt.mp h1) z)
theorem minL_of {l : List (List Nat)} {m : List Nat} (h1 : m ∈ l) (h2 : ∀ x ∈ l, ¬ x < m) : m = minL l := by
  have hne : l ≠ [] := fun z => by rw [z] at h1; cases h1
  exact List.le_antisymm (List.not_lt.mp (h2 _ (minL_mem hne))) (List.not_lt.mp (minL_le m h1))
theorem minL_eq {l m : List (List Nat)} (h : ∀ x, x ∈ l ↔ x ∈ m) : minL l = minL m := by
  cases l with
  | nil =>
    cases m with
    | nil => rfl
    | cons y r => exact absurd ((h y).mpr List.mem_cons_self) (by simp)
  | cons x r => exact minL_of ((h _).mp (minL_mem (by simp))) fun y hy => minL_le y ((h y).mpr hy)
/-! ### one sorted list -/
theorem sortedS_pw : ∀ {l : List Str}, sortedS l = true → l.Pairwise fun a b => ¬ b.cps.toList < a.cps.toList
  | [], _ => List.Pairwise.nil
  | x :: r, h => by
    have key : ∀ (r : List Str) (p : Str), risingS p r = true → (p :: r).Pairwise fun a b => ¬ b.cps.toList < a.cps.toList := by
      intro r
      induction r with
      | nil => exact fun p _ => List.pairwise_singleton _ _
      | cons y t ih =>
        intro p h
        have h' : (!ltCps y.cps.toList p.cps.toList && risingS y t) = true := h
        rw [Bool.and_eq_true] at h'
        have i2 := ih y h'.2
        have h1 : ¬ y.cps.toList < p.cps.toList := by
          have := h'.1
          rw [ltCps_eq] at this
          simpa using this
        refine List.pairwise_cons.mpr ⟨fun z hz => ?_, i2⟩
        rcases List.mem_cons.mp hz with rfl | hz
        · exact h1
        · exact fun c => h1 (List.lt_of_le_of_lt (List.not_lt.mp ((List.pairwise_cons.mp i2).1 z hz)) c)
    exact key r x h
theorem cps_inj {a b : Str} (h : a.cps.toList = b.cps.toList) : a = b := by
  cases a
  cases b
  simpa using h
theorem sorted_one : ∀ {a b : List Str}, sortedS a = true → sortedS b = true → a.Nodup → b.Nodup → (∀ x, x ∈ a ↔ x ∈ b) → a = b := fun {a b} ha hb na nb h => by
  have pw := sortedS_pw ha
  have pb := sortedS_pw hb
  clear ha hb
  induction a generalizing b with
  | nil =>
    cases b with
    | nil => rfl
    | cons y r => exact absurd ((h y).mpr List.mem_cons_self) (by simp)
  | cons x r ih =>
    cases b with
    | nil => exact absurd ((h x).mp List.mem_cons_self) (by simp)
    | cons y t =>
      have e : x = y := by
        rcases List.mem_cons.mp ((h x).mp List.mem_cons_self) with e | hx
        · exact e
        · rcases List.mem_cons.mp ((h y).mpr List.mem_cons_self) with e | hy
          · exact e.symm
          · have h1 := (List.pairwise_cons.mp pb).1 x hx
            have h2 := (List.pairwise_cons.mp pw).1 y hy
            exact cps_inj (List.le_antisymm (List.not_lt.mp h2) (List.not_lt.mp h1))
      subst e
      congr 1
      refine ih (List.nodup_cons.mp na).2 (List.nodup_cons.mp nb).2 (fun z => ?_) (List.pairwise_cons.mp pw).2 (List.pairwise_cons.mp pb).2
      have hxr := (List.nodup_cons.mp na).1
      have hxt := (List.nodup_cons.mp nb).1
      constructor
      · intro hz
        rcases List.mem_cons.mp ((h z).mp (List.mem_cons_of_mem _ hz)) with e | hz2
        · exact absurd (e ▸ hz) hxr
        · exact hz2
      · intro hz
        rcases List.mem_cons.mp ((h z).mpr (List.mem_cons_of_mem _ hz)) with e | hz2
        · exact absurd (e ▸ hz) hxt
        · exact hz2
end RSK

/-! Ways to lay pieces on a rim: plain. -/
namespace RWY
open RF RSK PySem PySem.Spec PyProof.Rows L2
/-! ### turned -/
def turn (r : List Nat) (k : Nat) : List Nat := r.drop k ++ r.take k
def turns (r : List Nat) : List (List Nat) := (List.range r.length).map (turn r)
def least (r : List Nat) : List Nat := minL (turns r)
theorem turn_len (r : List Nat) (k : Nat) : (turn r k).length = r.length := by simp [turn]; omega
theorem modk {a k L : Nat} (ha : a < L) (hk : k < L) : (a + k) % L = if a + k < L then a + k else a + k - L := by
  split
  · rename_i h
    exact Nat.mod_eq_of_lt h
  · rename_i h
    rw [Nat.mod_eq_sub_mod (by omega), Nat.mod_eq_of_lt (by omega)]
theorem turn_at {r : List Nat} {k j : Nat} (hk : k < r.length) (hj : j < r.length) : (turn r k).getD j 0 = r.getD ((j + k) % r.length) 0 := by
  rw [modk hj hk]
  unfold turn
  rw [List.getD_eq_getElem?_getD, List.getD_eq_getElem?_getD]
  split
  · rename_i h
    rw [List.getElem?_append_left (by simp; omega), List.getElem?_drop, Nat.add_comm k j]
  · rename_i h
    rw [List.getElem?_append_right (by simp; omega), List.length_drop, List.getElem?_take_of_lt (by omega)]
    congr 2
    omega
theorem ext_at {a b : List Nat} (h : a.length = b.length) (h2 : ∀ i, i < a.length → a.getD i 0 = b.getD i 0) : a = b := by
  apply List.ext_getElem h
  intro i h3 h4
  have := h2 i h3
  rwa [List.getD_eq_getElem?_getD, List.getD_eq_getElem?_getD, List.getElem?_eq_getElem h3, List.getElem?_eq_getElem h4] at this
theorem turn_turn {r : List Nat} {k j : Nat} (hk : k < r.length) (hj : j < r.length) : turn (turn r k) j = turn r ((k + j) % r.length) := by
  have h0 : 0 < r.length := by omega
  have hm : (k + j) % r.length < r.length := Nat.mod_lt _ h0
  refine ext_at (by rw [turn_len, turn_len, turn_len]) fun i hi => ?_
  rw [turn_len, turn_len] at hi
  rw [turn_at (by rw [turn_len]; exact hj) (by rw [turn_len]; exact hi), turn_len, turn_at hk (Nat.mod_lt _ h0), turn_at hm hi]
  congr 1
  rw [Nat.add_mod_mod, Nat.mod_add_mod]
  congr 1
  omega
theorem turn_zero (r : List Nat) : turn r 0 = r := by simp [turn]
theorem turns_turn {r : List Nat} {k : Nat} (hk : k < r.length) : ∀ x, x ∈ turns (turn r k) ↔ x ∈ turns r := fun x => by
  have h0 : 0 < r.length := by omega
  unfold turns
  rw [turn_len]
  constructor
  · intro h
    obtain ⟨j, hj, rfl⟩ := List.mem_map.mp h
    rw [turn_turn hk (List.mem_range.mp hj)]
    exact List.mem_map.mpr ⟨_, List.mem_range.mpr (Nat.mod_lt _ h0), rfl⟩
  · intro h
    obtain ⟨i, hi, rfl⟩ := List.mem_map.mp h
    have hi' := List.mem_range.mp hi
    refine List.mem_map.mpr ⟨(i + (r.length - k)) % r.length, List.mem_range.mpr (Nat.mod_lt _ h0), ?_⟩
    rw [turn_turn hk (Nat.mod_lt _ h0), Nat.add_mod_mod]
    congr 1
    rw [show k + (i + (r.length - k)) = i + r.length by omega, Nat.add_mod_right, Nat.mod_eq_of_lt hi']
theorem least_turn {r : List Nat} {k : Nat} (hk : k < r.length) : least (turn r k) = least r := minL_eq (turns_turn hk)
theorem least_mem {r : List Nat} (h0 : 0 < r.length) : ∃ k, k < r.length ∧ least r = turn r k := by
  have hne : turns r ≠ [] := fun z => by
    have := congrArg List.length z
    unfold turns at this
    rw [List.length_map, List.length_range] at this
    simp at this
    rw [this] at h0
    simp at h0
  obtain ⟨k, hk, e⟩ := List.mem_map.mp (minL_mem hne)
  exact ⟨k, List.mem_range.mp hk, e.symm⟩
theorem least_len {r : List Nat} (h0 : 0 < r.length) : (least r).length = r.length := by
  obtain ⟨k, _, e⟩ := least_mem h0
  rw [e, turn_len]
/-! ### laid -/
def layG (f L : Nat) : Nat → List Nat → List Nat → Option (List Nat)
  | _, [], cur => some cur
  | i, c :: p, cur => if c = 63 then layG f L (i + 1) p cur else if cur.getD ((f + i) % L) 0 = 63 ∨ cur.getD ((f + i) % L) 0 = c then layG f L (i + 1) p (cur.set ((f + i) % L) c) else none
def lay (r p : List Nat) (f : Nat) : Option (List Nat) := layG f r.length 0 p r
theorem layG_len {f L : Nat} : ∀ {p cur x : List Nat} {i : Nat}, layG f L i p cur = some x → x.length = cur.length
  | [], cur, x, i, h => by
    cases h
    rfl
  | c :: p, cur, x, i, h => by
    unfold layG at h
    split at h
    · exact layG_len h
    · split at h
      · rw [layG_len h, List.length_set]
      · cases h
theorem lay_len {r p x : List Nat} {f : Nat} (h : lay r p f = some x) : x.length = r.length := layG_len h
theorem set_at {l : List Nat} {j c m : Nat} (hj : j < l.length) : (l.set j c).getD m 0 = if m = j then c else l.getD m 0 := by
  rw [List.getD_eq_getElem?_getD, List.getElem?_set]
  by_cases e : j = m
  · subst e
    rw [if_pos rfl, if_pos hj, if_pos rfl]
    rfl
  · rw [if_neg e, if_neg fun z => e z.symm, List.getD_eq_getElem?_getD]
theorem layG_turn {f f' L k : Nat} (hk : k < L) (hf : (f' + k) % L = f % L) : ∀ (p cur : List Nat) (i : Nat), cur.length = L → layG f' L i p (turn cur k) = (layG f L i p cur).map fun x => turn x k
  | [], cur, i, h => rfl
  | c :: p, cur, i, h => by
    have h0 : 0 < L := by omega
    have hj : (f' + i) % L < L := Nat.mod_lt _ h0
    have e : ((f' + i) % L + k) % L = (f + i) % L := by
      rw [Nat.mod_add_mod, show f' + i + k = f' + k + i by omega, ← Nat.mod_add_mod (f' + k), hf, Nat.mod_add_mod]
    have eg : (turn cur k).getD ((f' + i) % L) 0 = cur.getD ((f + i) % L) 0 := by
      rw [turn_at (by omega) (by omega), h, e]
    unfold layG
    rw [eg]
    split
    · exact layG_turn hk hf p cur (i + 1) h
    · split
      · have es : (turn cur k).set ((f' + i) % L) c = turn (cur.set ((f + i) % L) c) k := by
          have hi : (f + i) % L < cur.length := by rw [h]; exact Nat.mod_lt _ h0
          refine ext_at (by rw [List.length_set, turn_len, turn_len, List.length_set]) fun m hm => ?_
          rw [List.length_set, turn_len, h] at hm
          rw [set_at (by rw [turn_len]; omega), turn_at (r := cur.set _ c) (by rw [List.length_set]; omega) (by rw [List.length_set]; omega), set_at hi, List.length_set, turn_at (by omega) (by omega), h]
          have iff : (m = (f' + i) % L) ↔ ((m + k) % L = (f + i) % L) := by
            rw [← e]
            constructor
            · intro z
              rw [z]
            · intro z
              rw [modk hm hk, modk hj hk] at z
              split at z <;> split at z <;> omega
          by_cases d : m = (f' + i) % L
          · rw [if_pos d, if_pos (iff.mp d)]
          · rw [if_neg d, if_neg fun z => d (iff.mpr z)]
        rw [es]
        exact layG_turn hk hf p _ (i + 1) (by rw [List.length_set]; exact h)
      · rfl
theorem lay_turn {r p : List Nat} {k f f' : Nat} (hk : k < r.length) (hf : (f' + k) % r.length = f % r.length) : lay (turn r k) p f' = (lay r p f).map fun x => turn x k := by
  unfold lay
  rw [turn_len]
  exact layG_turn hk hf p r 0 rfl
/-! ### all ways -/
def blank (L : Nat) : List Nat := List.replicate L 63
def step (L : Nat) (p : List Nat) (A : List Nat → Prop) : List Nat → Prop := fun x => ∃ r f, A r ∧ f < L ∧ lay r p f = some x
def stepK (L : Nat) (p : List Nat) (A : List Nat → Prop) : List Nat → Prop := fun y => ∃ r f x, A r ∧ f < L ∧ lay r p f = some x ∧ y = least x
def setD (L : Nat) (ps : List (List Nat)) : List Nat → Prop := ps.foldl (fun A p => step L p A) fun x => x = blank L
def setK (L : Nat) (ps : List (List Nat)) : List Nat → Prop := ps.foldl (fun A p => stepK L p A) fun x => x = blank L
structure Rel (L : Nat) (A B : List Nat → Prop) : Prop where
  len : ∀ x, A x → x.length = L
  to : ∀ x, A x → B (least x)
  fro : ∀ y, B y → ∃ x, A x ∧ y = least x
theorem Rel.step {L : Nat} {A B : List Nat → Prop} (h0 : 0 < L) (h : Rel L A B) (p : List Nat) : Rel L (step L p A) (stepK L p B) where
  len := fun x ⟨r, f, h1, h2, h3⟩ => by rw [lay_len h3]; exact h.len r h1
  to := fun x ⟨r, f, h1, h2, h3⟩ => by
    have hl := h.len r h1
    obtain ⟨k, hk, e⟩ := least_mem (r := r) (by omega)
    rw [hl] at hk
    refine ⟨least r, (f + (L - k)) % L, turn x k, h.to r h1, Nat.mod_lt _ h0, ?_, ?_⟩
    · rw [e, lay_turn (f := f) (by omega) (by rw [hl, Nat.mod_add_mod, show f + (L - k) + k = f + L by omega, Nat.add_mod_right]), h3]
      rfl
    · rw [least_turn (by rw [lay_len h3, hl]; exact hk)]
  fro := fun y ⟨r, f, x, h1, h2, h3, h4⟩ => by
    obtain ⟨z, hz, e⟩ := h.fro r h1
    have hl := h.len z hz
    obtain ⟨k, hk, e2⟩ := least_mem (r := z) (by omega)
    rw [hl] at hk
    rw [e, e2, lay_turn (f := (f + k) % L) (by omega) (by rw [hl, Nat.mod_mod])] at h3
    cases hx : lay z p ((f + k) % L) with
    | none => rw [hx] at h3; cases h3
    | some w =>
      rw [hx] at h3
      have h5 : turn w k = x := Option.some.inj h3
      refine ⟨w, ⟨z, _, hz, Nat.mod_lt _ h0, hx⟩, ?_⟩
      rw [h4, ← h5, least_turn (by rw [lay_len hx, hl]; exact hk)]
theorem blank_len (L : Nat) : (blank L).length = L := List.length_replicate
theorem blank_at {L j : Nat} : (blank L).getD j 0 = 63 ∨ (blank L).getD j 0 = 0 := by
  unfold blank
  rw [List.getD_eq_getElem?_getD, List.getElem?_replicate]
  split
  · exact .inl rfl
  · exact .inr rfl
theorem blank_get {L j : Nat} (h : j < L) : (blank L).getD j 0 = 63 := by
  unfold blank
  rw [List.getD_eq_getElem?_getD, List.getElem?_replicate, if_pos h]
  rfl
theorem blank_turn {L k : Nat} (hk : k < L) : turn (blank L) k = blank L := by
  refine ext_at (by rw [turn_len]) fun i hi => ?_
  rw [turn_len, blank_len] at hi
  rw [turn_at (by rw [blank_len]; exact hk) (by rw [blank_len]; exact hi), blank_len, blank_get hi, blank_get (Nat.mod_lt _ (by omega))]
theorem blank_least {L : Nat} (h0 : 0 < L) : least (blank L) = blank L := by
  obtain ⟨k, hk, e⟩ := least_mem (r := blank L) (by rw [blank_len]; exact h0)
  rw [blank_len] at hk
  rw [e, blank_turn hk]
theorem rel_start {L : Nat} (h0 : 0 < L) : Rel L (fun x => x = blank L) (fun x => x = blank L) where
  len := fun x h => by rw [h, blank_len]
  to := fun x h => by rw [h, blank_least h0]
  fro := fun y h => ⟨y, h, by rw [h, blank_least h0]⟩
theorem rel_all {L : Nat} (h0 : 0 < L) : ∀ (ps : List (List Nat)) {A B : List Nat → Prop}, Rel L A B → Rel L (ps.foldl (fun A p => RWY.step L p A) A) (ps.foldl (fun A p => stepK L p A) B)
  | [], A, B, h => h
  | p :: ps, A, B, h => rel_all h0 ps (h.step h0 p)
theorem known_due {L : Nat} (h0 : 0 < L) (ps : List (List Nat)) : Rel L (setD L ps) (setK L ps) := rel_all h0 ps (rel_start h0)
/-! ### what agrees -/
def Agr (w x : List Nat) : Prop := x.length = w.length ∧ ∀ j, j < w.length → x.getD j 0 = 63 ∨ x.getD j 0 = w.getD j 0
theorem layG_agr {w : List Nat} {f : Nat} (h0 : 0 < w.length) : ∀ (p cur : List Nat) (i : Nat), Agr w cur → (∀ m, m < p.length → p.getD m 0 = 63 ∨ p.getD m 0 = w.getD ((f + i + m) % w.length) 0) → ∃ x, layG f w.length i p cur = some x ∧ Agr w x
  | [], cur, i, h, _ => ⟨cur, rfl, h⟩
  | c :: p, cur, i, h, hp => by
    have hj : (f + i) % w.length < w.length := Nat.mod_lt _ h0
    have hr : ∀ m, m < p.length → p.getD m 0 = 63 ∨ p.getD m 0 = w.getD ((f + (i + 1) + m) % w.length) 0 := fun m hm => by
      have := hp (m + 1) (by simp; omega)
      rw [show f + i + (m + 1) = f + (i + 1) + m by omega] at this
      simpa [List.getD] using this
    unfold layG
    split
    · exact layG_agr h0 p cur (i + 1) h hr
    · rename_i hc
      have hcw : c = w.getD ((f + i) % w.length) 0 := by
        have := hp 0 (by simp)
        simp [List.getD] at this
        rcases this with z | z
        · exact absurd z hc
        · rw [z, List.getD_eq_getElem?_getD]
      rw [if_pos (by rcases h.2 _ hj with z | z
                     · exact .inl z
                     · exact .inr (by rw [z, hcw]))]
      refine layG_agr h0 p _ (i + 1) ⟨by rw [List.length_set]; exact h.1, fun j hjw => ?_⟩ hr
      rw [set_at (by rw [h.1]; exact hj)]
      by_cases e : j = (f + i) % w.length
      · rw [if_pos e, e]
        exact .inr hcw
      · rw [if_neg e]
        exact h.2 j hjw
theorem agr_step {w p : List Nat} {o : Nat} {A : List Nat → Prop} (h0 : 0 < w.length) (hA : ∃ x, A x ∧ Agr w x) (hp : ∀ m, m < p.length → p.getD m 0 = 63 ∨ p.getD m 0 = w.getD ((o + m) % w.length) 0) : ∃ x, step w.length p A x ∧ Agr w x := by
  obtain ⟨x, h1, h2⟩ := hA
  obtain ⟨y, h3, h4⟩ := layG_agr (f := o % w.length) h0 p x 0 h2 fun m hm => by
    rw [Nat.add_zero, Nat.mod_add_mod]
    exact hp m hm
  refine ⟨y, ⟨x, o % w.length, h1, Nat.mod_lt _ h0, ?_⟩, h4⟩
  unfold lay
  rw [h2.1]
  exact h3
theorem agr_all {w : List Nat} (h0 : 0 < w.length) : ∀ (ps : List (List Nat)) {A : List Nat → Prop}, (∃ x, A x ∧ Agr w x) → (∀ p ∈ ps, ∃ o, ∀ m, m < p.length → p.getD m 0 = 63 ∨ p.getD m 0 = w.getD ((o + m) % w.length) 0) → ∃ x, ps.foldl (fun A p => step w.length p A) A x ∧ Agr w x
  | [], A, h, _ => h
  | p :: ps, A, h, hp => by
    obtain ⟨o, ho⟩ := hp p List.mem_cons_self
    exact agr_all h0 ps (agr_step h0 h ho) fun q hq => hp q (List.mem_cons_of_mem _ hq)
theorem agr_blank {w : List Nat} : Agr w (blank w.length) := ⟨blank_len _, fun j hj => .inl (blank_get hj)⟩
/-- some told rim is the wheel's, turned, as far as it is seen -/
theorem known_agr {w : List Nat} (h0 : 0 < w.length) (ps : List (List Nat)) (hp : ∀ p ∈ ps, ∃ o, ∀ m, m < p.length → p.getD m 0 = 63 ∨ p.getD m 0 = w.getD ((o + m) % w.length) 0) : ∃ y k, setK w.length ps y ∧ k < w.length ∧ Agr (turn w k) y := by
  obtain ⟨x, h1, h2⟩ := agr_all h0 ps (A := fun x => x = blank w.length) ⟨_, rfl, agr_blank⟩ hp
  obtain ⟨k, hk, e⟩ := least_mem (r := x) (by rw [h2.1]; exact h0)
  rw [h2.1] at hk
  refine ⟨least x, k, (known_due h0 ps).to x h1, hk, by rw [e, turn_len, turn_len]; exact h2.1, fun j hj => ?_⟩
  rw [turn_len] at hj
  rw [e, turn_at (by rw [h2.1]; exact hk) (by rw [h2.1]; exact hj), turn_at hk hj, h2.1]
  exact h2.2 _ (Nat.mod_lt _ h0)
/-! ### one piece -/
theorem layG_some {f L : Nat} (h0 : 0 < L) : ∀ {p cur x : List Nat} {i : Nat}, cur.length = L → (∀ c ∈ p, c ≠ 0) → layG f L i p cur = some x →
    (∀ j, j < L → cur.getD j 0 ≠ 63 → x.getD j 0 = cur.getD j 0) ∧ (∀ m, m < p.length → p.getD m 0 ≠ 63 → x.getD ((f + i + m) % L) 0 = p.getD m 0) ∧
    ∀ j, j < L → x.getD j 0 = cur.getD j 0 ∨ ∃ m, m < p.length ∧ (f + i + m) % L = j ∧ x.getD j 0 = p.getD m 0 ∧ p.getD m 0 ≠ 63
  | [], cur, x, i, hc, _, h => by
    cases h
    exact ⟨fun j _ _ => rfl, fun m hm => absurd hm (by simp), fun j _ => .inl rfl⟩
  | c :: p, cur, x, i, hc, hp, h => by
    have hj : (f + i) % L < cur.length := by rw [hc]; exact Nat.mod_lt _ h0
    have hp' : ∀ c ∈ p, c ≠ 0 := fun c hc => hp c (List.mem_cons_of_mem _ hc)
    have sh : ∀ m, (c :: p).getD (m + 1) 0 = p.getD m 0 := fun m => by simp [List.getD]
    have s0 : (c :: p).getD 0 0 = c := by simp [List.getD]
    unfold layG at h
    split at h
    · rename_i e
      obtain ⟨g1, g2, g3⟩ := layG_some h0 hc hp' h
      refine ⟨g1, fun m hm hne => ?_, fun j hjL => ?_⟩
      · cases m with
        | zero => exact absurd (s0.trans e) hne
        | succ m =>
          rw [sh] at hne ⊢
          have := g2 m (by simp at hm; omega) hne
          rwa [show f + (i + 1) + m = f + i + (m + 1) by omega] at this
      · rcases g3 j hjL with z | ⟨m, a1, a2, a3, a4⟩
        · exact .inl z
        · exact .inr ⟨m + 1, by simp; omega, by rw [← a2]; congr 1; omega, by rw [sh]; exact a3, by rw [sh]; exact a4⟩
    · rename_i e
      split at h
      · rename_i d
        obtain ⟨g1, g2, g3⟩ := layG_some h0 (by rw [List.length_set]; exact hc) hp' h
        have hx : x.getD ((f + i) % L) 0 = c := by
          have := g1 _ (Nat.mod_lt _ h0) (by rw [set_at hj, if_pos rfl]; exact e)
          rw [this, set_at hj, if_pos rfl]
        refine ⟨fun j hjL hne => ?_, fun m hm hne => ?_, fun j hjL => ?_⟩
        · by_cases ej : j = (f + i) % L
          · rcases d with d | d
            · rw [ej] at hne
              exact absurd d hne
            · rw [ej, hx, d]
          · have := g1 j hjL (by rw [set_at hj, if_neg ej]; exact hne)
            rw [this, set_at hj, if_neg ej]
        · cases m with
          | zero =>
            rw [s0, Nat.add_zero]
            exact hx
          | succ m =>
            rw [sh] at hne ⊢
            have := g2 m (by simp at hm; omega) hne
            rwa [show f + (i + 1) + m = f + i + (m + 1) by omega] at this
        · rcases g3 j hjL with z | ⟨m, a1, a2, a3, a4⟩
          · by_cases ej : j = (f + i) % L
            · exact .inr ⟨0, by simp, by rw [Nat.add_zero, ej], by rw [s0, ej, hx], by rw [s0]; exact e⟩
            · rw [set_at hj, if_neg ej] at z
              exact .inl z
          · exact .inr ⟨m + 1, by simp; omega, by rw [← a2]; congr 1; omega, by rw [sh]; exact a3, by rw [sh]; exact a4⟩
      · cases h
theorem layG_none {f L : Nat} (h0 : 0 < L) : ∀ {p cur : List Nat} {i : Nat}, cur.length = L → layG f L i p cur = none → ∀ z : List Nat, (∀ j, j < L → cur.getD j 0 ≠ 63 → z.getD j 0 = cur.getD j 0) → ¬ ∀ m, m < p.length → p.getD m 0 ≠ 63 → z.getD ((f + i + m) % L) 0 = p.getD m 0
  | [], cur, i, hc, h => by cases h
  | c :: p, cur, i, hc, h => by
    intro z hz hall
    have hjL : (f + i) % L < L := Nat.mod_lt _ h0
    have hj : (f + i) % L < cur.length := by rw [hc]; exact hjL
    have sh : ∀ m, (c :: p).getD (m + 1) 0 = p.getD m 0 := fun m => by simp [List.getD]
    have s0 : (c :: p).getD 0 0 = c := by simp [List.getD]
    have hr : ∀ m, m < p.length → p.getD m 0 ≠ 63 → z.getD ((f + (i + 1) + m) % L) 0 = p.getD m 0 := fun m hm hne => by
      have := hall (m + 1) (by simp; omega) (by rw [sh]; exact hne)
      rwa [sh, show f + i + (m + 1) = f + (i + 1) + m by omega] at this
    unfold layG at h
    split at h
    · exact layG_none h0 hc h z hz hr
    · rename_i e
      have hzc : z.getD ((f + i) % L) 0 = c := by
        have := hall 0 (by simp) (by rw [s0]; exact e)
        rwa [s0, Nat.add_zero] at this
      split at h
      · rename_i d
        refine layG_none h0 (by rw [List.length_set]; exact hc) h z (fun j hj2 hne => ?_) hr
        rw [set_at hj] at hne ⊢
        by_cases ej : j = (f + i) % L
        · rw [if_pos ej, ej, hzc]
        · rw [if_neg ej] at hne ⊢
          exact hz j hj2 hne
      · rename_i d
        have := fun w => hz _ hjL w
        by_cases w : cur.getD ((f + i) % L) 0 = 63
        · exact d (.inl w)
        · exact d (.inr (by rw [← hz _ hjL w, hzc]))
theorem col_get {l : List Nat} {k p c : Nat} (hk : 0 < k) (hp : p < k) : c ∈ col l k p ↔ c ≠ 63 ∧ ∃ i, i < l.length ∧ i % k = p ∧ l.getD i 0 = c := by
  rw [mem_col hk]
  constructor
  · rintro ⟨h1, j, h2, h3⟩
    refine ⟨h1, p + j * k, h2, by rw [Nat.add_mul_mod_self_right, Nat.mod_eq_of_lt hp], by rw [List.getD_eq_getElem?_getD, h3]; rfl⟩
  · rintro ⟨h1, i, h2, h3, h4⟩
    have e : p + i / k * k = i := by
      have := Nat.div_add_mod i k
      rw [Nat.mul_comm, h3] at this
      omega
    refine ⟨h1, i / k, by rw [e]; exact h2, ?_⟩
    rw [e, List.getElem?_eq_getElem h2]
    rw [List.getD_eq_getElem?_getD, List.getElem?_eq_getElem h2] at h4
    exact congrArg some h4
theorem lay_rim {p : List Nat} {L : Nat} (h0 : 0 < L) (hp : ∀ c ∈ p, c ≠ 0) : lay (blank L) p 0 = rimOf p L := by
  have hrl : (rimL p L).length = L := by simp [rimL]
  have rat : ∀ j, j < L → (rimL p L).getD j 0 = rimAt p L j := fun j hj => by simp [rimL, List.getD, hj]
  have one : ∀ (hf : fitsOne p L) (i : Nat), i < p.length → p.getD i 0 ≠ 63 → rimAt p L (i % L) = p.getD i 0 := fun hf i hi hne => by
    have hm : p.getD i 0 ∈ col p L (i % L) := (col_get h0 (Nat.mod_lt _ h0)).mpr ⟨hne, i, hi, rfl, rfl⟩
    unfold rimAt
    cases hc : col p L (i % L) with
    | nil => rw [hc] at hm; cases hm
    | cons d r => exact hf _ (Nat.mod_lt _ h0) d (by rw [hc]; exact List.mem_cons_self) _ hm
  unfold lay
  rw [blank_len]
  cases hx : layG 0 L 0 p (blank L) with
  | none =>
    unfold rimOf
    rw [if_neg fun hf => layG_none h0 (blank_len L) hx (rimL p L) (fun j hj hne => absurd (blank_get hj) hne) fun m hm hne => ?_]
    rw [show 0 + 0 + m = m by omega, rat _ (Nat.mod_lt _ h0)]
    exact one hf m hm hne
  | some x =>
    have hl := layG_len hx
    rw [blank_len] at hl
    obtain ⟨g1, g2, g3⟩ := layG_some h0 (blank_len L) hp hx
    have hf : fitsOne p L := fun q hq a ha b hb => by
      obtain ⟨a1, i, a2, a3, a4⟩ := (col_get h0 hq).mp ha
      obtain ⟨b1, j, b2, b3, b4⟩ := (col_get h0 hq).mp hb
      have e1 := g2 i a2 (by rw [a4]; exact a1)
      have e2 := g2 j b2 (by rw [b4]; exact b1)
      rw [show 0 + 0 + i = i by omega, a3, a4] at e1
      rw [show 0 + 0 + j = j by omega, b3, b4] at e2
      rw [← e1, ← e2]
    unfold rimOf
    rw [if_pos hf]
    congr 1
    refine ext_at (by rw [hl, hrl]) fun j hj => ?_
    rw [hl] at hj
    rw [rat j hj]
    rcases g3 j hj with z | ⟨m, a1, a2, a3, a4⟩
    · rw [z, blank_get hj]
      unfold rimAt
      cases hc : col p L j with
      | nil => rfl
      | cons d r =>
        obtain ⟨d1, i, d2, d3, d4⟩ := (col_get h0 hj).mp (by rw [hc]; exact List.mem_cons_self : d ∈ col p L j)
        have e1 := g2 i d2 (by rw [d4]; exact d1)
        rw [show 0 + 0 + i = i by omega, d3, d4, z, blank_get hj] at e1
        exact absurd e1.symm d1
    · rw [show 0 + 0 + m = m by omega] at a2
      rw [a3, ← one hf m a1 a4, a2]
/-- of one piece -/
theorem known_one {p : List Nat} {L : Nat} (h0 : 0 < L) (hp : ∀ c ∈ p, c ≠ 0) (y : List Nat) : setK L [p] y ↔ ∃ x, rimOf p L = some x ∧ y = least x := by
  have hb := blank_len L
  constructor
  · rintro ⟨r, f, x, h1, h2, h3, h4⟩
    have h1 : r = blank L := h1
    subst h1
    have key : lay (blank L) p f = (lay (blank L) p 0).map fun x => turn x ((L - f) % L) := by
      have hk : (L - f) % L < L := Nat.mod_lt _ h0
      have := lay_turn (r := blank L) (p := p) (f := 0) (f' := f) (k := (L - f) % L) (by rw [hb]; exact hk) (by rw [hb, Nat.add_mod_mod, show f + (L - f) = L by omega, Nat.mod_self, Nat.zero_mod])
      rwa [blank_turn hk] at this
    rw [key, lay_rim h0 hp] at h3
    cases hx : rimOf p L with
    | none => rw [hx] at h3; cases h3
    | some w =>
      rw [hx] at h3
      have h5 : turn w ((L - f) % L) = x := Option.some.inj h3
      have hwl : w.length = L := by
        rw [← lay_rim h0 hp] at hx
        rw [lay_len hx, hb]
      exact ⟨w, rfl, by rw [h4, ← h5, least_turn (by rw [hwl]; exact Nat.mod_lt _ h0)]⟩
  · rintro ⟨x, h1, h2⟩
    exact ⟨blank L, 0, x, rfl, h0, by rw [lay_rim h0 hp]; exact h1, h2⟩
/-! ### the one sorted list of them -/
structure Srt (ys : List (List Nat)) (A : List Nat → Prop) : Prop where
  srt : sortedS (ys.map RC.S) = true
  nd : ys.Nodup
  mem : ∀ x, x ∈ ys ↔ A x
theorem Srt.uniq {ys zs : List (List Nat)} {A B : List Nat → Prop} (h : Srt ys A) (k : Srt zs B) (e : ∀ x, A x ↔ B x) : ys = zs := by
  have inj : ∀ {a b : List Nat}, RC.S a = RC.S b → a = b := fun h => RC.S_inj.mp h
  have nd : ∀ {l : List (List Nat)}, l.Nodup → (l.map RC.S).Nodup := fun h => List.Pairwise.map _ (fun a b hab z => hab (inj z)) h
  have mm : ∀ x, x ∈ ys.map RC.S ↔ x ∈ zs.map RC.S := fun x => by
    constructor
    · intro hx
      obtain ⟨a, ha, rfl⟩ := List.mem_map.mp hx
      exact List.mem_map.mpr ⟨a, (k.mem a).mpr ((e a).mp ((h.mem a).mp ha)), rfl⟩
    · intro hx
      obtain ⟨a, ha, rfl⟩ := List.mem_map.mp hx
      exact List.mem_map.mpr ⟨a, (h.mem a).mpr ((e a).mpr ((k.mem a).mp ha)), rfl⟩
  have := sorted_one h.srt k.srt (nd h.nd) (nd k.nd) mm
  exact List.map_inj_right (fun a b h => inj h) |>.mp this
theorem Srt.none {ys : List (List Nat)} {A : List Nat → Prop} (h : Srt ys A) (e : ∀ x, ¬ A x) : ys = [] := by
  cases ys with
  | nil => rfl
  | cons y r => exact absurd ((h.mem y).mp List.mem_cons_self) (e y)
theorem Srt.one {ys : List (List Nat)} {A : List Nat → Prop} {y : List Nat} (h : Srt ys A) (e : ∀ x, A x ↔ x = y) : ys = [y] := by
  have hy := (h.mem y).mpr ((e y).mpr rfl)
  match ys, h, hy with
  | [a], h, hy => rw [List.mem_singleton.mp hy]
  | a :: b :: r, h, _ =>
    have e1 := (e a).mp ((h.mem a).mp List.mem_cons_self)
    have e2 := (e b).mp ((h.mem b).mp (List.mem_cons_of_mem _ List.mem_cons_self))
    exact absurd List.mem_cons_self (e1.trans e2.symm ▸ (List.nodup_cons.mp h.nd).1)
end RWY

/-! min of two texts; sorted of a list of texts of any size. -/
namespace RSL
open PySem PySem.Spec PyProof.Rows L2 RB RSK
section
variable {prog : Program} {w : World} {A : Around} {E : Value → Shared → Prop} {s : Shared}
theorem min_two_texts {a b : Str} {t u : Tok} {Q : Value → Shared → Prop} (hh : A.handled = none)
    (h : ∀ h' tk, (∀ c o, s.heap.get? c = some o → h'.get? c = some o) → Q (if b.cps.toList < a.cps.toList then .str b u else .str a t) { s with heap := h', toks := tk }) :
    wpAny (model prog w) A (call (.builtin "min") [.str a t, .str b u]) Q E s := by
  have hT : (s.heap.push { cls := .type "tuple", data := .seq #[.str a t, .str b u] }).IsTuple s.heap.objs.size #[.str a t, .str b u] := ⟨_, Heap.get?_push_size _ rfl, rfl, 0, rfl⟩
  refine call_min_two (wpAny_pyIter_tuple hT ?_)
  have hsz : (s.heap.push { cls := .type "tuple", data := .seq #[.str a t, .str b u] }).objs.size = s.heap.objs.size + 1 := Heap.size_push ..
  have hat : ∀ (i : Nat) (v : Value), (#[Value.str a t, Value.str b u] : Array Value)[i]? = some v → ∃ x t, v = Value.str x t := fun i v hv => by
    match i, hv with
    | 0, hv => exact ⟨a, t, (Option.some.inj hv).symm⟩
    | 1, hv => exact ⟨b, u, (Option.some.inj hv).symm⟩
    | n + 2, hv => exact absurd hv (by simp)
  refine ⟨_, [_, s.heap.objs.size], [_], _, _, _, _, rfl, Walks.tuple (A := A.in1) hh _ s.heap.objs.size (by rw [hsz]; exact Nat.ne_of_lt (Nat.lt_succ_self _)) #[.str a t, .str b u],
    ⟨⟨_, Heap.get?_push_size _ rfl, rfl, rfl⟩, hT.push _⟩, fun c hc => ?_, by simp, cmp_texts hat, fun v h' tk hP hk => ?_⟩
  · show c < ((s.heap.push _).push _).objs.size
    rw [Heap.size_push, hsz]
    rcases List.mem_cons.mp hc with rfl | hc
    · rw [hsz]; exact Nat.lt_succ_self _
    · rcases List.mem_cons.mp hc with rfl | hc
      · exact Nat.lt_succ_of_lt (Nat.lt_succ_self _)
      · cases hc
  · have hold : ∀ c o, s.heap.get? c = some o → h'.get? c = some o := fun c o e => by
      refine hk c o (fun hm => ?_) (Heap.get?_push_of_some _ (Heap.get?_push_of_some _ e))
      rcases List.mem_cons.mp hm with e1 | hm
      · have := Heap.lt_size e; rw [e1, hsz] at this; exact Nat.lt_irrefl _ (Nat.lt_of_succ_lt this)
      · cases hm
    have := h h' tk hold
    have c0 : cpsAt #[Value.str a t, Value.str b u] 0 = a.cps.toList := rfl
    have c1 : cpsAt #[Value.str a t, Value.str b u] 1 = b.cps.toList := rfl
    have hv : v = if b.cps.toList < a.cps.toList then Value.str b u else Value.str a t := by
      have hP' : (#[Value.str a t, Value.str b u] : Array Value)[argBest (fun i j => decide (cpsAt #[Value.str a t, Value.str b u] i < cpsAt #[Value.str a t, Value.str b u] j)) 1]? = some v := hP
      by_cases hba : b.cps.toList < a.cps.toList
      · have e : argBest (fun i j => decide (cpsAt #[Value.str a t, Value.str b u] i < cpsAt #[Value.str a t, Value.str b u] j)) 1 = 1 := by simp [argBest, c0, c1, hba]
        rw [e] at hP'
        rw [if_pos hba]
        exact (Option.some.inj hP').symm
      · have e : argBest (fun i j => decide (cpsAt #[Value.str a t, Value.str b u] i < cpsAt #[Value.str a t, Value.str b u] j)) 1 = 0 := by simp [argBest, c0, c1, hba]
        rw [e] at hP'
        rw [if_neg hba]
        exact (Option.some.inj hP').symm
    rw [hv]; exact this
end
section
variable {X : Cx}
def rMin2T : List V → Hp → VK → Prop := fun xs H Q => ∃ a b : Str, xs = [.str a, .str b] ∧ Q (.str (if b.cps.toList < a.cps.toList then b else a)) H
theorem cr_min2T (hc : X.calm = true) : CallR X (.builtin "min") rMin2T := by
  intro pins s σ H xs us Q I r h
  obtain ⟨i, j, rfl, q⟩ := h
  obtain ⟨u, w', rfl, ⟨t, rfl⟩, ⟨t', rfl⟩⟩ := vals2 r
  refine min_two_texts (I.ok.hd hc) fun h' tk k => ⟨_, H, I.kept k, ?_, q⟩
  by_cases hj : j.cps.toList < i.cps.toList
  · rw [if_pos hj, if_pos hj]; exact ⟨_, rfl⟩
  · rw [if_neg hj, if_neg hj]; exact ⟨_, rfl⟩
def rSortedSA (K : PySem.W.Frag) : List V → Hp → VK → Prop := fun vs H Q => ∃ (a : Addr) (xs : List Str), vs = [V.ref a] ∧ SqL K H a (xs.map V.str) ∧ xs.length ≤ 16777216 ∧
  ∀ (ys : List Str) (p : Addr), ys.Perm xs → sortedS ys = true → H p = none → Q (.ref p) (upd H p (.lst (ys.map V.str)))
theorem cr_sortedSA : CallR X (.builtin "sorted") (rSortedSA X.K) := by
  intro pins s σ H vs us Q I r h
  obtain ⟨a, xs, rfl, hs, h64, q⟩ := h
  obtain ⟨its, rv, hl, _⟩ := I.list hs
  rw [Vals.ref1 r]
  have hlen0 := rv.length
  rw [List.length_map] at hlen0
  refine PyProof.Rows.sorted_strsAny hl.isList rv.strs (by rw [← hlen0, sizeLine_eq]; omega) fun out ys h1 h2 h3 => ?_
  obtain ⟨ep, he'⟩ := PyProof.Rows.sortedAll_at s.heap its out
  have hlen : (ys.map V.str).length ≤ sizeLine := by rw [List.length_map, h2.length_eq, sizeLine_eq]; omega
  exact ⟨.ref _, upd H (s.heap.objs.size + 1) (.lst (ys.map V.str)), I.laid (t' := s.toks) (fun _ _ => PyProof.Rows.sortedAll_old) (Nat.le_succ _) ⟨hlen, out.toList, ep, vals_of_strs h1, he'⟩, rfl, q ys _ h2 h3 (I.hok.fresh (Nat.le_succ _))⟩
end
end RSL

/-! The law's own def, called by the claim: there nothing is being shown (guards), so repr of lists and tuples is told. -/
namespace RGU
open PySem PySem.Spec PyProof.Rows L2 Evl TL RC RD RE
/-- one run of a def of the text, by its body -/
theorem run_def {CX : CXT} {P : Program} {w : World} {K : PySem.W.Frag} {mg : Str → Option Value} {base : Heap} {k : Nat} {f : Addr} {fd : FuncData} {x : Str} {st : Stmt} {N ps : List Str} {A : Around} {outer : List Env} {s : Shared} {H : Hp} {ar : Args} {us : List Value} {vs : List V} {Q : VK} {E : XK}
    (F : Fun K x x st f fd) (sc : FnScope N ps (defScope st)) (rm : Room (k + 1) A) (ev : Env0 P w K mg base A outer s H) (bd : BindsTo s fd ar (ps.zip us)) (vv : Vals vs us) (ln : vs.length = ps.length)
    (bo : ∀ cdv, Room k (A.deeper (envOfC x (defScope st) s.heap.objs.size f cdv)) → ∃ t, PSs (cxOf CX P w K mg base N x (defScope st) f cdv A outer s H E) (defBody st) t ∧ t { nx := fun _ H' => Q .non H', rt := Q } (start N vs) H) :
    codeAny (model P w) A (.call (.ref f) ar) (CR CX outer P w H s Q E) s := by
  obtain ⟨_, _, _, _, _, _, cdv, _, _, rfl, look, code⟩ := F.ex
  have kin : K.In s.heap := ev.mod.kin.keeps fun b o hb => (ev.bs b o hb).1
  obtain ⟨t, body, reading⟩ := bo cdv (rm.deeper _)
  have kinds : ∀ y ∈ ps.zip us, (defScope st).names.lookup y.1 = some .local ∨ ((defScope st).names.lookup y.1 = some .cell ∧ ((cellsFrom (s.heap.objs.size + 1) (defScope st).names []).lookup y.1).isSome = true) := by
    rintro ⟨n, u⟩ hy
    exact (sc.par n (List.of_mem_zip hy).1).imp id fun q => ⟨q, PySem.W.cellsFrom_some _ _ _ (.inl q)⟩
  apply codeAny_call_function rm.depth (kin _ _ look) rfl sc.co sc.gen rfl (PySem.W.codeRec_of kin code)
  apply bd
  refine wpAny_newFunctionEnv_cells sc.kind kinds fun env he s1 inC => ?_
  subst he
  refine ⟨(ev.mod.nolimit.keeps fun b o hb => (ev.bs b o hb).1).keeps inC.toInCall.keep, codeAny_func ?_⟩
  refine wpAny_mono (body.run [] s1 _ H _ (inv_start sc rm.hd ev ln vv inC) reading) ?_ fun _ _ z => z
  intro fl s2 z
  cases fl with
  | next => obtain ⟨σ2, H2, J, q⟩ := z; exact ⟨.non, H2, J.os, J.bare, J.base, J.hok, rfl, q⟩
  | ret u => obtain ⟨v, σ2, H2, J, r, q⟩ := z; exact ⟨v, H2, J.os, J.bare, J.base, J.hok, r, q⟩
  | brk => obtain ⟨_, _, _, q⟩ := z; exact q.elim
  | cont => obtain ⟨_, _, _, q⟩ := z; exact q.elim
/-- the law's promise, kept where the claim calls it -/
def LawOk (P : Program) (w : World) (K : PySem.W.Frag) (mg : Str → Option Value) (base : Heap) (k : Nat) (f : Addr) (fd : FuncData) (ps : List Str) (sp : Sp) : Prop :=
  ∀ (s : Shared) (H : Hp) (ar : Args) (us : List Value) (vs : List V) (Q : VK) (E : XK), Room k callerA → Env0 P w K mg base callerA [] s H → BindsTo s fd ar (ps.zip us) → Vals vs us → sp vs H Q E →
    codeAny (model P w) callerA (.call (.ref f) ar) (CR CX0 [] P w H s Q E) s
theorem lawOk {P : Program} {w : World} {K : PySem.W.Frag} {mg : Str → Option Value} {base : Heap} {k : Nat} {f : Addr} {fd : FuncData} {x : Str} {st : Stmt} {N ps : List Str} {sp : Sp} (F : Fun K x x st f fd) (sc : FnScope N ps (defScope st)) (ln : ∀ vs H Q E, sp vs H Q E → vs.length = ps.length)
    (bo : ∀ (cdv : Value) (s : Shared) (H : Hp) (vs : List V) (Q : VK) (E : XK), Room k (callerA.deeper (envOfC x (defScope st) s.heap.objs.size f cdv)) → sp vs H Q E →
      ∃ t, PSs (cxOf CX0 P w K mg base N x (defScope st) f cdv callerA [] s H E).nox (defBody st) t ∧ t { nx := fun _ H' => Q .non H', rt := Q } (start N vs) H) : LawOk P w K mg base (k + 1) f fd ps sp :=
  fun s H ar us vs Q E rm ev bd vv hs => run_def F sc rm ev bd vv (ln _ _ _ _ hs) fun cdv r => by
    obtain ⟨t, h1, h2⟩ := bo cdv s H vs Q E r hs
    exact ⟨t, h1.nox, h2⟩
section
variable {P : Program} {w : World} {K : PySem.W.Frag} {mg mb : Str → Option Value} {k : Nat} {fa a : Addr} {fd : FuncData} {x : Str} {sp : Sp} {s : Shared} {us : List Value} {ns : List Int}
/-- how the claim's heap is read: the script alone is tracked, if it isn't the module's -/
theorem scripted (kin : K.In s.heap) (la : s.heap.get? a = some { cls := .type "list", data := .seq us.toArray }) (hi : IntsAre us ns) (hl : ns.length ≤ sizeLine) :
    ∃ H : Hp, Only H ∧ SqL K H a (ns.map V.int) ∧ HOk P w H s.heap ∧ ∀ b u, H b = some u → b = a ∧ K.lookup a = none := by
  have vals := vals_ints hi
  rcases hk : K.lookup a with _ | o
  · have only : ∀ b u, (if b = a then some (HO.frz { cls := .type "list", data := .seq us.toArray } (.lst (ns.map V.int))) else none) = some u → b = a ∧ u = .frz { cls := .type "list", data := .seq us.toArray } (.lst (ns.map V.int)) := fun b u z => by
      by_cases c : b = a
      · rw [if_pos c] at z
        exact ⟨c, (Option.some.inj z).symm⟩
      · rw [if_neg c] at z
        cases z
    refine ⟨fun b => if b = a then some (HO.frz { cls := .type "list", data := .seq us.toArray } (.lst (ns.map V.int))) else none, fun b => ?_, .inl (.inr ⟨_, if_pos rfl⟩), fun b u z => ?_, fun b u z => ⟨(only b u z).1, rfl⟩⟩
    · by_cases c : b = a
      · exact .inr ⟨_, _, if_pos c⟩
      · exact .inl (if_neg c)
    · obtain ⟨rfl, rfl⟩ := only b u z
      exact ⟨la, by rw [List.length_map]; exact hl, us, 0, vals, la⟩
  · obtain rfl : o = { cls := .type "list", data := .seq us.toArray } := Option.some.inj ((kin a o hk).symm.trans la)
    refine ⟨fun _ => none, fun _ => .inl rfl, .inr ⟨_, us.toArray, _, hk, rfl, rfl, rfl, ?_, by simpa using vals⟩, fun b u (z : (none : Option HO) = some u) => (by cases z), fun b u (z : (none : Option HO) = some u) => (by cases z)⟩
    rw [List.size_toArray, hi.length]
    exact hl
theorem law_callG (kin : K.In s.heap) (hns : s.heap.Ns mainGlobals mg) (hb : s.heap.Ns builtinsNs mb) (hbb : ∀ x : Str, x ≠ "__name__" → mb x = bootBuiltins x) (hlim : s.heap.NoLimit) (hg : s.gens = #[])
    (la : s.heap.get? a = some { cls := .type "list", data := .seq us.toArray }) (hi : IntsAre us ns) (hl : ns.length ≤ sizeLine) (rm : Room k callerA)
    (F : ∀ base : Heap, K.In base → base.Ns mainGlobals mg → LawOk P w K mg base k fa fd [x] sp) (bd : ∀ (s : Shared) (u : Value), BindsTo s fd ⟨[u], []⟩ [(x, u)])
    (hsp : ∀ H : Hp, Only H → SqL K H a (ns.map V.int) → sp [.ref a] H (fun v _ => v = .bl true) fun _ _ _ => False) :
    codeAny (model P w) callerA (.call (.ref fa) ⟨[.ref a], []⟩) (fun r s' => r = .ok (.ret (.bool true)) ∧ OldK s.heap s'.heap ∧ s'.os = s.os ∧ AllBare s'.gens) s := by
  obtain ⟨H, only, sq, hok, own⟩ := scripted (P := P) (w := w) kin la hi hl
  have frees : ∀ b o, s.heap.get? b = some o → (b = a → o.data ≠ .seq us.toArray 0) → H b = none := fun b o e d => by
    rcases c : H b with _ | u
    · rfl
    · obtain ⟨rfl, _⟩ := own b u c
      exact absurd (by rw [Option.some.inj (e.symm.trans la)]) (d rfl)
  have keepK : K.In (hidT s.heap H) := fun b o e => hidT_get (kin b o e) (by
    rcases c : H b with _ | u
    · rfl
    · obtain ⟨rfl, n⟩ := own b u c
      rw [n] at e
      cases e)
  have keepN : ∀ {b : Addr} {m : Str → Option Value}, s.heap.Ns b m → (hidT s.heap H).Ns b m := fun {b m} ⟨o, es, ep, e, d, r⟩ => ⟨o, es, ep, hidT_get e (frees b o e fun _ z => by rw [d] at z; cases z), d, r⟩
  obtain ⟨mc, lim1, lim2⟩ := hlim
  have env : Env0 P w K mg (hidT s.heap H) callerA [] s H := ⟨rfl, ⟨keepK, keepN hns, ⟨mb, keepN hb, hbb⟩, mc, keepN lim1, lim2⟩, fun _ _ e => of_hidT e, by rw [hidT_size]; exact Nat.le_refl _, trivial, fun b z => (by cases z), hok, .of_eq hg⟩
  refine codeAny_mono (F _ keepK (keepN hns) s H ⟨[.ref a], []⟩ [.ref a] [.ref a] _ _ rm env (bd s (.ref a)) (.cons rfl .nil) (hsp H only sq)) ?_
  intro res s2 z
  cases res with
  | error e => exact z.elim
  | ok fl =>
  cases fl with
  | next => exact z.elim
  | brk => exact z.elim
  | cont => exact z.elim
  | ret u =>
    obtain ⟨v, H2, os, bare, un, hok2, rv, q⟩ := z
    have q' : v = .bl true := q
    subst q'
    obtain rfl : u = Value.bool true := rv
    refine ⟨rfl, OldK.of_keep fun b o e => ?_, os, bare⟩
    rcases c : H b with _ | u
    · exact un.keep b o e c (fun z => by cases z) (fun z => by cases z)
    · rcases only b with z | ⟨ob, xs, z⟩
      · rw [c] at z
        cases z
      · have h1 := (hok b _ z).1
        have h2 := (hok2 b _ (un.frzs b ob _ z)).1
        rw [e] at h1
        rw [Option.some.inj h1]
        exact h2
end
/-- the end, for a law whose own text shows lists and tuples -/
theorem walk_ofG {l : PySem.W.OpenLaw} {n k : Nat} {q : Program} {loose : List Str} {XP : (Str → Option Value) → Heap → Prop} {YP : World → Heap → Prop} {d : DefRec} {K : Params → PySem.W.Frag} {sp : World → Sp} {x : Str}
    (hn : l.most = some n) (hn2 : n ≤ sizeLine) (hdf : d.params.defaults = []) (hr : Room k callerA) (hY : ∀ (w : World) (h : Heap), YP w h → (K w.params).In h)
    (F : ∀ (w : World) (mg : Str → Option Value) (fa : Addr) (h : Heap), (K w.params).In h → h.Ns mainGlobals mg → mg d.name = some (.ref fa) →
      ∃ fd : FuncData, (∀ (s : Shared) (u : Value), BindsTo s fd ⟨[u], []⟩ [(x, u)]) ∧ ∀ base : Heap, (K w.params).In base → base.Ns mainGlobals mg → LawOk l.prog w (K w.params) mg base k fa fd [x] (sp w))
    (hsp : ∀ (w : World) (H : Hp) (a : Addr) (ns : List Int), ns.length ≤ n → Only H → SqL (K w.params) H a (ns.map V.int) → sp w [.ref a] H (fun v _ => v = .bl true) fun _ _ _ => False) :
    PySem.W.WalkO q loose XP YP l.row.toRowW d [] (fun f vs => PySem.call f vs) := by
  refine Att.attach_call hn hdf fun w s0 s1 mg mb fa o pm cd doc a us ns G Y _ _ _ hmg la hi hlen gens => ?_
  obtain ⟨fd, bd, F'⟩ := F w mg fa _ (hY w _ Y) G.T.g hmg
  exact law_callG (hY w _ Y) G.T.g G.T.b G.T.builtins G.T.nolimit gens la hi (Nat.le_trans hlen hn2) hr F' bd fun H only sq => hsp w H a ns hlen only sq
/-! ## repr of lists and tuples -/
def rRep (K : PySem.W.Frag) : List V → Hp → VK → Prop := fun xs H Q => ∃ (v : V) (d : PyData), xs = [v] ∧ Dp K H v d ∧ d.showable = true ∧ d.hasDict = false ∧ d.depth ≤ 100 ∧ d.shown.length ≤ sizeLine ∧ Q (.str d.shown) H
theorem call_rep {X : Cx} {k : Nat} (hg : X.A.guards = some []) (hr : Room k X.A) : CallR X (.builtin "repr") (rRep X.K) := by
  intro pins s σ H xs us Q I r h
  obtain ⟨v, d, rfl, hd, sh, nd, dep, sz, q⟩ := h
  cases r with
  | cons r1 rr =>
    cases rr
    have held : ∀ {a : Addr} {u : Value}, Dp X.K H (.ref a) d → RelV (.ref a) u → wpAny (model X.prog X.w) X.A (call (.builtin "repr") [u]) (EP X pins σ Q) X.xe s := fun {a u} hd r1 => by
      cases r1
      obtain ⟨as, rd⟩ := Dp.reads I d _ _ hd rfl
      refine repr_of_reads' rd sh (PyData.noDict_hsm nd) hg (by have := hr.un; omega) (fun _ _ e => e) (fun h2 u tk hk => ?_) sz
      exact ⟨.str d.shown, H, I.kept (t' := tk) hk, ⟨u, rfl⟩, q⟩
    cases hd with
    | non =>
      cases r1
      exact PySem.P.repr_of_none ⟨.str _, H, I.tok _, ⟨_, rfl⟩, q⟩
    | bl b =>
      cases r1
      exact PySem.P.repr_of_bool ⟨.str _, H, I.tok _, ⟨_, rfl⟩, q⟩
    | int i =>
      obtain ⟨t, rfl⟩ := r1
      exact PySem.P.repr_of_int (of_decide_eq_true sh) ⟨.str _, H, I.tok _, ⟨_, rfl⟩, q⟩
    | str x =>
      obtain ⟨t, rfl⟩ := r1
      exact PySem.P.repr_of_str ⟨.str _, H, I.tok _, ⟨_, rfl⟩, q⟩ sz
    | lst h1 h2 => exact held (.lst h1 h2) r1
    | tup h1 h2 => exact held (.tup h1 h2) r1
theorem pe_rep {X : Cx} {k : Nat} {e : Expr} {ta : TA} {p pos : Pos} (hg : X.A.guards = some []) (hr : Room k X.A) (hgl : Gl X "repr") (hm : X.mg "repr" = none) (ha : PA X [e] ta)
    (he : starEach [e] X.env = (false, eval e X.env) :: starEach [] X.env := by rfl) (hpl : (backTo pos (starEach [] X.env)).any (·.1) = false := by rfl) : PE X (.Call (.Name "repr" p) [e] [] pos) (tCB (rRep X.K) ta) :=
  pe_callB (call_rep hg hr) hgl hm bt_repr ha (by decide) (by decide) he hpl
end RGU

/-! Lists and tuples shown: presses as trees, pairs. -/
namespace RSH
open PySem PySem.Spec PyProof.Rows L2 Evl RDI TL RC RD RG RP RR RU RV RX RY RLT RGU
/-- what is asked of data that is shown -/
structure Sh (d : PyData) (n m : Nat) : Prop where
  sh : d.showable = true
  nd : d.hasDict = false
  dep : d.depth ≤ n
  wt : d.weight ≤ m
  lv : d.leavesShort 121 = true
structure ShL (ds : List PyData) (n m : Nat) : Prop where
  sh : PyData.showableAll ds = true
  nd : PyData.hasDictAll ds = false
  dep : PyData.depthAll ds ≤ n
  wt : PyData.weightAll ds ≤ m
  lv : PyData.leavesShortAll 121 ds = true
theorem Sh.mono {d : PyData} {n m n' m' : Nat} (h : Sh d n m) (h1 : n ≤ n') (h2 : m ≤ m') : Sh d n' m' := ⟨h.sh, h.nd, Nat.le_trans h.dep h1, Nat.le_trans h.wt h2, h.lv⟩
theorem sh_nil : ShL [] 0 0 := ⟨rfl, rfl, Nat.le_refl _, Nat.le_refl _, rfl⟩
theorem sh_cons {d : PyData} {ds : List PyData} {n m n' m' : Nat} (h : Sh d n m) (t : ShL ds n' m') : ShL (d :: ds) (max n n') (m + 1 + m') := by
  refine ⟨?_, ?_, ?_, ?_, ?_⟩
  · show (d.showable && PyData.showableAll ds) = true
    rw [h.sh, t.sh]
    rfl
  · show (d.hasDict || PyData.hasDictAll ds) = false
    rw [h.nd, t.nd]
    rfl
  · have := h.dep
    have := t.dep
    show max d.depth (PyData.depthAll ds) ≤ max n n'
    omega
  · have := h.wt
    have := t.wt
    show d.weight + 1 + PyData.weightAll ds ≤ m + 1 + m'
    omega
  · show (d.leavesShort 121 && PyData.leavesShortAll 121 ds) = true
    rw [h.lv, t.lv]
    rfl
theorem sh_list {ds : List PyData} {n m : Nat} (h : ShL ds n m) : Sh (.list ds) (n + 1) m := ⟨h.sh, h.nd, Nat.succ_le_succ h.dep, h.wt, h.lv⟩
theorem sh_tup {ds : List PyData} {n m : Nat} (h : ShL ds n m) : Sh (.tuple ds) (n + 1) m := ⟨h.sh, h.nd, Nat.succ_le_succ h.dep, h.wt, h.lv⟩
theorem log_lt {i k : Nat} (hk : 0 < k) (h : i < 2 ^ k) : i.log2 < k := by
  by_cases z : i = 0
  · rw [z]
    exact hk
  · exact (Nat.log2_lt z).mpr h
theorem sh_int {i : Int} (h : i.natAbs < 2 ^ 120) : Sh (.int i) 0 120 := by
  have hl := log_lt (by decide) h
  refine ⟨decide_eq_true (by omega), rfl, Nat.le_refl _, ?_, decide_eq_true ?_⟩
  · show (if i == 0 then 0 else i.natAbs.log2 + 1) ≤ 120
    split <;> omega
  · have h1 := int_text_length_le (a := i) (k := 120) (by decide) hl
    show (Str.ofString (toString i)).length ≤ 121
    rw [PySem.ofString_length]
    exact h1
theorem sh_str {l : List Nat} (h : ∀ c ∈ l, c < 4096) : Sh (.str (S l)) 0 l.length := by
  refine ⟨rfl, rfl, Nat.le_refl _, ?_, ?_⟩
  · show (S l).length ≤ l.length
    rw [S_len]
    exact Nat.le_refl _
  · show (S l).cps.toList.all (fun c => decide (c < 16 ^ 8)) = true
    rw [S_cps, List.all_eq_true]
    exact fun c hc => decide_eq_true (Nat.lt_trans (h c hc) (by decide))
/-! ## trees -/
mutual
def goT : Tr → Prop
  | .at v => (∃ n : Int, v = .int n ∧ n.natAbs < 2 ^ 120) ∨ ∃ l, v = T l ∧ ∀ c ∈ l, c < 4096
  | .sq ds => goL ds
def goL : Trs → Prop
  | .nil => True
  | .cons d r => goT d ∧ goL r
end
def szV : V → Nat
  | .str x => x.length
  | _ => 120
mutual
def szT : Tr → Nat
  | .at v => szV v
  | .sq ds => szL ds
def szL : Trs → Nat
  | .nil => 0
  | .cons d r => szT d + 1 + szL r
end
mutual
theorem tr_dp {K : PySem.W.Frag} {H : Hp} : ∀ {t : Tr} {v : V}, goT t → TrV H t v → ∃ d, Dp K H v d ∧ Sh d (dpT t) (szT t)
  | .at v, _, hg, ⟨h1, _⟩ => by
    subst h1
    rcases hg with ⟨n, rfl, hn⟩ | ⟨l, rfl, hl⟩
    · exact ⟨.int n, .int n, (sh_int hn).mono (Nat.zero_le _) (Nat.le_refl _)⟩
    · exact ⟨.str (S l), .str _, (sh_str hl).mono (Nat.zero_le _) (by show l.length ≤ (S l).length; rw [S_len]; exact Nat.le_refl _)⟩
  | .sq ds, _, hg, ⟨xs, ⟨p, h1, hs⟩, hL⟩ => by
    subst h1
    obtain ⟨dd, k1, k2⟩ := trl_dp (K := K) (ds := ds) hg hL
    rcases hs with hs | hs
    · exact ⟨.list dd, .lst (SqL.of hs) k1, sh_list k2⟩
    · exact ⟨.tuple dd, .tup (.inl hs) k1, sh_tup k2⟩
theorem trl_dp {K : PySem.W.Frag} {H : Hp} : ∀ {ds : Trs} {xs : List V}, goL ds → TrL H ds xs → ∃ dd, DpAll K H xs dd ∧ ShL dd (dpL ds) (szL ds)
  | .nil, xs, _, h => by
    rw [show xs = [] from h]
    exact ⟨[], .nil, sh_nil⟩
  | .cons d r, _, hg, ⟨x, ys, h1, h2, h3⟩ => by
    subst h1
    obtain ⟨a, k1, k2⟩ := tr_dp (K := K) (t := d) hg.1 h2
    obtain ⟨as, k3, k4⟩ := trl_dp (K := K) (ds := r) hg.2 h3
    exact ⟨a :: as, .cons k1 k3, sh_cons k2 k4⟩
end
mutual
theorem dp_ex {K : PySem.W.Frag} {H H' : Hp} (e : Ex H H') : ∀ (d : PyData) {v : V}, Dp K H v d → Dp K H' v d
  | .none, _, h => by cases h; exact .non
  | .bool b, _, h => by cases h; exact .bl b
  | .int i, _, h => by cases h; exact .int i
  | .str x, _, h => by cases h; exact .str x
  | .list ds, _, h => by
    cases h with
    | lst h1 h2 => exact .lst (ex_l e h1) (dpAll_ex e ds h2)
  | .tuple ds, _, h => by
    cases h with
    | tup h1 h2 => exact .tup (ex_t e h1) (dpAll_ex e ds h2)
  | .dict _, _, h => by cases h
theorem dpAll_ex {K : PySem.W.Frag} {H H' : Hp} (e : Ex H H') : ∀ (ds : List PyData) {vs : List V}, DpAll K H vs ds → DpAll K H' vs ds
  | [], _, h => by cases h; exact .nil
  | d :: ds, _, h => by
    cases h with
    | cons h1 h2 => exact .cons (dp_ex e d h1) (dpAll_ex e ds h2)
end
/-! ## presses -/
theorem wd_go (i : Nat) (h : i < 8) : goT (.at (T (wd i))) := .inr ⟨_, rfl, by
  have : ∀ j : Fin 8, ∀ c ∈ wd j.val, c < 4096 := by decide
  exact this ⟨i, h⟩⟩
theorem wd_sz (i : Nat) (h : i < 8) : szT (.at (T (wd i))) ≤ 6 := by
  show (S (wd i)).length ≤ 6
  rw [S_len]
  have : ∀ j : Fin 8, (wd j.val).length ≤ 6 := by decide
  exact this ⟨i, h⟩
theorem marks_small : ∀ c ∈ MARKS, c < 4096 := by decide
mutual
/-- small enough to be shown -/
def goP : Pr → Prop
  | .wheel rim => rim.length ≤ 100 ∧ ∀ c ∈ rim, c < 4096
  | .turned p n => goP p ∧ n < 2 ^ 120
  | .over a b => goP a ∧ goP b
  | .cut a b => goP a ∧ goP b
  | .held a b => goP a ∧ goP b
  | .taking ps => goPs ps
  | .thn a n b => goP a ∧ n < 2 ^ 120 ∧ goP b
  | .dyed p ds => goP p ∧ ds.length ≤ 26 ∧ ∀ d ∈ ds, d.1 < 4096 ∧ d.2 < 4096
def goPs : Ps → Prop
  | .nil => True
  | .cons p n r => goP p ∧ n < 2 ^ 120 ∧ goPs r
end
theorem dyes_go : ∀ {ds : List (Nat × Nat)}, (∀ d ∈ ds, d.1 < 4096 ∧ d.2 < 4096) → goL (dyesT ds) ∧ szL (dyesT ds) = 5 * ds.length
  | [], _ => ⟨trivial, rfl⟩
  | d :: r, h => by
    obtain ⟨h1, h2⟩ := dyes_go (ds := r) fun x hx => h x (List.mem_cons_of_mem _ hx)
    obtain ⟨h3, h4⟩ := h d List.mem_cons_self
    refine ⟨⟨⟨.inr ⟨_, rfl, fun c hc => by rw [List.mem_singleton.mp hc]; exact h3⟩, .inr ⟨_, rfl, fun c hc => by rw [List.mem_singleton.mp hc]; exact h4⟩, trivial⟩, h1⟩, ?_⟩
    show (S [d.1]).length + 1 + ((S [d.2]).length + 1 + 0) + 1 + szL (dyesT r) = 5 * (r.length + 1)
    rw [S_len, S_len, h2]
    show 1 + 1 + (1 + 1 + 0) + 1 + 5 * r.length = 5 * (r.length + 1)
    omega
theorem int_go {n : Nat} (h : n < 2 ^ 120) : goT (.at (.int (n : Int))) := .inl ⟨_, rfl, by rw [Int.natAbs_natCast]; exact h⟩
mutual
theorem tree_go : ∀ {p : Pr}, goP p → goT (tree p) ∧ szT (tree p) + 124 ≤ 500 * parts p
  | .wheel rim, ⟨h1, h2⟩ => by
    refine ⟨⟨wd_go 0 (by decide), .inr ⟨_, rfl, h2⟩, trivial⟩, ?_⟩
    have := wd_sz 0 (by decide)
    show szT (.at (T (wd 0))) + 1 + ((S rim).length + 1 + 0) + 124 ≤ 500 * 1
    rw [S_len]
    omega
  | .turned p n, ⟨h1, h2⟩ => by
    obtain ⟨g1, g2⟩ := tree_go (p := p) h1
    refine ⟨⟨wd_go 1 (by decide), g1, int_go h2, trivial⟩, ?_⟩
    have := wd_sz 1 (by decide)
    show szT (.at (T (wd 1))) + 1 + (szT (tree p) + 1 + (120 + 1 + 0)) + 124 ≤ 500 * (parts p + 1)
    omega
  | .over a b, ⟨h1, h2⟩ => by
    obtain ⟨g1, g2⟩ := tree_go (p := a) h1
    obtain ⟨g3, g4⟩ := tree_go (p := b) h2
    refine ⟨⟨wd_go 2 (by decide), g1, g3, trivial⟩, ?_⟩
    have := wd_sz 2 (by decide)
    show szT (.at (T (wd 2))) + 1 + (szT (tree a) + 1 + (szT (tree b) + 1 + 0)) + 124 ≤ 500 * (parts a + parts b + 1)
    omega
  | .cut a b, ⟨h1, h2⟩ => by
    obtain ⟨g1, g2⟩ := tree_go (p := a) h1
    obtain ⟨g3, g4⟩ := tree_go (p := b) h2
    refine ⟨⟨wd_go 3 (by decide), g1, g3, trivial⟩, ?_⟩
    have := wd_sz 3 (by decide)
    show szT (.at (T (wd 3))) + 1 + (szT (tree a) + 1 + (szT (tree b) + 1 + 0)) + 124 ≤ 500 * (parts a + parts b + 1)
    omega
  | .held a b, ⟨h1, h2⟩ => by
    obtain ⟨g1, g2⟩ := tree_go (p := a) h1
    obtain ⟨g3, g4⟩ := tree_go (p := b) h2
    refine ⟨⟨wd_go 4 (by decide), g1, g3, trivial⟩, ?_⟩
    have := wd_sz 4 (by decide)
    show szT (.at (T (wd 4))) + 1 + (szT (tree a) + 1 + (szT (tree b) + 1 + 0)) + 124 ≤ 500 * (parts a + parts b + 1)
    omega
  | .taking ps, h => by
    obtain ⟨g1, g2⟩ := trees_go (ps := ps) h
    refine ⟨⟨wd_go 5 (by decide), g1, trivial⟩, ?_⟩
    have := wd_sz 5 (by decide)
    show szT (.at (T (wd 5))) + 1 + (szL (trees ps) + 1 + 0) + 124 ≤ 500 * (partsT ps + 1)
    omega
  | .thn a n b, ⟨h1, h0, h2⟩ => by
    obtain ⟨g1, g2⟩ := tree_go (p := a) h1
    obtain ⟨g3, g4⟩ := tree_go (p := b) h2
    refine ⟨⟨wd_go 6 (by decide), g1, int_go h0, g3, trivial⟩, ?_⟩
    have := wd_sz 6 (by decide)
    show szT (.at (T (wd 6))) + 1 + (szT (tree a) + 1 + (120 + 1 + (szT (tree b) + 1 + 0))) + 124 ≤ 500 * (parts a + parts b + 1)
    omega
  | .dyed p ds, ⟨h1, h2, h3⟩ => by
    obtain ⟨g1, g2⟩ := tree_go (p := p) h1
    obtain ⟨g3, g4⟩ := dyes_go h3
    refine ⟨⟨wd_go 7 (by decide), g1, g3, trivial⟩, ?_⟩
    have := wd_sz 7 (by decide)
    show szT (.at (T (wd 7))) + 1 + (szT (tree p) + 1 + (szL (dyesT ds) + 1 + 0)) + 124 ≤ 500 * (parts p + 1)
    omega
theorem trees_go : ∀ {ps : Ps}, goPs ps → goL (trees ps) ∧ szL (trees ps) ≤ 500 * partsT ps
  | .nil, _ => ⟨trivial, Nat.le_refl _⟩
  | .cons p n r, ⟨h1, h2, h3⟩ => by
    obtain ⟨g1, g2⟩ := tree_go (p := p) h1
    obtain ⟨g3, g4⟩ := trees_go (ps := r) h3
    refine ⟨⟨⟨g1, int_go h2, trivial⟩, g3⟩, ?_⟩
    show szT (tree p) + 1 + (120 + 1 + 0) + 1 + szL (trees r) ≤ 500 * (parts p + partsT r)
    omega
end
/-- a press that is handed in, as it is shown -/
theorem hand_dp {K : PySem.W.Frag} {H : Hp} {p : Pr} {v : V} (hp : Hand H p v) (hg : goP p) (h12 : parts p ≤ 12) : ∃ d, Dp K H v d ∧ Sh d 40 6000 := by
  obtain ⟨ws, h1, h2⟩ := hp
  obtain ⟨g1, g2⟩ := tree_go hg
  obtain ⟨d, k1, k2⟩ := tr_dp (K := K) g1 (hand_tree h1 h2)
  have k3 := dp_tree p
  have k4 := dep_parts p
  exact ⟨d, k1, k2.mono (by omega) (by omega)⟩
/-! ## repr -/
section
variable {K : PySem.W.Frag} {σ : L2.St} {H : Hp} {ta tb te : TE} {d : PyData} {n m : Nat}
def ShP (K : PySem.W.Frag) (d : PyData) : V → Hp → Prop := fun v H => Dp K H v d
theorem ev_rep (ok : Sh d n m) (hn : n ≤ 100) (hm : m ≤ 130000) (h : EvP te σ H (ShP K d)) : Ev (tCB (rRep K) (tCons te tNil)) σ H (.str d.shown) := fun H1 e Q q => h H1 e _ fun v H2 e2 hd => by
  have h1 := PyData.shown_le 121 (by decide) d ok.lv
  have h2 := ok.wt
  have h3 := ok.dep
  refine ⟨v, d, rfl, hd, ok.sh, ok.nd, by omega, ?_, q H2 e2⟩
  rw [big]
  have : (121 + 2) * d.weight ≤ (121 + 2) * 130000 := Nat.mul_le_mul_left _ (by omega)
  omega
theorem ev_neRep (ok : Sh d n m) (hn : n ≤ 100) (hm : m ≤ 130000) (ha : EvP ta σ H (ShP K d)) (hb : EvP tb σ H (ShP K d)) : Ev (tOp rNe (tCB (rRep K) (tCons ta tNil)) (tCB (rRep K) (tCons tb tNil))) σ H (.bl false) :=
  ev_is (ev_op (ev_rep ok hn hm ha) (ev_rep ok hn hm hb) (rv_ne rfl)) (by simp)
theorem shp_ev {v : V} (h : Ev te σ H v) (hd : Dp K H v d) : EvP te σ H (ShP K d) := fun H1 e Q q => h H1 e _ fun H2 e2 => q v H2 e2 (dp_ex (e.trans e2) d hd)
theorem shp_eu {xs : List V} {ds : List PyData} (h : EvU te σ H xs) (hd : DpAll K H xs ds) : EvP te σ H (ShP K (.tuple ds)) := fun H1 e Q q => h H1 e _ fun t H2 _ e2 h2 => q _ H2 e2 (.tup (SqT.of h2) (dpAll_ex (e.trans e2) ds hd))
end
theorem sh_ints {i j : Nat} (h1 : i < 2 ^ 120) (h2 : j < 2 ^ 120) : Sh (.tuple [.int (i : Int), .int (j : Int)]) 1 242 :=
  (sh_tup (sh_cons (sh_int (i := (i : Int)) (by rw [Int.natAbs_natCast]; exact h1)) (sh_cons (sh_int (i := (j : Int)) (by rw [Int.natAbs_natCast]; exact h2)) sh_nil))).mono (by decide) (by decide)
theorem sh_texts {a b : List Nat} (h1 : ∀ c ∈ a, c < 4096) (h2 : ∀ c ∈ b, c < 4096) : Sh (.tuple [.str (S a), .str (S b)]) 1 (a.length + b.length + 2) :=
  (sh_tup (sh_cons (sh_str h1) (sh_cons (sh_str h2) sh_nil))).mono (by decide) (by omega)
end RSH

/-! An exception that a name keeps behind its except clause. -/
namespace REX
open PySem PySem.Spec PyProof.Rows L2
/-- an exception that lies in the heap: its class, its dict -/
def Lain (a : Addr) (cls : Value) (d : Option Addr) : HO := .ext fun h => ∃ o vs, h.get? a = some o ∧ (o.cls = cls ∧ o.dict = d) ∧ o.data = .fields vs
section
variable {X : Cx} {pins : List (Addr × Obj)} {σ : L2.St} {H : Hp} {s : Shared} {a : Addr}
/-- what was made since the call, and is not known, may be laid -/
theorem lay_old {o : Obj} {vs : Array Value} (I : Inv X pins σ H s) (g : s.heap.get? a = some o) (dt : o.data = .fields vs) (na : H a = none)
    (young : ∀ u, X.s_0.heap.get? a = some u → a ∈ X.ex) (nl : a ≠ X.env.locals) (np : ∀ p ∈ X.pn ++ pins, p.1 ≠ a) :
    Inv X pins σ (upd H a (Lain a o.cls o.dict)) s := by
  have off : ∀ {b : Addr} {u : HO}, H b = some u → b ≠ a := fun {b u} e z => by
    rw [z, na] at e
    cases e
  have up : ∀ {b : Addr} {u : HO}, H b = some u → upd H a (Lain a o.cls o.dict) b = some u := fun e => by
    rw [upd_ne (off e)]
    exact e
  refine ⟨I.ok, I.os, I.bare, ⟨I.base.keep, I.base.slot, ?_, I.base.there, ?_, ?_, ?_⟩, I.loc, I.cell, ?_, ?_, ?_, ?_, I.len⟩
  · intro b u e n hx
    rw [upd_ne fun z => hx (by rw [z]; exact young u (by rw [← z]; exact e))]
    exact I.base.free b u e n hx
  · exact fun b xs e => up (I.base.tups b xs e)
  · exact fun b u v e => up (I.base.frzs b u v e)
  · intro b ps e
    obtain ⟨more, q⟩ := I.base.tbls b ps e
    exact ⟨more, up q⟩
  · rw [upd_ne (Ne.symm nl)]
    exact I.free
  · intro y c e
    have hne : c ≠ a := fun z => by
      obtain ⟨v, o', g', hv⟩ := I.cell y c e
      rw [z, g] at g'
      cases g'
      rw [dt] at hv
      cases hv
    rw [upd_ne hne]
    exact I.freeC y c e
  · intro p hp
    obtain ⟨k1, k2, k3⟩ := I.pin p hp
    exact ⟨k1, by rw [upd_ne (np p hp)]; exact k2, k3⟩
  · intro b u e
    by_cases c : b = a
    · subst c
      rw [upd_same] at e
      cases e
      exact ⟨⟨o, vs, g, ⟨rfl, rfl⟩, dt⟩, ⟨o, g⟩, fun h1 h2 ⟨o', vs', q1, q2⟩ k => ⟨o', vs', k _ q1, q2⟩⟩
    · rw [upd_ne c] at e
      exact (I.hok b u e).stay (fun _ _ _ q => q) (fun _ q => up q) fun _ _ q => up q
end
/-- where the suite ends: its name goes, the exception lies -/
def Behind (i : Nat) (a : Addr) (cls : Value) (d : Option Addr) (D : Ends) : Ends where
  nx := fun σ H => D.nx (σ.set i none) (upd H a (Lain a cls d))
  rt := fun _ _ => False
  bk := fun _ _ => False
  ct := fun _ _ => False
/-- the wish of a clause that takes all that comes -/
def wLain (K : PySem.W.Frag) (c : Value) (i : Nat) (ts : Addr → Value → Option Addr → TS) (D : Ends) : WX := fun cls d σ H =>
  PySem.W.exmOne K cls c = some true ∧ ∀ a, H a = none → ts a cls d (Behind i a cls d D) (σ.set i (some (.ref a))) H
section
variable {X : Cx} {x n : Str} {c : Value} {i : Nat} {body more : List Stmt} {first : Stmt} {np p1 p2 : Pos} {tb : WX → TS} {ts : Addr → Value → Option Addr → TS}
theorem ps_try_lain (hst : X.stack = X.env :: X.outer) (hfr : X.env.frame = some X.env.locals) (nd : X.N.Nodup) (hi : X.N[i]? = some n) (hloc : X.env.kindOf n = some .local) (named : Names X x c)
    (inBody : ∀ (W : WX) (pn : List (Addr × Obj)) (xe : Value → Shared → Prop), Takes (X.tr pn xe) W → PassesOwn (model X.prog X.w) X.A X.env xe → PSs (X.tr pn xe) body (tb W))
    (inSuite : ∀ (a : Addr) (oe : Obj) (cls : Value) (d : Option Addr) (pn : List (Addr × Obj)), Zc cls d oe → (∃ vs, oe.data = .fields vs) → PSs (X.suite a ((a, oe) :: pn)) (first :: more) (ts a cls d)) :
    PS X (.Try body [.ExceptHandler (some (.Name x np)) (some n) (first :: more) p1] [] [] p2) (fun D σ H => tb (wLain X.K c i ts D) D σ H) := by
  constructor
  intro pins s σ H D I h
  have okX := I.ok
  have frames : X.A.frames = some (X.env :: X.outer) := hst ▸ okX.frames
  apply wpAny_Try_except
  have key : ∀ air : Value → Shared → Prop, Takes (X.tr (X.pn ++ pins) air) (wLain X.K c i ts D) → PassesOwn (model X.prog X.w) X.A X.env air → wpAny (model X.prog X.w) X.A (execs body X.env) (SP (X.tr (X.pn ++ pins) air) [] D) air s :=
    fun air t p => (inBody _ _ air t p).run [] s σ H D (I.toTry _) h
  refine wpAny_mono (key _ ?_ PassesOwn.looking) (fun f s1 q => ?_) (fun e s1 q => q)
  rotate_left
  · cases f with
    | next =>
      obtain ⟨σ1, H1, J1, q1⟩ := q
      exact wpAny_execs_nil ⟨σ1, H1, J1.ofTry okX, q1⟩
    | ret u =>
      obtain ⟨v1, σ1, H1, J1, q1, q2⟩ := q
      exact ⟨v1, σ1, H1, J1.ofTry okX, q1, q2⟩
    | brk =>
      obtain ⟨σ1, H1, J1, q1⟩ := q
      exact ⟨σ1, H1, J1.ofTry okX, q1⟩
    | cont =>
      obtain ⟨σ1, H1, J1, q1⟩ := q
      exact ⟨σ1, H1, J1.ofTry okX, q1⟩
  · intro u s1 air
    obtain ⟨a, B, s0, pins0, σ0, H0, cls, d, eu, J0, ground, slots, sky, na, os, bare, meets, suite⟩ := air
    subst eu
    have J : Inv X pins σ0 H0 s0 := J0.ofTry okX
    rw [show (X.tr (X.pn ++ pins) _).stack = X.env :: X.outer from hst] at sky
    refine Sky.land (Zc.steady (cls := cls) (d := d)) frames hfr sky fun h1 fly upto => ?_
    -- where it lies
    have there : ∀ {h2 : Heap}, HandSPX.FlyingZ B (X.env :: X.outer) a (Zc cls d) h2 → ∃ o vs, h2.get? a = some o ∧ Zc cls d o ∧ o.data = .fields vs := fun q => q.there
    obtain ⟨o1, vs1, g1, z1, d1⟩ := there fly
    have nofr : a ∉ frs (X.env :: X.outer) := fun hm => by
      obtain ⟨_, o', g', nf⟩ := fly.2.2.1.mem hm
      have := g'.symm.trans g1
      cases this
      exact nf _ d1
    have nl : a ≠ X.env.locals := fun z => nofr (by
      refine List.mem_filterMap.mpr ⟨X.env, List.mem_cons_self, ?_⟩
      rw [hfr, z])
    have nfs : a ∉ X.fs := fun hm => by
      obtain ⟨e, he, q⟩ := List.mem_filterMap.mp hm
      exact nofr (List.mem_filterMap.mpr ⟨e, List.mem_cons_of_mem _ he, q⟩)
    have unmade : s0.heap.get? a = none := by
      cases q : s0.heap.get? a with
      | none => rfl
      | some o =>
        have := ground a o q (by show a ∉ frs X.stack; rw [hst]; exact nofr)
        rw [fly.2.1] at this
        cases this
    have young : ∀ u, X.s_0.heap.get? a = some u → a ∈ X.ex := fun u q => by
      by_cases c : a ∈ X.ex
      · exact c
      · obtain ⟨o', q'⟩ := J.base.there a u q c
        rw [unmade] at q'
        cases q'
    have nopin : ∀ p ∈ X.pn ++ pins, p.1 ≠ a := fun p hp z => by
      have := (J.pin p hp).1
      rw [z, unmade] at this
      cases this
    have J1 : Inv X pins σ0 H0 { s1 with heap := h1 } := J.landed ground fly.1 (slots.trans upto) os bare
    have S1 := J1.suite g1 d1 na nl nfs
    apply wpAny_handleBy_cons
    · apply codeAny_handlers_test
      have asks : PySem.W.Looks (model X.prog X.w) h1 (typeOf (.ref a)) cls := fun _ _ _ _ k q => wpAny_typeOf_ref (k _ _ g1) (by rw [z1.1]; exact q)
      have meet := PySem.W.exm_one (M := model X.prog X.w) J1.kIn asks meets
      have told : ∀ {Q E : Value → Shared → Prop}, Q c { s1 with heap := h1 } → wpAny (model X.prog X.w) (X.A.mark (some (.ref a))) (eval (.Name x np) X.env) Q E { s1 with heap := h1 } := fun {Q E} q => by
        obtain ⟨gl, dbg, m | ⟨m, bv, nn⟩⟩ := named
        · exact ld_glob (X := X.suite a ((a, o1) :: (X.pn ++ pins))) S1 gl m q dbg
        · exact ld_blt (X := X.suite a ((a, o1) :: (X.pn ++ pins))) S1 gl m bv q nn dbg
      refine told (meet.here ?_)
      apply codeAny_handlers_suite_as
      refine HandSPX.lands_againZ fly fun h2 fly2 upto2 => ?_
      obtain ⟨o2, vs2, g2, z2, d2⟩ := there fly2
      have J2 : Inv X pins σ0 H0 { s1 with heap := h2 } := J.landed ground fly2.1 ((slots.trans upto).trans upto2) os bare
      refine store_ok (X := X.suite a ((a, o2) :: (X.pn ++ pins))) (v := .ref a) (J2.suite g2 d2 na nl nfs) nd hi (.inl hloc) rfl (fun s3 S3 => ?_) (.inr hloc)
      have ran := (inSuite a o2 cls d (X.pn ++ pins) z2 ⟨vs2, d2⟩).run [] s3 _ H0 (Behind i a cls d D) S3 (suite a na)
      refine wpAny_mono ran (fun f s4 q => ?_) (fun _ _ q => q.elim)
      cases f with
      | next =>
        obtain ⟨σ4, H4, S4, q4⟩ := q
        have pinned := S4.pin (a, o2) (List.mem_append_left _ List.mem_cons_self)
        have J4 := S4.unsuite okX
        have J5 : Inv X ((a, o2) :: pins) σ4 H4 s4 := J4.pins_of fun p hp => (List.mem_cons.mp hp).elim (fun z => by rw [z]; exact pinned) fun z => J4.pin p (List.mem_append_right _ z)
        refine gone_ok J5 nd hi hloc fun s5 J6 => ?_
        have g6 := (J6.pin (a, o2) (List.mem_append_right _ List.mem_cons_self)).1
        have J7 : Inv X pins (σ4.set i none) H4 s5 := J6.pins_of fun p hp => J6.pin p (List.mem_append_right _ (List.mem_cons_of_mem _ hp))
        have J8 := lay_old J7 g6 d2 pinned.2.1 young nl nopin
        rw [z2.1, z2.2] at J8
        exact ⟨_, _, J8, q4⟩
      | ret u =>
        obtain ⟨_, _, _, _, _, q4⟩ := q
        exact q4.elim
      | brk =>
        obtain ⟨_, _, _, q4⟩ := q
        exact q4.elim
      | cont =>
        obtain ⟨_, _, _, q4⟩ := q
        exact q4.elim
    · intro q
      cases q
end
section
variable {X : Cx}
/-- what lies is an instance of its class -/
theorem lain_at {pins : List (Addr × Obj)} {σ : L2.St} {H : Hp} {s : Shared} {a D : Addr} (I : Inv X pins σ H s) (h : H a = some (Lain a (.ref D) none)) : ∃ o, PySem.W.InstAt s.heap a o D none := by
  obtain ⟨⟨o, vs, g, ⟨z1, z2⟩, dt⟩, _⟩ := I.hok a _ h
  refine ⟨o, ?_⟩
  cases o with
  | mk cl di da sl =>
    cases z1
    cases z2
    cases dt
    exact ⟨g, rfl, rfl, trivial⟩
theorem lain_kit {K : PySem.W.Frag} {a D : Addr} {o : Obj} (C : ExcC K D) : PySem.W.KitX K (.ref a) (.ref D) (fun h => PySem.W.InstAt h a o D none) :=
  PySem.W.handS_kitx_exc C.hg C.hk C.hs C.hd C.ha C.hn C.ht C.hm
/-- isinstance(kept, C) -/
def rIsL (K : PySem.W.Frag) : List V → Hp → VK → Prop := fun xs H Q => ∃ (a D : Addr) (c : V) (cv : Value) (b : Bool), xs = [.ref a, c] ∧ H a = some (Lain a (.ref D) none) ∧ ExcC K D ∧ (∀ u, RelV c u → u = cv) ∧ PySem.W.kitOne K (.ref D) cv = some b ∧ Q (.bl b) H
theorem call_isL : CallR X (.builtin "isinstance") (rIsL X.K) := by
  intro pins s σ H xs us Q I r h
  obtain ⟨a, D, c, cv, b, rfl, hl, C, one, k, q⟩ := h
  match us, r with
  | [u1, u2], .cons r1 (.cons r2 .nil) =>
    cases r1
    rw [one _ r2]
    obtain ⟨o, J⟩ := lain_at I hl
    exact PySem.W.kia_one (lain_kit C) I.kIn J k (fun z => nomatch z) fun tk => ⟨.bl b, H, I.kept (t' := tk) fun _ _ z => z, rfl, q⟩
/-- isinstance(kept, (C, D, ..)) -/
def rIsLT (K : PySem.W.Frag) : List V → Hp → VK → Prop := fun xs H Q => ∃ (a D t : Addr) (cs : List V) (cvs : List Value) (b : Bool), xs = [.ref a, .ref t] ∧ H a = some (Lain a (.ref D) none) ∧ ExcC K D ∧ SqT K H t cs ∧ (∀ us, Vals cs us → us = cvs) ∧ PySem.W.kitAny K (.ref D) cvs = some b ∧ Q (.bl b) H
theorem call_isLT : CallR X (.builtin "isinstance") (rIsLT X.K) := by
  intro pins s σ H xs us Q I r h
  obtain ⟨a, D, t, cs, cvs, b, rfl, hl, C, ht, one, k, q⟩ := h
  match us, r with
  | [u1, u2], .cons r1 (.cons r2 .nil) =>
    cases r1
    cases r2
    obtain ⟨its, rv, tup, _⟩ := I.tuple ht
    obtain ⟨o, J⟩ := lain_at I hl
    rw [one its rv] at tup
    obtain ⟨ot, gt, clt, n, dat⟩ := tup
    cases ot with
    | mk cl di da sl =>
      cases clt
      cases dat
      exact PySem.W.kia_tup (lain_kit C) I.kIn J gt k (fun z => nomatch z) fun tk => ⟨.bl b, H, I.kept (t' := tk) fun _ _ z => z, rfl, q⟩
end
/-! ### classes of exceptions, by their names -/
/-- the class that the top keeps under this name -/
def AtG (K : PySem.W.Frag) (x : Str) (D : Addr) : Prop := PySem.W.nsIn K mainGlobals x = some (some (.ref D))
theorem AtG.uniq {K : PySem.W.Frag} {x : Str} {C D : Addr} (h : AtG K x C) (g : AtG K x D) : C = D := by
  have := Option.some.inj (Option.some.inj (h.symm.trans g))
  cases this
  rfl
/-- an own class over ValueError, near or far -/
structure ExcD (K : PySem.W.Frag) (mg : Str → Option Value) (x : Str) (D : Addr) : Prop where
  at_ : AtG K x D
  mg : mg x = some (.ref D)
  own : PySem.W.excIn K D [.type "ValueError", .type "Exception", .type "BaseException", .type "object"] "ValueError.__new__" = true
  keep : PySem.W.keepIn K (.ref D) = true
  base : PySem.W.subIn K (.ref D) (.type "BaseException") = some true
  type : PySem.W.typeIn K (.ref D) = some (.type "type")
  isi : ExcC K D
def ExcT (K : PySem.W.Frag) (mg : Str → Option Value) (x : Str) : Prop := ∃ D, ExcD K mg x D
/-- what isinstance and an except clause say of two of them -/
def IsA (K : PySem.W.Frag) (x y : Str) (b : Bool) : Prop := ∀ D C, AtG K x D → AtG K y C → PySem.W.kitOne K (.ref D) (.ref C) = some b ∧ PySem.W.exmOne K (.ref D) (.ref C) = some b
def IsTy (K : PySem.W.Frag) (x : Str) (n : String) (b : Bool) : Prop := ∀ D, AtG K x D → PySem.W.kitOne K (.ref D) (.type n) = some b
theorem isA_of {K : PySem.W.Frag} {x y : Str} {b : Bool} {D C : Addr} (h : AtG K x D) (g : AtG K y C) (self : PySem.W.subIn K (.ref D) (.ref D) = some true) (s : PySem.W.subIn K (.ref D) (.ref C) = some b)
    (hb : PySem.W.subIn K (.ref C) (.type "BaseException") = some true) (hd : PySem.W.hasDictIn K C = true) (ht : PySem.W.typeIn K (.ref C) = some (.type "type")) : IsA K x y b := fun D' C' h' g' => by
  rw [h'.uniq h, g'.uniq g]
  refine ⟨?_, PySem.W.exm_ref hb hd ht s⟩
  unfold PySem.W.kitOne
  by_cases c : D = C
  · subst c
    rw [self] at s
    rw [if_pos (by simp), s]
  · rw [if_neg (by simpa using c)]
    obtain ⟨cd, hc, _⟩ := PySem.W.any_some hd
    show (if ((PySem.W.clsIn K C).isSome && PySem.W.typeIn K (.ref C) == some (.type "type")) = true then PySem.W.subIn K (.ref D) (.ref C) else none) = some b
    rw [hc, ht]
    exact s
theorem isTy_of {K : PySem.W.Frag} {x : Str} {n : String} {b : Bool} {D : Addr} (h : AtG K x D) (m : PySem.W.kitMeta n = true) (s : PySem.W.subIn K (.ref D) (.type n) = some b) : IsTy K x n b := fun D' h' => by
  rw [h'.uniq h]
  unfold PySem.W.kitOne
  rw [if_neg (by simp)]
  show (if PySem.W.kitMeta n = true then PySem.W.subIn K (.ref D) (.type n) else none) = some b
  rw [if_pos m]
  exact s
/-! ### defs that may raise -/
section
variable {P : Program} {w : World} {K : PySem.W.Frag} {mg : Str → Option Value} {base : Heap}
theorem ok_x {x : Str} {st : Stmt} {N ps : List Str} {k : Nat} {sp : Sp} (F : RC.At K mg x st ps) (S : FnScope N ps (defScope st)) (len : ∀ vs H Q E, sp vs H Q E → vs.length = ps.length)
    (body : ∀ (f : Addr) (cdv : Value) (A : Around) (outer : List Env) (s : Shared) (H : Hp) (vs : List V) (Q : VK) (E : XK), Room k (A.deeper (envOfC x (defScope st) s.heap.objs.size f cdv)) → sp vs H Q E →
      ∃ t, PSs (cxOf (L2.CX P w) P w K mg base N x (defScope st) f cdv A outer s H E) (defBody st) t ∧ t { nx := fun _ H' => Q .non H', rt := Q } (start N vs) H) : RC.Has P w K mg base (L2.CX P w) (k + 1) x ps sp := by
  obtain ⟨f, fd, h1, h2, h3⟩ := F.ex
  exact ⟨f, fd, h1.okX S len (body f), h2, h1.kp, h3⟩
end
section
variable {X : Cx} {CX : CXT} {E : L2.St → XK} {k : Nat} {x : Str} {ps : List Str} {sp : Sp} {t : TA} {e : Expr} {es : List Expr} {p pos : Pos}
/-- a call, within a try, of what may raise -/
theorem pe_hasX (h : RC.Has X.prog X.w X.K X.mg X.base CX k x ps sp) (hr : Room k X.A) (hx : ∀ σ, PassesAt CX X σ (E σ)) (ha : PA X (e :: es) t) (hg : Gl X x := by rfl) (hd : (x == ("__debug__" : Str)) = false := by decide)
    (hs : starEach (e :: es) X.env = (false, eval e X.env) :: starEach es X.env := by rfl) (hpl : (backTo pos (starEach es X.env)).any (·.1) = false := by rfl) :
    PE X (.Call (.Name x p) (e :: es) [] pos) (tCallS sp E t) := by
  obtain ⟨f, fd, F, hm, hk, hb⟩ := h
  exact pe_callS F hr hg hm hk hb hx ha hd hs hpl
/-- raise X('..') -/
theorem pmk_x {K : PySem.W.Frag} {n m : Str} {D : Addr} {j : Nat} {p2 : Pos} (h : ExcD X.K X.mg n D) (hg : Gl X n := by rfl) (hd : (n == ("__debug__" : Str)) = false := by decide) : PMk X (.Call (.Name n p) [.Constant (.str m) j p2] [] pos) (fun _ H Q => Q (.ref D) none H) :=
  pmk_own PySem.F.excBase_ValueError h.own h.mg h.keep (raises_own h.base h.type) hg hd
end
end REX

/-! What is evaluated raises: readings that end by an exception, whatever is wanted behind. -/
namespace RXW
open PySem PySem.Spec PyProof.Rows L2 Evl TL RC RD RP RR RS RT RU
/-- e raises, whatever is wanted behind it -/
def EvX (te : TE) (σ : L2.St) (H : Hp) : Prop := ∀ H1, Ex H H1 → ∀ Q : VK, te σ H1 Q
def EvAX (ta : TA) (σ : L2.St) (H : Hp) : Prop := ∀ H1, Ex H H1 → ∀ Q : List V → Hp → Prop, ta σ H1 Q
/-- what is wished of the class named x, at all heaps that keep H -/
def Rz (K : PySem.W.Frag) (x : Str) (H : Hp) (E : XK) : Prop := ∀ D, REX.AtG K x D → ∀ H', Ex H H' → E (.ref D) none H'
theorem Rz.ex {K : PySem.W.Frag} {x : Str} {H H1 : Hp} {E : XK} (h : Rz K x H E) (e : Ex H H1) : Rz K x H1 E := fun D hD H' e' => h D hD H' (e.trans e')
section
variable {σ : L2.St} {H : Hp} {ta tb te : TE} {tr ts : TA} {v : V} {D : Ends} {tz : TS} {g : TG} {C : Addr} {sp : Sp} {dvs vs xs : List V} {E : XK} {P : V → Hp → Prop} {PL : List V → Hp → Prop}
theorem x_call (h : EvA tr σ H vs) (hs : ∀ H1, Ex H H1 → ∀ Q : VK, sp (vs ++ dvs) H1 Q E) : EvX (tCall sp dvs E tr) σ H := fun H1 e Q => h H1 e _ fun H2 e2 => hs H2 (e.trans e2) _
theorem x_callP (h : EvAP tr σ H PL) (hs : ∀ vs H1, Ex H H1 → PL vs H1 → ∀ Q : VK, sp (vs ++ dvs) H1 Q E) : EvX (tCall sp dvs E tr) σ H := fun H1 e Q => h H1 e _ fun vs H2 e2 p => hs vs H2 (e.trans e2) p _
theorem x_callS {F : L2.St → XK} (h : EvA tr σ H vs) (hs : ∀ H1, Ex H H1 → ∀ Q : VK, sp vs H1 Q (F σ)) : EvX (tCallS sp F tr) σ H := fun H1 e Q => h H1 e _ fun H2 e2 => hs H2 (e.trans e2) _
theorem x_callA (h : EvAX tr σ H) : EvX (tCall sp dvs E tr) σ H := fun H1 e Q => h H1 e _
theorem x_make (h : EvAP tr σ H PL) (hs : ∀ ws H1, Ex H H1 → PL ws H1 → ∀ x dx, H1 x = none → H1 dx = none → dx ≠ x → ∀ Q : VK, sp (.ref x :: (ws ++ dvs)) (upd (upd H1 dx (.own x)) x (.ins C dx [])) Q E) : EvX (tMake C sp dvs E tr) σ H :=
  fun H1 e Q => h H1 e _ fun ws H2 e2 p x dx hx hdx hne => hs ws H2 (e.trans e2) p x dx hx hdx hne _
theorem x_makeA (h : EvAX tr σ H) : EvX (tMake C sp dvs E tr) σ H := fun H1 e Q => h H1 e _
theorem ax_hd (h : EvX ta σ H) : EvAX (tCons ta tr) σ H := fun H1 e Q => h H1 e _
theorem ax_tl (h : Ev ta σ H v) (hr : EvAX tr σ H) : EvAX (tCons ta tr) σ H := fun H1 e Q => h H1 e _ fun H2 e2 => hr H2 (e.trans e2) _
theorem ax_tlP (h : EvP ta σ H P) (hr : EvAX tr σ H) : EvAX (tCons ta tr) σ H := fun H1 e Q => h H1 e _ fun v H2 e2 _ => hr H2 (e.trans e2) _
theorem x_tup (h : EvAX tr σ H) : EvX (tTup tr) σ H := fun H1 e Q => h H1 e _
theorem x_op (h : EvX ta σ H) {r : R2} : EvX (tOp r ta tb) σ H := fun H1 e Q => h H1 e _
theorem x_cb {r : List V → Hp → VK → Prop} (h : EvAX tr σ H) : EvX (tCB r tr) σ H := fun H1 e Q => h H1 e _
theorem x_meth {m : Str} (h : EvX ta σ H) : EvX (tMeth C m sp dvs E ta tr) σ H := fun H1 e Q => h H1 e _
theorem x_if {b : Bool} {t : TT} (h : EvT t σ H b) (h1 : b = true → EvX ta σ H) (h2 : b = false → EvX tb σ H) : EvX (tIf t ta tb) σ H := fun H1 e Q => h H1 e _ fun H2 e2 => by
  cases b with
  | true => exact h1 rfl H2 (e.trans e2) _
  | false => exact h2 rfl H2 (e.trans e2) _
theorem x_or (h : EvX tb σ H) : EvX (fun σ H Q => ta σ H Q ∨ tb σ H Q) σ H := fun H1 e Q => .inr (h H1 e Q)
theorem ev_orL (h : Ev ta σ H v) : Ev (fun σ H Q => ta σ H Q ∨ tb σ H Q) σ H v := fun H1 e Q q => .inl (h H1 e Q q)
theorem evp_orL (h : EvP ta σ H P) : EvP (fun σ H Q => ta σ H Q ∨ tb σ H Q) σ H P := fun H1 e Q q => .inl (h H1 e Q q)
theorem eu_orL (h : EvU ta σ H xs) : EvU (fun σ H Q => ta σ H Q ∨ tb σ H Q) σ H xs := fun H1 e Q q => .inl (h H1 e Q q)
theorem q_asgX (h : EvX te σ H) : tSeq (tAsg te g) tz D σ H := h H (Ex.refl H) _
theorem s_asgX (h : EvX te σ H) : tAsg te g D σ H := h H (Ex.refl H) _
theorem s_retX (h : EvX te σ H) : tRet te D σ H := h H (Ex.refl H) _
theorem q_retX (h : EvX te σ H) : tSeq (tRet te) tz D σ H := h H (Ex.refl H) _
theorem q_dropX (h : EvX te σ H) : tSeq (tDrop te) tz D σ H := h H (Ex.refl H) _
theorem s_dropX (h : EvX te σ H) : tDrop te D σ H := h H (Ex.refl H) _
end
end RXW

/-! repr of lists and tuples with an empty dict in them. -/
namespace RRZ
open PySem PySem.Spec PyProof.Rows L2 Evl TL RC RD RE RGU
mutual
/-- data in the heap -/
inductive Dz (H : Hp) : V → PyData → Prop
  | non : Dz H .non .none
  | bl (b : Bool) : Dz H (.bl b) (.bool b)
  | int (i : Int) : Dz H (.int i) (.int i)
  | str (x : Str) : Dz H (.str x) (.str x)
  | lst {a : Addr} {xs : List V} {ds : List PyData} : sysModules < a → H a = some (.lst xs) → DzAll H xs ds → Dz H (.ref a) (.list ds)
  | tup {a : Addr} {xs : List V} {ds : List PyData} : H a = some (.tup xs) → DzAll H xs ds → Dz H (.ref a) (.tuple ds)
  | dict {a : Addr} : H a = some (.dK []) → Dz H (.ref a) (.dict [])
inductive DzAll (H : Hp) : List V → List PyData → Prop
  | nil : DzAll H [] []
  | cons {v : V} {vs : List V} {d : PyData} {ds : List PyData} : Dz H v d → DzAll H vs ds → DzAll H (v :: vs) (d :: ds)
end
mutual
theorem dz_ex {H H' : Hp} (e : Ex H H') : ∀ (d : PyData) {v : V}, Dz H v d → Dz H' v d
  | .none, _, h => by cases h; exact .non
  | .bool b, _, h => by cases h; exact .bl b
  | .int i, _, h => by cases h; exact .int i
  | .str x, _, h => by cases h; exact .str x
  | .list ds, _, h => by
    cases h with
    | lst h0 h1 h2 => exact .lst h0 (e _ _ h1) (dzAll_ex e ds h2)
  | .tuple ds, _, h => by
    cases h with
    | tup h1 h2 => exact .tup (e _ _ h1) (dzAll_ex e ds h2)
  | .dict ks, _, h => by
    cases h with
    | dict h1 => exact .dict (e _ _ h1)
theorem dzAll_ex {H H' : Hp} (e : Ex H H') : ∀ (ds : List PyData) {vs : List V}, DzAll H vs ds → DzAll H' vs ds
  | [], _, h => by cases h; exact .nil
  | d :: ds, _, h => by
    cases h with
    | cons h1 h2 => exact .cons (dz_ex e d h1) (dzAll_ex e ds h2)
end
section
variable {X : Cx} {pins : List (Addr × Obj)} {σ : L2.St} {H : Hp} {s : Shared}
mutual
theorem dz_reads (I : Inv X pins σ H s) : ∀ (d : PyData) (v : V) (u : Value), Dz H v d → RelV v u → ∃ as, Reads s.heap u d as ∧ sysModules ∉ as
  | .none, _, _, h, r => by
    cases h
    cases r
    exact ⟨_, Reads.none, fun z => by cases z⟩
  | .bool b, _, _, h, r => by
    cases h
    cases r
    exact ⟨_, Reads.bool b, fun z => by cases z⟩
  | .int i, _, _, h, r => by
    cases h
    obtain ⟨t, rfl⟩ := r
    exact ⟨_, Reads.int i t, fun z => by cases z⟩
  | .str x, _, _, h, r => by
    cases h
    obtain ⟨t, rfl⟩ := r
    exact ⟨_, Reads.str x t, fun z => by cases z⟩
  | .list ds, _, _, h, r => by
    cases h with
    | lst h0 hs ha =>
      cases r
      obtain ⟨its, rv, ⟨o, n, ho, hc, _, hd⟩, _⟩ := I.list (SqL.of hs)
      obtain ⟨as, hr, hn⟩ := dzAll_reads I ds _ its ha rv
      exact ⟨_, Reads.list ho hc hd hr, fun z => (List.mem_cons.mp z).elim (Nat.ne_of_lt h0) hn⟩
  | .tuple ds, _, _, h, r => by
    cases h with
    | tup hs ha =>
      cases r
      obtain ⟨its, rv, ⟨o, ho, hc, n, hd⟩, _⟩ := I.tuple (SqT.of hs)
      obtain ⟨as, hr, hn⟩ := dzAll_reads I ds _ its ha rv
      exact ⟨_, Reads.tuple ho hc hd hr, hn⟩
  | .dict ks, _, _, h, r => by
    cases h with
    | dict hs =>
      cases r
      obtain ⟨_, hm, vs, rel, o, es, ep, ho, hx, hd, _, hp, _⟩ := dk_of I.hok hs
      have hvs : vs = [] := by
        cases rel
        rfl
      subst hvs
      have hes : es.toList = [] := by
        cases c : es.toList with
        | nil => rfl
        | cons a b =>
          rw [c] at hp
          cases hp
      refine ⟨_, Reads.dict (as := []) (bs := []) ho hx.1 hd (by rw [hes]; exact .nil) (by rw [hes]; exact .nil), fun z => ?_⟩
      simp at z
      rw [← z] at hm
      simp at hm
theorem dzAll_reads (I : Inv X pins σ H s) : ∀ (ds : List PyData) (vs : List V) (us : List Value), DzAll H vs ds → Vals vs us → ∃ as, ReadsAll s.heap us ds as ∧ sysModules ∉ as
  | [], _, _, h, r => by
    cases h
    cases r
    exact ⟨_, ReadsAll.nil, fun z => by cases z⟩
  | d :: ds, _, _, h, r => by
    cases h with
    | cons h1 h2 =>
      cases r with
      | cons r1 r2 =>
        obtain ⟨as, q1, n1⟩ := dz_reads I d _ _ h1 r1
        obtain ⟨bs, q2, n2⟩ := dzAll_reads I ds _ _ h2 r2
        exact ⟨_, ReadsAll.cons q1 q2, fun z => (List.mem_append.mp z).elim n1 n2⟩
end
end
/-- one list behind another: where it lies -/
def rCatZ : R2 := fun x y H Q => ∃ l b xs zs, x = .ref l ∧ y = .ref b ∧ H l = some (.lst xs) ∧ H b = some (.lst zs) ∧ xs.length + zs.length ≤ sizeLine ∧ ∀ p, H p = none → sysModules < p → Q (.ref p) (upd H p (.lst (xs ++ zs)))
theorem op_catZ {X : Cx} : OpR X (binaryOp .Add) rCatZ := by
  intro pins s σ H x y v u Q I rx ry h
  obtain ⟨l, b, xs, zs, rfl, rfl, hH, hB, hz, q⟩ := h
  cases rx
  cases ry
  obtain ⟨z, its, n, r, hl, e⟩ := I.lstM hH
  obtain ⟨z2, its2, n2, r2, hl2, e2⟩ := I.lstM hB
  refine PySem.P.add_list e e2 ?_ (by rw [List.size_toArray, List.size_toArray]; omega)
  have ea : its.toArray ++ its2.toArray = (its ++ its2).toArray := by simp
  rw [ea]
  exact ⟨.ref _, _, I.lnew (t' := s.toks) (r.append r2) (by rw [List.length_append]; omega), rfl, q _ I.fresh I.big⟩
/-- repr of a list or a tuple -/
def rRepZ : List V → Hp → VK → Prop := fun xs H Q => ∃ (a : Addr) (d : PyData), xs = [.ref a] ∧ Dz H (.ref a) d ∧ d.showable = true ∧ d.depth ≤ 100 ∧ d.shown.length ≤ sizeLine ∧ Q (.str d.shown) H
theorem call_repZ {X : Cx} {k : Nat} (hg : X.A.guards = some []) (hr : Room k X.A) : CallR X (.builtin "repr") rRepZ := by
  intro pins s σ H xs us Q I r h
  obtain ⟨a, d, rfl, hd, sh, dep, sz, q⟩ := h
  cases r with
  | cons r1 rr =>
    cases rr
    cases r1
    obtain ⟨as, rd, hn⟩ := dz_reads I d _ _ hd rfl
    refine repr_of_reads' rd sh (fun _ => hn) hg (by have := hr.un; omega) (fun _ _ e => e) (fun h2 u tk hk => ?_) sz
    exact ⟨.str d.shown, H, I.kept (t' := tk) hk, ⟨u, rfl⟩, q⟩
theorem pe_repZ {X : Cx} {k : Nat} {e : Expr} {ta : TA} {p pos : Pos} (hg : X.A.guards = some []) (hr : Room k X.A) (hgl : Gl X "repr") (hm : X.mg "repr" = none) (ha : PA X [e] ta)
    (he : starEach [e] X.env = (false, eval e X.env) :: starEach [] X.env := by rfl) (hpl : (backTo pos (starEach [] X.env)).any (·.1) = false := by rfl) : PE X (.Call (.Name "repr" p) [e] [] pos) (tCB rRepZ ta) :=
  pe_callB (call_repZ hg hr) hgl hm bt_repr ha (by decide) (by decide) he hpl
section
variable {σ : L2.St} {H : Hp} {te : TE} {a : Addr} {d : PyData}
theorem ev_repZ (h : Ev te σ H (.ref a)) (hd : Dz H (.ref a) d) (sh : d.showable = true) (dep : d.depth ≤ 100) (sz : d.shown.length ≤ sizeLine) : Ev (tCB rRepZ (tCons te tNil)) σ H (.str d.shown) := fun H1 e Q q =>
  h H1 e _ fun H2 e2 => ⟨a, d, rfl, dz_ex (e.trans e2) d hd, sh, dep, sz, q H2 e2⟩
end
end RRZ

namespace X
open PySem PySem.Spec PyProof.Rows L2 Evl TL RC RA RD RE RF RG RH RI RL RS RP RQ RR RT RDI RU RV RX RY RZ1 RO RO1 RM RO2 RK RN RLS RST RTU RSP RSU RLT RPL RPT RPI RMB RMX RMC RMU RFZ RWD RPB RUX RLO RSK RWY RSL RGU RSH REX RXW RRZ
def top (i : Nat) : Stmt := PySem.Challenge.pw_rimprints_k61_no_pieces_no_lengths.main.body.getD i (.Pass ⟨0, 0, 0, 0⟩)
abbrev s_need_seen : Stmt := top 15
theorem sc_need_seen : FnScope ["thing", "sign"] ["thing"] (defScope s_need_seen) := ⟨rfl, rfl, rfl, by decide +kernel, rfl, by decide +kernel, by decide +kernel⟩
abbrev s_need_pieces : Stmt := top 18
theorem sc_need_pieces : FnScope ["pieces", "piece"] ["pieces"] (defScope s_need_pieces) := ⟨rfl, rfl, rfl, by decide +kernel, rfl, by decide +kernel, by decide +kernel⟩
abbrev s_need_short_rim : Stmt := top 19
theorem sc_need_short_rim : FnScope ["length"] ["length"] (defScope s_need_short_rim) := ⟨rfl, rfl, rfl, by decide +kernel, rfl, by decide +kernel, by decide +kernel⟩
abbrev s_laid : Stmt := top 20
theorem sc_laid : FnScope ["rim", "piece", "first", "signs", "place", "sign", "spot"] ["rim", "piece", "first"] (defScope s_laid) := ⟨rfl, rfl, rfl, by decide +kernel, rfl, by decide +kernel, by decide +kernel⟩
abbrev s_least_turning : Stmt := top 21
theorem sc_least_turning : FnScope ["rim", "first"] ["rim"] (defScope s_least_turning) := ⟨rfl, rfl, rfl, by decide +kernel, rfl, by decide +kernel, by decide +kernel⟩
abbrev s_known_from : Stmt := top 22
theorem sc_known_from : FnScope ["pieces", "length", "rims", "piece", "later", "rim", "first", "found"] ["pieces", "length"] (defScope s_known_from) := ⟨rfl, rfl, rfl, by decide +kernel, rfl, by decide +kernel, by decide +kernel⟩
abbrev s_law_reel : Stmt := top 24
theorem sc_law_reel : FnScope ["script", "stir", "cell", "great"] ["script"] (defScope s_law_reel) := ⟨rfl, rfl, rfl, by decide +kernel, rfl, by decide +kernel, by decide +kernel⟩
abbrev s_law_draw : Stmt := top 25
theorem sc_law_draw : FnScope ["reel", "many", "rest", "told", "stir"] ["reel", "many"] (defScope s_law_draw) := ⟨rfl, rfl, rfl, by decide +kernel, rfl, by decide +kernel, by decide +kernel⟩
abbrev s_law_rim : Stmt := top 26
theorem sc_law_rim : FnScope ["reel", "size", "signs", "k"] ["reel", "size"] (defScope s_law_rim) := ⟨rfl, rfl, rfl, by decide +kernel, rfl, by decide +kernel, by decide +kernel⟩
abbrev s_law_printed : Stmt := top 27
theorem sc_law_printed : FnScope ["reel", "rim", "most", "first", "chance", "found", "k"] ["reel", "rim", "most"] (defScope s_law_printed) := ⟨rfl, rfl, rfl, by decide +kernel, rfl, by decide +kernel, by decide +kernel⟩
abbrev s_law_pieces : Stmt := top 28
theorem sc_law_pieces : FnScope ["reel", "rim", "most", "k"] ["reel", "rim"] (defScope s_law_pieces) := ⟨rfl, rfl, rfl, by decide +kernel, rfl, by decide +kernel, by decide +kernel⟩
abbrev s_law_kind_of : Stmt := top 30
theorem sc_law_kind_of : FnScope ["e", "kinds", "met", "name", "so"] ["e"] (defScope s_law_kind_of) := ⟨rfl, rfl, rfl, by decide +kernel, rfl, by decide +kernel, by decide +kernel⟩
abbrev s_law_asked : Stmt := top 31
theorem sc_law_asked : FnScope ["pieces", "size", "caught", "e"] ["pieces", "size"] (defScope s_law_asked) := ⟨rfl, rfl, rfl, by decide +kernel, rfl, by decide +kernel, by decide +kernel⟩
abbrev s_law : Stmt := top 32
theorem sc_law : FnScope ["script", "reel", "k", "rim", "pieces", "at", "odd", "bad", "size", "rows", "handed", "number", "due", "stays"] ["script"] (defScope s_law) := ⟨rfl, rfl, rfl, by decide +kernel, rfl, by decide +kernel, by decide +kernel⟩
/-- what the top leaves -/
structure Txt (K : PySem.W.Frag) (mg : Str → Option Value) : Prop where
  a_need_seen : At K mg "need_seen" s_need_seen ["thing"]
  a_need_pieces : At K mg "need_pieces" s_need_pieces ["pieces"]
  a_need_short_rim : At K mg "need_short_rim" s_need_short_rim ["length"]
  a_laid : At K mg "laid" s_laid ["rim", "piece", "first"]
  a_least_turning : At K mg "least_turning" s_least_turning ["rim"]
  a_known_from : At K mg "known_from" s_known_from ["pieces", "length"]
  a_law_reel : At K mg "_law_reel" s_law_reel ["script"]
  a_law_draw : At K mg "_law_draw" s_law_draw ["reel", "many"]
  a_law_rim : At K mg "_law_rim" s_law_rim ["reel", "size"]
  a_law_printed : At K mg "_law_printed" s_law_printed ["reel", "rim", "most"]
  a_law_pieces : At K mg "_law_pieces" s_law_pieces ["reel", "rim"]
  a_law_kind_of : At K mg "_law_kind_of" s_law_kind_of ["e"]
  a_law_asked : At K mg "_law_asked" s_law_asked ["pieces", "size"]
  x_NoSeen : REX.ExcT K mg "NoSeen"
  x_NoNumber : REX.ExcT K mg "NoNumber"
  x_PrintError : REX.ExcT K mg "PrintError"
  x_NoForm : REX.ExcT K mg "NoForm"
  x_NoLetter : REX.ExcT K mg "NoLetter"
  x_NoName : REX.ExcT K mg "NoName"
  x_NoPlace : REX.ExcT K mg "NoPlace"
  x_NoPress : REX.ExcT K mg "NoPress"
  x_NoText : REX.ExcT K mg "NoText"
  x_NoneYet : REX.ExcT K mg "NoneYet"
  x_TooLong : REX.ExcT K mg "TooLong"
  y_NoSeen_NoSeen : REX.IsA K "NoSeen" "NoSeen" true
  y_NoSeen_NoNumber : REX.IsA K "NoSeen" "NoNumber" false
  y_NoSeen_PrintError : REX.IsA K "NoSeen" "PrintError" true
  y_NoSeen_NoForm : REX.IsA K "NoSeen" "NoForm" false
  y_NoSeen_NoLetter : REX.IsA K "NoSeen" "NoLetter" false
  y_NoSeen_NoName : REX.IsA K "NoSeen" "NoName" false
  y_NoSeen_NoPlace : REX.IsA K "NoSeen" "NoPlace" false
  y_NoSeen_NoPress : REX.IsA K "NoSeen" "NoPress" false
  y_NoSeen_NoText : REX.IsA K "NoSeen" "NoText" false
  y_NoSeen_NoneYet : REX.IsA K "NoSeen" "NoneYet" false
  y_NoSeen_TooLong : REX.IsA K "NoSeen" "TooLong" false
  y_NoNumber_NoSeen : REX.IsA K "NoNumber" "NoSeen" false
  y_NoNumber_NoNumber : REX.IsA K "NoNumber" "NoNumber" true
  y_NoNumber_PrintError : REX.IsA K "NoNumber" "PrintError" true
  y_NoNumber_NoForm : REX.IsA K "NoNumber" "NoForm" false
  y_NoNumber_NoLetter : REX.IsA K "NoNumber" "NoLetter" false
  y_NoNumber_NoName : REX.IsA K "NoNumber" "NoName" false
  y_NoNumber_NoPlace : REX.IsA K "NoNumber" "NoPlace" false
  y_NoNumber_NoPress : REX.IsA K "NoNumber" "NoPress" false
  y_NoNumber_NoText : REX.IsA K "NoNumber" "NoText" false
  y_NoNumber_NoneYet : REX.IsA K "NoNumber" "NoneYet" false
  y_NoNumber_TooLong : REX.IsA K "NoNumber" "TooLong" false
  v_NoSeen : REX.IsTy K "NoSeen" "ValueError" true
  v_NoNumber : REX.IsTy K "NoNumber" "ValueError" true
  c_MOST_MARKS : ∃ t, mg "MOST_MARKS" = some (.int (10) t)
  c_SEEN_SIGNS : ∃ t, mg "SEEN_SIGNS" = some (.str "abcdefghijklmnopqrstuvwxyz.?" t)
  c_UNSEEN : ∃ t, mg "UNSEEN" = some (.str "?" t)
  n_ValueError : mg "ValueError" = none
  n_bool : mg "bool" = none
  n_enumerate : mg "enumerate" = none
  n_int : mg "int" = none
  n_isinstance : mg "isinstance" = none
  n_len : mg "len" = none
  n_list : mg "list" = none
  n_min : mg "min" = none
  n_range : mg "range" = none
  n_repr : mg "repr" = none
  n_sorted : mg "sorted" = none
  n_str : mg "str" = none
  n_tuple : mg "tuple" = none
end X

namespace X
open PySem PySem.Spec PyProof.Rows L2 Evl TL RC RA RD RE RF RG RH RI RL RS RP RQ RR RT RDI RU RV RX RY RZ1 RO RO1 RM RO2 RK RN RLS RST RTU RSP RSU RLT RPL RPT RPI RMB RMX RMC RMU RFZ RWD RPB RUX RLO RSK RWY RSL RGU RSH REX RXW RRZ
section
variable {P : Program} {w : World} {K : PySem.W.Frag} {mg : Str → Option Value} {base : Heap}
/-! ### need_seen, need_length -/
def sp_need_seen (K : PySem.W.Frag) : Sp := fun vs H Q _ => ∃ l, vs = [T l] ∧ Seen l ∧ RetV .non H Q
theorem ok_need_seen (TX : Txt K mg) : Has P w K mg base CX0 1 "need_seen" ["thing"] (sp_need_seen K) := by
  refine TX.a_need_seen.ok sc_need_seen (fun vs H Q E h => ?_) (fun f cdv A outer s H vs Q E hr h => ?_)
  · obtain ⟨l, rfl, _⟩ := h
    rfl
  obtain ⟨l, rfl, h⟩ := h
  refine ⟨_, (pss_one (ps_if (PW.pt (pw_or (pt_not (pt_val (pe_callB (r := rIsi K) call_isi (by rfl) TX.n_isinstance bt_isinstance (pa_cons (pv 0) (pa_cons (pe_bltn (v := .ty "str") (by rfl) TX.n_str bt_str rfl) pa_nil))))) (pw_or (pt_cmpR op_eq (pv 0) pe_str (nomark _)) (pw_or1 (pt_cmpR (op_neD hr.units) (pe_lc (own := [("sign", 1)]) (by rfl) sc_need_seen.nd (pi_str (pv 0)) (blkOk_by (N := ["thing", "sign"]) (sc := defScope s_need_seen) (by decide +kernel)) (fun _ _ _ _ _ => (pg_name (i := 1) sc_need_seen.nd rfl (Or.inl rfl))) (fun _ _ _ _ _ => (pts_one (pt_cmpR op_notInT (pv 1) (pe_gs TX.c_SEEN_SIGNS) rfl))) (fun _ _ _ _ _ => (pv 1))) (pe_lst pa_nil) (nomark _)))))) (pss_one ps_never) pss_nil)), ?_⟩
  obtain ⟨⟨h1, h2, h3⟩, h⟩ := h
  have e3 : l.filter (fun c => !decide (c ∈ SIGNS)) = [] := List.filter_eq_nil_iff.mpr fun c hc => by simp [h3 c hc]
  refine s_when (et_or (et_not (et_B (ev_isiT (ev_var rfl)))) fun _ => et_or (et_test (ev_eqT (ev_var rfl) (ev_s [] (by decide +kernel)))) fun _ => et_test
    (ev_neLL (zs := []) (el_to (el_lcStr (fun c => !decide (c ∈ SIGNS)) (fun c => T [c]) (ev_var rfl) (by omega) (fun _ => rfl) (fun c H1 _ _ => et_test (ev_notInT (ev_var rfl) (ev_s SIGNS (by decide +kernel)))) (fun c H1 _ _ _ => ev_var rfl)) (by rw [e3]; rfl : _ = ([] : List (List Nat)).map T))
      el_nil (fun y hy => by simp at hy) (fun y hy => by simp at hy))) (fun hb H1 e1 => ?_) (fun hb H1 e1 => h.go e1)
  simp [h1] at hb

end
end X

namespace X
open PySem PySem.Spec PyProof.Rows L2 Evl TL RC RA RD RE RF RG RH RI RL RS RP RQ RR RT RDI RU RV RX RY RZ1 RO RO1 RM RO2 RK RN RLS RST RTU RSP RSU RLT RPL RPT RPI RMB RMX RMC RMU RFZ RWD RPB RUX RLO RSK RWY RSL RGU RSH REX RXW RRZ
section
variable {P : Program} {w : World} {K : PySem.W.Frag} {mg : Str → Option Value} {base : Heap}
/-! ### new sorted lists of what is so -/
def RetS (A : List Nat → Prop) (H : Hp) (Q : VK) : Prop := ∀ (ys : List (List Nat)) p H', RWY.Srt ys A → ys.length ≤ 10000 → H p = none → Ex H H' → H' p = some (.lst (ys.map T)) → Q (.ref p) H'
def EvS (te : TE) (σ : L2.St) (H : Hp) (A : List Nat → Prop) : Prop := ∀ H1, Ex H H1 → ∀ Q : VK, RetS A H1 Q → te σ H1 Q
theorem es_call {σ : L2.St} {H : Hp} {sp : Sp} {dvs vs : List V} {E : XK} {tr : TA} {A : List Nat → Prop} (h : EvA tr σ H vs) (hs : ∀ H1, Ex H H1 → ∀ Q : VK, RetS A H1 Q → ∀ E : XK, sp (vs ++ dvs) H1 Q E) : EvS (tCall sp dvs E tr) σ H A := fun H1 e Q q =>
  h H1 e _ fun H2 e2 => hs H2 (e.trans e2) _ (fun ys p H3 s hl hp e3 h3 => q ys p H3 s hl (fresh_back e2 hp) (e2.trans e3) h3) _
theorem s_retS {σ : L2.St} {H : Hp} {te : TE} {D : Ends} {A : List Nat → Prop} (h : EvS te σ H A) (k : ∀ ys p H1, RWY.Srt ys A → ys.length ≤ 10000 → H p = none → Ex H H1 → H1 p = some (.lst (ys.map T)) → D.rt (.ref p) H1) : tRet te D σ H := h H (Ex.refl H) _ fun ys p H1 s hl hp e h1 => k ys p H1 s hl hp e h1
theorem RetS.go {A : List Nat → Prop} {H H1 : Hp} {Q : VK} (h : RetS A H Q) (e : Ex H H1) : ∀ ys p H2, RWY.Srt ys A → ys.length ≤ 10000 → H1 p = none → Ex H1 H2 → H2 p = some (.lst (ys.map T)) → Q (.ref p) H2 := fun ys p H2 s hl hp e2 h2 => h ys p H2 s hl (fresh_back e hp) (e.trans e2) h2
theorem cps_S (l : List Nat) : (S l).cps.toList = l := by simp [S]
theorem strs_of {P : List Nat → Prop} : ∀ {ys : List Str}, (∀ y ∈ ys, ∃ k, y = S k ∧ P k) → ∃ zs : List (List Nat), ys = zs.map S ∧ ∀ k ∈ zs, P k
  | [], _ => ⟨[], rfl, fun k hk => by cases hk⟩
  | y :: r, h => by
    obtain ⟨k, h1, h2⟩ := h y List.mem_cons_self
    obtain ⟨zs, h3, h4⟩ := strs_of fun z hz => h z (List.mem_cons_of_mem _ hz)
    exact ⟨k :: zs, by rw [h1, h3]; rfl, fun d hd => (List.mem_cons.mp hd).elim (fun e => e ▸ h2) (h4 d)⟩
theorem srt_of {ys : List Str} {ks : List (List Nat)} {A : List Nat → Prop} (pm : ys.Perm (ks.map S)) (so : sortedS ys = true) (nd : ks.Nodup) (hA : ∀ x, x ∈ ks ↔ A x) : ∃ zs, ys = zs.map S ∧ RWY.Srt zs A ∧ zs.length = ks.length := by
  obtain ⟨zs, rfl, hz⟩ := strs_of (P := fun k => k ∈ ks) fun y hy => by
    obtain ⟨k, hk, rfl⟩ := List.mem_map.mp (pm.mem_iff.mp hy)
    exact ⟨k, rfl, hk⟩
  have nS : (ks.map S).Nodup := List.Pairwise.map _ (fun a b hab z => hab (S_inj.mp z)) nd
  refine ⟨zs, rfl, ⟨so, (List.pairwise_map.mp (pm.nodup_iff.mpr nS)).imp fun hne e => hne (by rw [e]), fun x => ?_⟩, by have := pm.length_eq; rwa [List.length_map, List.length_map] at this⟩
  rw [← hA]
  constructor
  · exact hz x
  · intro hx
    obtain ⟨k, hk, e⟩ := List.mem_map.mp (pm.mem_iff.mpr (List.mem_map.mpr ⟨x, hx, rfl⟩))
    rw [← S_inj.mp e]
    exact hk
/-! ### min of texts -/
theorem ev_minT {σ : L2.St} {H : Hp} {te : TE} {ls : List (List Nat)} (h : EvL te σ H (ls.map T)) (hne : ls ≠ []) : Ev (tCB (RSK.rMinT K) (tCons te tNil)) σ H (T (RSK.minL ls)) := fun H1 e Q q =>
  h H1 e _ fun p H2 hp e2 h2 => ⟨p, ls.map S, rfl, SqL.of (by rw [h2, List.map_map]; rfl), by rw [List.length_map]; exact List.length_pos_iff.mpr hne, fun m hm hle => by
    obtain ⟨l, hl, rfl⟩ := List.mem_map.mp hm
    have : l = RSK.minL ls := RSK.minL_of hl fun x hx => by
      have := hle (S x) (List.mem_map.mpr ⟨x, hx, rfl⟩)
      rwa [cps_S, cps_S] at this
    have q2 := q H2 e2
    rw [← this] at q2
    exact q2⟩
/-! ### a dict of texts -/
def kd (ks : List (List Nat)) : List (Key × V) := ks.map fun k => (Sum.inr (S k), V.bl true)
def addK (ks : List (List Nat)) (k : List Nat) : List (List Nat) := if k ∈ ks then ks else ks ++ [k]
theorem put_kd (ks : List (List Nat)) (k : List Nat) : putK (kd ks) (Sum.inr (S k)) (V.bl true) = kd (addK ks k) := by
  unfold putK addK
  have hany : ((kd ks).any fun kv => decide (kv.1 = (Sum.inr (S k) : Key))) = decide (k ∈ ks) := by
    unfold kd
    rw [List.any_map]
    by_cases h : k ∈ ks
    · rw [decide_eq_true h]
      exact List.any_eq_true.mpr ⟨k, h, by simp⟩
    · rw [decide_eq_false h]
      refine List.any_eq_false.mpr fun x hx => ?_
      simp only [Function.comp, decide_eq_true_eq]
      intro z
      exact h (S_inj.mp (Sum.inr.inj z) ▸ hx)
  rw [hany]
  by_cases h : k ∈ ks
  · rw [if_pos (decide_eq_true h), if_pos h]
    unfold kd
    rw [List.map_map]
    refine List.map_congr_left fun x _ => ?_
    simp only [Function.comp]
    split <;> rfl
  · rw [if_neg (by rw [decide_eq_false h]; decide), if_neg h]
    unfold kd
    rw [List.map_append]
    rfl
theorem addK_mem {ks : List (List Nat)} {k x : List Nat} : x ∈ addK ks k ↔ x ∈ ks ∨ x = k := by
  unfold addK
  split
  · rename_i h
    exact ⟨.inl, fun z => z.elim id fun e => e ▸ h⟩
  · rw [List.mem_append, List.mem_singleton]
theorem addK_nd {ks : List (List Nat)} {k : List Nat} (h : ks.Nodup) : (addK ks k).Nodup := by
  unfold addK
  split
  · exact h
  · rename_i hn
    exact List.nodup_append.mpr ⟨h, List.pairwise_singleton _ _, fun a ha b hb e => by
      rw [List.mem_singleton.mp hb] at e
      exact hn (e ▸ ha)⟩
theorem addK_len (ks : List (List Nat)) (k : List Nat) : (addK ks k).length ≤ ks.length + 1 := by
  unfold addK
  split
  · omega
  · simp
theorem kd_keys (ks : List (List Nat)) : (kd ks).map (·.1) = (ks.map S).map Sum.inr := by
  unfold kd
  rw [List.map_map, List.map_map]
  rfl
theorem es_sortedD {σ : L2.St} {H : Hp} {te : TE} {d : Addr} {ks : List (List Nat)} {A : List Nat → Prop} (hv : Ev te σ H (.ref d)) (hd : H d = some (.dK (kd ks))) (nd : ks.Nodup) (hA : ∀ x, x ∈ ks ↔ A x) (hl : ks.length ≤ 10000) : EvS (tCB RSK.rSortedDA (tCons te tNil)) σ H A := fun H1 e Q q =>
  hv H1 e _ fun H2 e2 => ⟨d, kd ks, ks.map S, rfl, .inl ((e.trans e2) _ _ hd), kd_keys ks, by rw [List.length_map]; omega, fun ys p pm so hp => by
    obtain ⟨zs, rfl, hz, hzl⟩ := srt_of pm so nd hA
    exact q zs p _ hz (by omega) (fresh_back e2 hp) (e2.trans (Ex.new hp)) (by rw [upd_same, List.map_map]; rfl)⟩
theorem q_dict1 {σ : L2.St} {H : Hp} {D : Ends} {tz : TS} {tk : TE} {i : Nat} {k : List Nat} (hk : Ev tk σ H (T k)) (c : ∀ p H1, H p = none → Ex H H1 → H1 p = some (.dK (kd [k])) → tz D (σ.set i (some (.ref p))) H1) : tSeq (tAsg (tDisp [(tk, tC (.bl true))]) (gName i)) tz D σ H := fun p hp => by
  have e1 : Ex H (upd H p (.dK [])) := Ex.new hp
  exact hk _ e1 _ fun H2 e2 => ⟨e2 _ _ upd_same, [(Sum.inr (S k), V.bl true)], rfl, by show 1 ≤ 15; decide, c p _ hp ((e1.trans e2).mut hp) upd_same⟩
theorem q_dict0 {σ : L2.St} {H : Hp} {D : Ends} {tz : TS} {i : Nat} (c : ∀ p H1, H p = none → Ex H H1 → H1 p = some (.dK (kd [])) → tz D (σ.set i (some (.ref p))) H1) : tSeq (tAsg tDNewK (gName i)) tz D σ H := fun p hp => c p _ hp (Ex.new hp) upd_same
theorem s_dput {σ : L2.St} {H : Hp} {D : Ends} {td ty tv : TE} {d : Addr} {ls : List (List Nat)} {k : List Nat} (hd : H d = some (.dK (kd ls))) (hv : Ev tv σ H (.bl true)) (ho : Ev td σ H (.ref d)) (hk : Ev ty σ H (T k)) (hl : ls.length < 16777216) (c : ∀ H1, Ex H H1 → D.nx σ (upd H1 d (.dK (kd (addK ls k))))) : sDPut td ty tv D σ H :=
  hv H (Ex.refl H) _ fun H1 e1 => ho H1 e1 _ fun H2 e2 => hk H2 (e1.trans e2) _ fun H3 e3 => ⟨d, _, rfl, DPut.k (k := Sum.inr (S k)) (((e1.trans e2).trans e3) _ _ hd) (by unfold kd; rw [List.length_map, big]; exact hl), by
    rw [put_kd]
    exact c H3 ((e1.trans e2).trans e3)⟩
theorem q_forKeys {σ : L2.St} {H : Hp} {D : Ends} {tu tz : TS} {d : Addr} {kvs : List (Key × V)} {i j : Nat} (hv : σ[i]? = some (some (.ref d))) (hd : H d = some (.dK kvs)) (Pv : Obj → Nat → L2.St → Hp → Prop) (h0 : ∀ od, Pv od 0 σ (upd H d (.frz od (.dK kvs)))) (hG : ∀ od k σ' H', Pv od k σ' H' → H' d = some (.frz od (.dK kvs)))
    (hs : ∀ od k key v σ' H' R B, kvs[k]? = some (key, v) → Pv od k σ' H' → tu ⟨Pv od (k + 1), R, B, Pv od (k + 1)⟩ (σ'.set j (some (kV key))) H') (hdn : ∀ od σ' H', Pv od kvs.length σ' H' → tz D σ' (upd H' d (.dK kvs))) : tSeq (tLock (tFor (iKeys (tVar i)) (gName j) tu)) tz D σ H :=
  ⟨d, .dK kvs, hd, trivial, fun od => ⟨.ref d, hv, d, od, rfl, .inl ⟨kvs, upd_same, for_it walk_keys (Pv od) (h0 od) (fun k σ' H' _ p => hG od k σ' H' p) (fun k x σ' H2 H3 hk p y => by
    obtain ⟨rfl, key, v, h1, rfl⟩ := y
    exact hs od k key v σ' _ _ _ h1 p) fun σ' H' p => ⟨hG od _ σ' H' p, hdn od σ' H' p⟩⟩⟩⟩
theorem s_forQ {σ : L2.St} {H H0 : Hp} {te : TE} {v : V} {xs : List V} {D : Ends} {tu : TS} {g : TG} (h : Ev te σ H v) (e0 : Ex H0 H) (hs : Sq H0 v xs) (Pv : Nat → L2.St → Hp → Prop) (h0 : ∀ H1, Ex H H1 → Pv 0 σ H1) (hx : ∀ i σ' H', Pv i σ' H' → Ex H0 H')
    (hst : ∀ i x σ' H', xs[i]? = some x → Pv i σ' H' → g x σ' H' fun σ2 H2 => tu { D with nx := Pv (i + 1), ct := Pv (i + 1), bk := D.nx } σ2 H2) (hd : ∀ σ' H', Pv xs.length σ' H' → D.nx σ' H') :
    tFor (fun σ H R => iList K te σ H R ∨ iTup K te σ H R) g tu D σ H := by
  obtain ⟨a, rfl, ha⟩ := hs
  rcases ha with ha | ha
  · exact .inl (s_forL (D := D) h (SqL.of (e0 _ _ ha)) Pv h0 (fun i σ' H' _ p => SqL.of (hx i σ' H' p _ _ ha)) hst hd)
  · exact .inr (s_forT (D := D) h (.inl (ex_rd e0 ha)) Pv h0 (fun i σ' H' _ p => .inl (ex_rd (hx i σ' H' p) ha)) hst hd)
theorem map_at {ls : List (List Nat)} {i : Nat} {x : V} (h : (ls.map T)[i]? = some x) : ∃ l, ls[i]? = some l ∧ x = T l := by
  rw [List.getElem?_map] at h
  cases hl : ls[i]? with
  | none => rw [hl] at h; cases h
  | some l => rw [hl] at h; exact ⟨l, rfl, (Option.some.inj h).symm⟩
/-! ### the walk -/
def sp_need_pieces (K : PySem.W.Frag) : Sp := fun vs H Q _ => ∃ (v : V) (ps : List (List Nat)), vs = [v] ∧ (Sq H v (ps.map T) ∧ ps ≠ [] ∧ ∀ p ∈ ps, Seen p) ∧ RetV .non H Q
theorem ok_need_pieces (TX : Txt K mg) : Has P w K mg base CX0 2 "need_pieces" ["pieces"] (sp_need_pieces K) := by
  have h_need_seen := ok_need_seen (P := P) (w := w) (base := base) TX
  refine TX.a_need_pieces.ok sc_need_pieces (fun vs H Q E h => ?_) (fun f cdv A outer s H vs Q E hr h => ?_)
  · obtain ⟨v, ps, rfl, _⟩ := h
    rfl
  obtain ⟨v, ps, rfl, h⟩ := h
  refine ⟨_, (pss_cons (ps_if (PW.pt (pw_or (pt_not (pt_val (pe_callB (r := rIsiT K) call_isiT (by rfl) TX.n_isinstance bt_isinstance (pa_cons (pv 0) (pa_cons (pe_tup (pa_cons (pe_bltn (v := .ty "list") (by rfl) TX.n_list bt_list rfl) (pa_cons (pe_bltn (v := .ty "tuple") (by rfl) TX.n_tuple bt_tuple rfl) pa_nil))) pa_nil))))) (pw_or1 (pt_cmpR op_eq (pe_callB (r := rLenL K) call_lenL (by rfl) TX.n_len bt_len (pa_cons (pv 0) pa_nil)) pe_int (nomark _))))) (pss_one ps_never) pss_nil)
        (pss_one (ps_for PassesOwn.never rfl (pi_or2 (pi_list (pv 0)) (pi_tup (pv 0))) (pg_name (i := 1) sc_need_pieces.nd rfl (Or.inl rfl)) (pss_one (ps_expr (pe_has h_need_seen (hr.mono (by omega)) pass0 (pa_cons (pv 1) pa_nil))))))), ?_⟩
  obtain ⟨⟨hs, hne, hp⟩, h⟩ := h
  have hpos : 0 < ps.length := List.length_pos_iff.mpr hne
  refine q_when (b := false) (et_is (et_or (a := false) (b := false) (et_is (et_not (a := true) (et_B (ev_isiQ (ev_var rfl) hs))) rfl) fun _ => et_is (et_test (ev_eqI (ev_lenQ (ev_var rfl) hs) ev_c)) (by rw [List.length_map]; simp; omega)) rfl) (fun hb => by cases hb) (fun _ H1 e1 => ?_)
  refine s_forQ (ev_var rfl) e1 hs (fun i σ' H' => ∃ v1 : Option V, σ' = [some v, v1] ∧ Ex H H') (fun H2 e2 => ⟨_, rfl, e1.trans e2⟩) (fun i σ' H' ⟨_, _, e⟩ => e) (fun i x σ' H' hx hP => ?_) (fun σ' H' hP => ?_)
  · obtain ⟨v1, rfl, e2⟩ := hP
    obtain ⟨p, hpi, rfl⟩ := map_at hx
    exact s_drop (ev_call (z := .non) (ea_cons (ev_var rfl) ea_nil) fun H3 e3 Q q E => ⟨p, rfl, hp p (List.mem_of_getElem? hpi), q⟩) fun H3 e3 => ⟨_, rfl, e2.trans e3⟩
  · obtain ⟨v1, rfl, e2⟩ := hP
    exact h _ e2
def sp_need_short_rim (K : PySem.W.Frag) : Sp := fun vs H Q _ => ∃ i : Int, vs = [.int i] ∧ (1 ≤ i ∧ i ≤ 10) ∧ RetV .non H Q
theorem ok_need_short_rim (TX : Txt K mg) : Has P w K mg base CX0 1 "need_short_rim" ["length"] (sp_need_short_rim K) := by
  refine TX.a_need_short_rim.ok sc_need_short_rim (fun vs H Q E h => ?_) (fun f cdv A outer s H vs Q E hr h => ?_)
  · obtain ⟨i, rfl, _⟩ := h
    rfl
  obtain ⟨i, rfl, h⟩ := h
  refine ⟨_, (pss_one (ps_if (PW.pt (pw_or (pt_not (pt_val (pe_callB (r := rIsi K) call_isi (by rfl) TX.n_isinstance bt_isinstance (pa_cons (pv 0) (pa_cons (pe_bltn (v := .ty "int") (by rfl) TX.n_int bt_int rfl) pa_nil))))) (pw_or (pt_val (pe_callB (r := rIsi K) call_isi (by rfl) TX.n_isinstance bt_isinstance (pa_cons (pv 0) (pa_cons (pe_bltn (v := .ty "bool") (by rfl) TX.n_bool bt_bool rfl) pa_nil)))) (pw_or1 (pt_not (pt_chain op_le op_le pe_int (pv 0) (pe_gi TX.c_MOST_MARKS))))))) (pss_one ps_never) pss_nil)), ?_⟩
  obtain ⟨⟨h1, h2⟩, h⟩ := h
  refine s_when (et_or (et_not (et_B (ev_isiI (ev_var rfl)))) fun _ => et_or (et_B (ev_isiIb (ev_var rfl))) fun _ => et_not (et_test (ev_chain ev_c (ev_var rfl) rv_I0 (fun _ => ev_c) (fun _ => rv_I0)))) (fun hb H1 e1 => ?_) (fun hb H1 e1 => h.go e1)
  simp [h1, h2] at hb
def sp_laid (K : PySem.W.Frag) : Sp := fun vs H Q _ => ∃ (r p : List Nat) (f : Nat), vs = [T r, T p, .int (f : Int)] ∧ (0 < r.length ∧ r.length ≤ 100 ∧ p.length ≤ 4000 ∧ f ≤ 1000) ∧ RetV (optT (RWY.lay r p f)) H Q
theorem ok_laid (TX : Txt K mg) : Has P w K mg base CX0 1 "laid" ["rim", "piece", "first"] (sp_laid K) := by
  refine TX.a_laid.ok sc_laid (fun vs H Q E h => ?_) (fun f cdv A outer s H vs Q E hr h => ?_)
  · obtain ⟨r, p, f', rfl, _⟩ := h
    rfl
  obtain ⟨r, p, f', rfl, h⟩ := h
  refine ⟨_, (pss_cons (ps_set (i := 3) sc_laid.nd rfl (Or.inl rfl) (pe_callTy (RLS.call_listT rfl) (by rfl) TX.n_list bt_list (pa_cons (pv 0) pa_nil)))
        (pss_cons (ps_for PassesOwn.never rfl (pi_enumS (by rfl) TX.n_enumerate (pa_cons (pv 1) pa_nil)) (pg_tup rfl (pgs_cons (pg_name (i := 4) sc_laid.nd rfl (Or.inl rfl)) (pgs_cons (pg_name (i := 5) sc_laid.nd rfl (Or.inl rfl)) pgs_nil))) (pss_cons (ps_set (i := 6) sc_laid.nd rfl (Or.inl rfl) (pe_op op_mod (pe_op op_add (pv 2) (pv 4)) (pe_callB call_lenT (by rfl) TX.n_len bt_len (pa_cons (pv 0) pa_nil))))
        (pss_cons (ps_if (PW.pt (pw_and (pt_cmpR op_ne (pv 5) (pe_gs TX.c_UNSEEN) (nomark _)) (pw_and1 (pt_cmpR op_notIn_seq (pe_ix ix_list (pv 3) (pv 6) (fun _ _ => rfl)) (pe_tup (pa_cons (pe_gs TX.c_UNSEEN) (pa_cons (pv 5) pa_nil))) rfl)))) (pss_one (ps_ret pe_non)) pss_nil)
        (pss_one (ps_if (pt_cmpR op_ne (pv 5) (pe_gs TX.c_UNSEEN) (nomark _)) (pss_one (ps_asg (pv 5) (pg_sub (pv 3) (pv 6) set_list))) pss_nil)))))
        (pss_one (ps_ret (pe_join pe_str (pv 3)))))), ?_⟩
  obtain ⟨⟨r0, r1, p1, f1⟩, h⟩ := h
  refine q_asgL (RMC.el_listT (ev_var rfl) (by omega)) fun q H1 hq e1 h1 => ?_
  refine q_forEnumS (ea_cons (ev_var rfl) ea_nil) (fun i σ' H' => ∃ (v4 v5 v6 : Option V) (cur : List Nat), σ' = [some (T r), some (T p), some (.int (f' : Int)), some (.ref q), v4, v5, v6] ∧ H' q = some (.lst (cur.map fun c => T [c])) ∧ Ex H H' ∧ cur.length = r.length ∧ RWY.layG f' r.length 0 p r = RWY.layG f' r.length i (p.drop i) cur)
    (fun H3 e3 => ⟨_, _, _, r, rfl, e3 _ _ h1, e1.trans e3, rfl, rfl⟩) (fun i σ' H' H3 hi hp e3 => ?_) (fun σ' H' hp => ?_)
  · obtain ⟨v4, v5, v6, cur, rfl, hcur, e4, hcl, hlay⟩ := hp
    have hsp : (f' + i) % r.length < r.length := Nat.mod_lt _ r0
    have hdrop : p.drop i = p[i] :: p.drop (i + 1) := List.drop_eq_getElem_cons hi
    rw [hdrop] at hlay
    refine q_asg (v := .int (((f' + i) % r.length : Nat) : Int)) (ev_is (ev_mod (ev_i0 (ev_var rfl) (ev_var rfl)) (ev_lenT (ev_var rfl) (by omega)) (by omega)) (by congr 1)) fun H4 e5 => ?_
    have e45 := (e4.trans e3).trans e5
    have hcur4 : H4 q = some (.lst (cur.map fun c => T [c])) := e5 _ _ (e3 _ _ hcur)
    have hat : ∀ {H5 : Hp} {σ : L2.St}, Ex H4 H5 → σ[3]? = some (some (.ref q)) → σ[6]? = some (some (.int (((f' + i) % r.length : Nat) : Int))) → Ev (tOp (rIxL K) (tVar 3) (tVar 6)) σ H5 (T [cur.getD ((f' + i) % r.length) 0]) := fun e s3 s6 =>
      ev_op (ev_var s3) (ev_var s6) (rv_ixL (SqL.of (e _ _ hcur4)) (atI_nat (by rw [List.getElem?_map, List.getElem?_eq_getElem (by omega), List.getD_eq_getElem?_getD, List.getElem?_eq_getElem (by omega)]; rfl)))
    by_cases c63 : p[i] = 63
    · refine q_when (b := false) (et_is (et_and (a := false) (b := false) (et_is (et_test (ev_neT (ev_var (v := T [p[i]]) rfl) (ev_s [63] (by decide +kernel)))) (by simp [c63])) fun z => by cases z) rfl) (fun hb => by cases hb) (fun _ H5 e6 => ?_)
      refine s_when (b := false) (et_is (et_test (ev_neT (ev_var (v := T [p[i]]) rfl) (ev_s [63] (by decide +kernel)))) (by simp [c63])) (fun hb => by cases hb) (fun _ H6 e7 => ⟨_, _, _, cur, rfl, (e6.trans e7) _ _ hcur4, (e45.trans e6).trans e7, hcl, ?_⟩)
      rw [hlay]
      conv => lhs; unfold RWY.layG
      rw [if_pos c63]
    · by_cases ok : cur.getD ((f' + i) % r.length) 0 = 63 ∨ cur.getD ((f' + i) % r.length) 0 = p[i]
      · refine q_when (b := false) (et_is (et_and (a := true) (b := false) (et_is (et_test (ev_neT (ev_var (v := T [p[i]]) rfl) (ev_s [63] (by decide +kernel)))) (by simp [c63])) fun _ => et_is (et_test (ev_niT2 (hat (Ex.refl _) rfl rfl) (ev_s [63] (by decide +kernel)) (ev_var (v := T [p[i]]) rfl))) ?_) rfl) (fun hb => by cases hb) (fun _ H5 e6 => ?_)
        · rcases ok with z | z <;> rw [z] <;> simp
        refine s_when (b := true) (et_is (et_test (ev_neT (ev_var (v := T [p[i]]) rfl) (ev_s [63] (by decide +kernel)))) (by simp [c63])) (fun _ H6 e7 => ?_) (fun hb => by cases hb)
        refine s_setL (j := (f' + i) % r.length) ((e6.trans e7) _ _ hcur4) (ev_var (v := T [p[i]]) rfl) (ev_var rfl) (ev_var rfl) (by rw [List.length_map, hcl]; exact hsp) fun H7 e8 => ⟨_, _, _, cur.set ((f' + i) % r.length) p[i], rfl, ?_, (((e45.trans e6).trans e7).trans e8).mut hq, by rw [List.length_set]; exact hcl, ?_⟩
        · rw [upd_same, List.map_set]
        · rw [hlay]
          conv => lhs; unfold RWY.layG
          rw [if_neg c63, if_pos ok]
      · refine q_when (b := true) (et_is (et_and (a := true) (b := true) (et_is (et_test (ev_neT (ev_var (v := T [p[i]]) rfl) (ev_s [63] (by decide +kernel)))) (by simp [c63])) fun _ => et_is (et_test (ev_niT2 (hat (Ex.refl _) rfl rfl) (ev_s [63] (by decide +kernel)) (ev_var (v := T [p[i]]) rfl))) ?_) rfl) (fun _ H5 e6 => ?_) (fun hb => by cases hb)
        · have n1 : ¬ cur.getD ((f' + i) % r.length) 0 = 63 := fun z => ok (.inl z)
          have n2 : ¬ cur.getD ((f' + i) % r.length) 0 = p[i] := fun z => ok (.inr z)
          rw [decide_eq_false (fun z => n1 (List.cons.inj z).1.symm), decide_eq_false (fun z => n2 (List.cons.inj z).1.symm)]
          rfl
        have hn : RWY.lay r p f' = none := by
          unfold RWY.lay
          rw [hlay]
          unfold RWY.layG
          rw [if_neg c63, if_neg ok]
        rw [hn] at h
        exact s_ret ev_c fun H6 e7 => h.go ((e45.trans e6).trans e7)
  · obtain ⟨v4, v5, v6, cur, rfl, hcur, e4, hcl, hlay⟩ := hp
    have hn : RWY.lay r p f' = some cur := by
      unfold RWY.lay
      rw [hlay, List.drop_of_length_le (Nat.le_refl _)]
      rfl
    rw [hn] at h
    exact s_ret (ev_is (ev_joinL (ys := cur.map fun c => [c]) (by decide +kernel) (ev_var rfl) (SqL.of (by rw [hcur, List.map_map]; rfl)) (by rw [flat_signs]; omega)) (by rw [flat_signs]; rfl)) fun H6 e7 => h.go (e4.trans e7)
def sp_least_turning (K : PySem.W.Frag) : Sp := fun vs H Q _ => ∃ (r : List Nat), vs = [T r] ∧ (0 < r.length ∧ r.length ≤ 100) ∧ RetV (T (RWY.least r)) H Q
theorem ev_turn {σ : L2.St} {H : Hp} {t1 t2 t3 t4 : TE} {r : List Nat} {k : Nat} (hr : r.length ≤ 100) (h1 : Ev t1 σ H (T r)) (h2 : Ev t2 σ H (.int (k : Int))) (h3 : Ev t3 σ H (T r)) (h4 : Ev t4 σ H (.int (k : Int))) : Ev (tOp rAddT (tSl rSlS t1 (tPart t2) tNoPart) (tSl rSlS t3 tNoPart (tPart t4))) σ H (T (RWY.turn r k)) :=
  ev_addT (ev_is (ev_slT h1 (eo_some h2) eo_none (by omega)) (by rw [RPT.cutS_dropA])) (ev_is (ev_slT h3 eo_none (eo_some h4) (by omega)) (by rw [cutS_take])) (by simp; omega)
theorem el_turns {σ : L2.St} {H : Hp} {ta : TA} {tel : TE} {vs : List Nat} {j : Nat} {r : List Nat} (hr : r.length ≤ 100) (h : EvA ta σ H [.int (r.length : Int)]) (hw : ∀ x, wipe ((wipe σ vs).set j (some x)) vs = wipe σ vs) (he : ∀ (i : Nat) H1, Ex H H1 → i < r.length → Ev tel ((wipe σ vs).set j (some (.int (i : Int)))) H1 (T (RWY.turn r i))) : EvL (tLc (iRng1 ta) (gName j) tYes tel vs) σ H ((RWY.turns r).map T) :=
  el_to (el_lcR1 (fun _ => true) (fun i => T (RWY.turn r i)) h ⟨by omega, by omega⟩ hw (fun i H1 e1 hi => et_yes) (fun i H1 e1 hi _ => he i H1 e1 (by omega))) (by
    unfold given RWY.turns
    rw [List.filter_eq_self.mpr (fun _ _ => rfl), List.map_map, Int.toNat_natCast]
    rfl)
theorem turns_ne {r : List Nat} (h0 : 0 < r.length) : RWY.turns r ≠ [] := fun z => by
  have := congrArg List.length z
  unfold RWY.turns at this
  rw [List.length_map, List.length_range] at this
  simp at this
  rw [this] at h0
  simp at h0
theorem ok_least_turning (TX : Txt K mg) : Has P w K mg base CX0 1 "least_turning" ["rim"] (sp_least_turning K) := by
  refine TX.a_least_turning.ok sc_least_turning (fun vs H Q E h => ?_) (fun f cdv A outer s H vs Q E hr h => ?_)
  · obtain ⟨r, rfl, _⟩ := h
    rfl
  obtain ⟨r, rfl, h⟩ := h
  refine ⟨_, (pss_one (ps_ret (pe_callB (RSK.cr_minT rfl) (by rfl) TX.n_min bt_min (pa_cons (pe_lc (own := [("first", 1)]) (by rfl) sc_least_turning.nd (pi_range1 (by rfl) TX.n_range (pa_cons (pe_callB call_lenT (by rfl) TX.n_len bt_len (pa_cons (pv 0) pa_nil)) pa_nil)) (blkOk_by (N := ["rim", "first"]) (sc := defScope s_least_turning) (by decide +kernel)) (fun _ _ _ _ _ => (pg_name (i := 1) sc_least_turning.nd rfl (Or.inl rfl))) (fun _ _ _ _ _ => pts_nil) (fun _ _ _ _ _ => (pe_op op_addT (pe_slice sl_str (pv 0) (po_some (pv 1)) po_none) (pe_slice sl_str (pv 0) po_none (po_some (pv 1)))))) pa_nil)))), ?_⟩
  obtain ⟨⟨r0, r1⟩, h⟩ := h
  exact s_ret (ev_minT (el_turns r1 (ea_cons (ev_lenT (ev_var rfl) (by omega)) ea_nil) (fun _ => rfl) fun i H1 e1 hi => ev_turn r1 (ev_var rfl) (ev_var rfl) (ev_var rfl) (ev_var rfl)) (turns_ne r0)) h
theorem setK_len {L : Nat} (h0 : 0 < L) {ps : List (List Nat)} {x : List Nat} (h : RWY.setK L ps x) : x.length = L := by
  obtain ⟨z, hz, e⟩ := (RWY.known_due h0 ps).fro x h
  have hl := (RWY.known_due h0 ps).len z hz
  rw [e, RWY.least_len (by omega), hl]
theorem setK_snoc {L : Nat} {ps : List (List Nat)} {p : List Nat} : RWY.setK L (ps ++ [p]) = RWY.stepK L p (RWY.setK L ps) := by
  unfold RWY.setK
  rw [List.foldl_append]
  rfl
def sp_known_from (K : PySem.W.Frag) : Sp := fun vs H Q _ => ∃ (v : V) (ps : List (List Nat)) (L : Nat), vs = [v, .int (L : Int)] ∧ ((Sq H v (ps.map T) ∧ ps ≠ [] ∧ ps.length ≤ 4 ∧ ∀ p ∈ ps, Seen p ∧ p.length ≤ 4000) ∧ 1 ≤ L ∧ L ≤ 10) ∧ RetS (RWY.setK L ps) H Q
theorem ok_known_from (TX : Txt K mg) : Has P w K mg base CX0 3 "known_from" ["pieces", "length"] (sp_known_from K) := by
  have h_need_pieces := ok_need_pieces (P := P) (w := w) (base := base) TX
  have h_need_short_rim := ok_need_short_rim (P := P) (w := w) (base := base) TX
  have h_laid := ok_laid (P := P) (w := w) (base := base) TX
  have h_least_turning := ok_least_turning (P := P) (w := w) (base := base) TX
  refine TX.a_known_from.ok sc_known_from (fun vs H Q E h => ?_) (fun f cdv A outer s H vs Q E hr h => ?_)
  · obtain ⟨v, ps, L, rfl, _⟩ := h
    rfl
  obtain ⟨v, ps, L, rfl, h⟩ := h
  refine ⟨_, (pss_cons (ps_expr (pe_has h_need_pieces (hr.mono (by omega)) pass0 (pa_cons (pv 0) pa_nil)))
        (pss_cons (ps_expr (pe_has h_need_short_rim (hr.mono (by omega)) pass0 (pa_cons (pv 1) pa_nil)))
        (pss_cons (ps_set (i := 2) sc_known_from.nd rfl (Or.inl rfl) (pe_disp (pps_cons (pe_op op_repT (pe_gs TX.c_UNSEEN) (pv 1)) pe_bl pps_nil) rfl rfl (fun z => nomatch z) (by decide)))
        (pss_cons (ps_for PassesOwn.never rfl (pi_or2 (pi_list (pv 0)) (pi_tup (pv 0))) (pg_name (i := 3) sc_known_from.nd rfl (Or.inl rfl)) (pss_cons (ps_set (i := 4) sc_known_from.nd rfl (Or.inl rfl) pe_dnewK)
        (pss_cons (ps_lock (ps_for PassesOwn.never rfl (pi_keys (pv 2)) (pg_name (i := 5) sc_known_from.nd rfl (Or.inl rfl)) (pss_one (ps_for PassesOwn.never rfl (pi_range1 (by rfl) TX.n_range (pa_cons (pv 1) pa_nil)) (pg_name (i := 6) sc_known_from.nd rfl (Or.inl rfl)) (pss_cons (ps_set (i := 7) sc_known_from.nd rfl (Or.inl rfl) (pe_has h_laid (hr.mono (by omega)) pass0 (pa_cons (pv 5) (pa_cons (pv 3) (pa_cons (pv 6) pa_nil)))))
        (pss_one (ps_if (pt_cmpR op_notN (pv 7) pe_non (nomark _)) (pss_one (ps_dput (hu_of hr) (pv 4) (pe_has h_least_turning (hr.mono (by omega)) pass0 (pa_cons (pv 7) pa_nil)) pe_bl rfl)) pss_nil)))))))
        (pss_one (ps_set (i := 2) sc_known_from.nd rfl (Or.inl rfl) (pv 4))))))
        (pss_one (ps_ret (pe_callB (RSK.cr_sortedDA rfl) (by rfl) TX.n_sorted bt_sorted (pa_cons (pv 2) pa_nil)))))))), ?_⟩
  obtain ⟨⟨⟨hs, hne, h6, hp⟩, L1, L10⟩, h⟩ := h
  refine q_drop (ev_call (z := .non) (ea_cons (ev_var rfl) ea_nil) fun H1 e1 Q q E => ⟨v, ps, rfl, ⟨hs.ex e1, hne, fun p hq => (hp p hq).1⟩, q⟩) fun H1 e1 => ?_
  refine q_drop (ev_call (z := .non) (ea_cons (ev_var rfl) ea_nil) fun H2 e2 Q q E => ⟨L, rfl, by omega, q⟩) fun H2 e2 => ?_
  have e12 := e1.trans e2
  refine q_dict1 (k := RWY.blank L) (ev_is (ev_repT (a := [63]) (ev_s [63] (by decide +kernel)) (ev_var rfl) (by omega) (by omega) (by show 1 * _ ≤ _; omega)) (by rw [show repT [63] ((L : Int)).toNat = RWY.blank L by rw [Int.toNat_natCast]; unfold repT RWY.blank; simp])) fun pr H3 hpr e3 h3 => ?_
  refine q_forQ (H0 := H) (ev_var rfl) (e12.trans e3) hs (fun i σ' H' => ∃ (pr : Addr) (v3 v4 v5 v6 v7 : Option V) (ks : List (List Nat)), σ' = [some v, some (.int (L : Int)), some (.ref pr), v3, v4, v5, v6, v7] ∧ H' pr = some (.dK (kd ks)) ∧ H pr = none ∧ Ex H H' ∧ ks.Nodup ∧ (∀ x, x ∈ ks ↔ RWY.setK L (ps.take i) x) ∧ ks.length ≤ L ^ i)
    (fun H4 e4 => ⟨pr, _, _, _, _, _, [RWY.blank L], rfl, e4 _ _ h3, fresh_back e12 hpr, (e12.trans e3).trans e4, List.pairwise_singleton _ _, fun x => by rw [List.mem_singleton]; rfl, by simp⟩) (fun i σ' H' ⟨_, _, _, _, _, _, _, _, _, _, e, _⟩ => e) (fun i x σ' H4 hx hP => ?_) (fun σ' H4 hP => ?_)
  · obtain ⟨pr, v3, v4, v5, v6, v7, ks, rfl, hks, hprn, e4, knd, kmem, klen⟩ := hP
    obtain ⟨p, hpi, rfl⟩ := map_at hx
    have hi : i < ps.length := (List.getElem?_eq_some_iff.mp hpi).1
    have hpL := (hp p (List.mem_of_getElem? hpi)).2
    have hpow : L ^ i ≤ 100000 := Nat.le_trans (Nat.pow_le_pow_left L10 i) (Nat.le_trans (Nat.pow_le_pow_right (by decide) (show i ≤ 5 by omega)) (by decide))
    refine q_dict0 fun pl H5 hpl e5 h5 => ?_
    have hpln : H pl = none := fresh_back e4 hpl
    have hne2 : pl ≠ pr := fun z => by rw [z, hks] at hpl; cases hpl
    have rlen : ∀ r ∈ ks, r.length = L := fun r hr => setK_len (by omega) ((kmem r).mp hr)
    refine q_forKeys (kvs := kd ks) rfl (e5 _ _ hks) (fun od k σ' H' => ∃ (v5 v6 v7 : Option V) (ls : List (List Nat)), σ' = [some v, some (.int (L : Int)), some (.ref pr), some (T p), some (.ref pl), v5, v6, v7] ∧ H' pr = some (.frz od (.dK (kd ks))) ∧ H' pl = some (.dK (kd ls)) ∧ Ex H H' ∧ ls.Nodup ∧ (∀ x, x ∈ ls ↔ ∃ r f z, r ∈ ks.take k ∧ f < L ∧ RWY.lay r p f = some z ∧ x = RWY.least z) ∧ ls.length ≤ k * L)
      (fun od => ⟨_, _, _, [], rfl, upd_same, by rw [upd_ne hne2]; exact h5, (e4.trans e5).mut hprn, List.nodup_nil, fun x => ⟨(fun z => by cases z), (fun ⟨r, f, z, h1, _⟩ => by cases h1)⟩, by simp⟩)
      (fun od k σ' H' hP => by obtain ⟨_, _, _, _, _, e, _⟩ := hP; exact e) (fun od k key kv σ' H6 R B hk hP => ?_) (fun od σ' H6 hP => ?_)
    · obtain ⟨v5, v6, v7, ls, rfl, hfr, hls, e6, lnd, lmem, llen⟩ := hP
      obtain ⟨r, hr, hrk⟩ : ∃ r, ks[k]? = some r ∧ key = Sum.inr (S r) := by
        unfold kd at hk
        rw [List.getElem?_map] at hk
        cases hr : ks[k]? with
        | none => rw [hr] at hk; cases hk
        | some r => rw [hr] at hk; cases hk; exact ⟨r, rfl, rfl⟩
      subst hrk
      have hkl : k < ks.length := (List.getElem?_eq_some_iff.mp hr).1
      have hrL := rlen r (List.mem_of_getElem? hr)
      have htk : ks.take (k + 1) = ks.take k ++ [r] := by
        rw [List.take_succ_eq_append_getElem hkl]
        congr 2
        exact (List.getElem?_eq_some_iff.mp hr).2
      have hkL : k * L ≤ 1000000 := Nat.le_trans (Nat.mul_le_mul (show k ≤ 100000 by omega) L10) (by decide)
      refine s_forR1 (ea_cons (ev_var rfl) ea_nil) (by omega) (fun f σ' H' => ∃ (v6 v7 : Option V) (ls : List (List Nat)), σ' = [some v, some (.int (L : Int)), some (.ref pr), some (T p), some (.ref pl), some (T r), v6, v7] ∧ H' pr = some (.frz od (.dK (kd ks))) ∧ H' pl = some (.dK (kd ls)) ∧ Ex H H' ∧ ls.Nodup ∧ (∀ x, x ∈ ls ↔ (∃ r f z, r ∈ ks.take k ∧ f < L ∧ RWY.lay r p f = some z ∧ x = RWY.least z) ∨ ∃ g z, g < f ∧ RWY.lay r p g = some z ∧ x = RWY.least z) ∧ ls.length ≤ k * L + f)
        (fun H7 e7 => ⟨_, _, ls, rfl, e7 _ _ hfr, e7 _ _ hls, e6.trans e7, lnd, fun x => by rw [lmem]; exact ⟨.inl, fun z => z.elim id fun ⟨g, z, h1, _⟩ => absurd h1 (Nat.not_lt_zero _)⟩, llen⟩) (fun f σ' H7 hf hP => ?_) (fun σ' H7 hP => ?_)
      · obtain ⟨v6, v7, ls, rfl, hfr, hls, e7, lnd, lmem, llen⟩ := hP
        have hfL : f < L := by omega
        refine q_asg (v := optT (RWY.lay r p f)) (ev_call (ea_cons (ev_var rfl) (ea_cons (ev_var rfl) (ea_cons (ev_var rfl) ea_nil))) fun H8 e8 Q q E => ⟨r, p, f, rfl, ⟨by omega, by omega, hpL, by omega⟩, q⟩) fun H8 e8 => ?_
        have succ : ∀ x, (∃ g z, g < f + 1 ∧ RWY.lay r p g = some z ∧ x = RWY.least z) ↔ (∃ g z, g < f ∧ RWY.lay r p g = some z ∧ x = RWY.least z) ∨ ∃ z, RWY.lay r p f = some z ∧ x = RWY.least z := fun x => by
          constructor
          · rintro ⟨g, z, h1, h2, h3⟩
            by_cases c : g < f
            · exact .inl ⟨g, z, c, h2, h3⟩
            · have : g = f := by omega
              subst this
              exact .inr ⟨z, h2, h3⟩
          · rintro (⟨g, z, h1, h2, h3⟩ | ⟨z, h2, h3⟩)
            · exact ⟨g, z, by omega, h2, h3⟩
            · exact ⟨f, z, by omega, h2, h3⟩
        cases hz : RWY.lay r p f with
        | none =>
          refine s_when (b := false) (et_is (et_test (ev_notN (x := .non) (ev_var rfl) ev_c)) (by simp)) (fun hb => by cases hb) (fun _ H9 e9 => ⟨_, _, ls, rfl, (e8.trans e9) _ _ hfr, (e8.trans e9) _ _ hls, (e7.trans e8).trans e9, lnd, fun x => ?_, by omega⟩)
          rw [lmem, succ]
          refine ⟨fun w => w.elim .inl fun u => .inr (.inl u), fun w => w.elim .inl fun u => u.elim .inr fun ⟨z, h1, _⟩ => ?_⟩
          rw [hz] at h1
          cases h1
        | some z =>
          have hzl : z.length = L := by rw [RWY.lay_len hz, hrL]
          refine s_when (b := true) (et_is (et_test (ev_notN (x := T z) (ev_var rfl) ev_c)) (by simp [T])) (fun _ H9 e9 => ?_) (fun hb => by cases hb)
          refine s_dput ((e8.trans e9) _ _ hls) ev_c (ev_var rfl) (ev_call (z := T (RWY.least z)) (ea_cons (ev_var rfl) ea_nil) fun H10 e10 Q q E => ⟨z, rfl, ⟨by omega, by omega⟩, q⟩) (by omega) fun H10 e10 => ⟨_, _, addK ls (RWY.least z), rfl, by rw [upd_ne hne2.symm]; exact ((e8.trans e9).trans e10) _ _ hfr, upd_same, (((e7.trans e8).trans e9).trans e10).mut hpln, addK_nd lnd, fun x => ?_, ?_⟩
          · rw [addK_mem, lmem, succ]
            refine ⟨fun w => w.elim (fun u => u.elim .inl fun t => .inr (.inl t)) fun u => .inr (.inr ⟨z, hz, u⟩), fun w => w.elim (fun u => .inl (.inl u)) fun u => u.elim (fun t => .inl (.inr t)) fun ⟨y, h1, h2⟩ => .inr ?_⟩
            rw [hz] at h1
            rw [h2, Option.some.inj h1]
          · have := addK_len ls (RWY.least z)
            omega
      · obtain ⟨v6, v7, ls, rfl, hfr, hls, e7, lnd, lmem, llen⟩ := hP
        refine ⟨_, _, _, ls, rfl, hfr, hls, e7, lnd, fun x => ?_, ?_⟩
        · rw [lmem, htk]
          constructor
          · rintro (⟨r', f, z, h1, h2, h3, h4⟩ | ⟨g, z, h1, h2, h3⟩)
            · exact ⟨r', f, z, List.mem_append_left _ h1, h2, h3, h4⟩
            · exact ⟨r, g, z, List.mem_append_right _ List.mem_cons_self, by omega, h2, h3⟩
          · rintro ⟨r', f, z, h1, h2, h3, h4⟩
            rcases List.mem_append.mp h1 with h1 | h1
            · exact .inl ⟨r', f, z, h1, h2, h3, h4⟩
            · rw [List.mem_singleton.mp h1] at h3
              exact .inr ⟨f, z, by omega, h3, h4⟩
        · rw [Int.toNat_natCast] at llen
          rw [Nat.succ_mul]
          exact llen
    · obtain ⟨v5, v6, v7, ls, rfl, hfr, hls, e6, lnd, lmem, llen⟩ := hP
      have hkl : (kd ks).length = ks.length := by unfold kd; rw [List.length_map]
      rw [hkl] at lmem llen
      refine s_asg (ev_var rfl) fun H7 e7 => ⟨pl, _, _, _, _, _, ls, rfl, e7 _ _ (by rw [upd_ne hne2]; exact hls), hpln, (e6.mut hprn).trans e7, lnd, fun x => ?_, ?_⟩
      · have ht : ps.take (i + 1) = ps.take i ++ [p] := by
          rw [List.take_succ_eq_append_getElem hi]
          congr 2
          exact (List.getElem?_eq_some_iff.mp hpi).2
        rw [lmem, ht, setK_snoc, List.take_length]
        constructor
        · rintro ⟨r, f, z, h1, h2, h3, h4⟩
          exact ⟨r, f, z, (kmem r).mp h1, h2, h3, h4⟩
        · rintro ⟨r, f, z, h1, h2, h3, h4⟩
          exact ⟨r, f, z, (kmem r).mpr h1, h2, h3, h4⟩
      · rw [Nat.pow_succ]
        exact Nat.le_trans llen (Nat.mul_le_mul_right _ klen)
  · obtain ⟨pr, v3, v4, v5, v6, v7, ks, rfl, hks, hprn, e4, knd, kmem, klen⟩ := hP
    rw [List.length_map] at kmem klen
    rw [List.take_length] at kmem
    refine s_retS (es_sortedD (ev_var rfl) hks knd kmem (Nat.le_trans klen (Nat.le_trans (Nat.pow_le_pow_left L10 _) (Nat.le_trans (Nat.pow_le_pow_right (by decide) h6) (by decide))))) (h.go e4)
end
end X

namespace X
open PySem PySem.Spec PyProof.Rows L2 Evl TL RC RA RD RE RF RG RH RI RL RS RP RQ RR RT RDI RU RV RX RY RZ1 RO RO1 RM RO2 RK RN RLS RST RTU RSP RSU RLT RPL RPT RPI RMB RMX RMC RMU RFZ RWD RPB RUX RLO RSK RWY RSL RGU RSH REX RXW RRZ
section
variable {P : Program} {w : World} {K : PySem.W.Frag} {mg : Str → Option Value} {base : Heap}
def sp_law_draw (K : PySem.W.Frag) : Sp := RN.sp_draw_reel
theorem ok_law_draw (TX : Txt K mg) : Has P w K mg base CX0 1 "_law_draw" ["reel", "many"] (sp_law_draw K) := by
  refine TX.a_law_draw.ok sc_law_draw (fun vs H Q E h => ?_) (fun f cdv A outer s H vs Q E hr h => ?_)
  · obtain ⟨b, k, G, rfl, _⟩ := h
    rfl
  obtain ⟨b, k, G, rfl, h⟩ := h
  refine ⟨_, (pss_cons (ps_if (pt_cmpR (RY.op_neNil hr.units0) (pe_ix ix_list (pv 0) pe_int (fun _ _ => rfl)) (pe_lst pa_nil) (nomark _)) (pss_cons (ps_set (i := 2) sc_law_draw.nd rfl (Or.inl rfl) (pe_ix ix_list (pe_ix ix_list (pv 0) pe_int (fun _ _ => rfl)) pe_int (fun _ _ => rfl)))
        (pss_cons (ps_asg (pe_op op_cat (pe_op op_rep (pe_lst (pa_cons (pe_op op_fdivW (pv 2) (pv 1)) pa_nil)) (pe_callTy call_int1 (by rfl) TX.n_int bt_int (pa_cons (pe_cmpR op_ge (pv 2) (pv 1) (nomark _)) pa_nil))) (pe_slice sl_list (pe_ix ix_list (pv 0) pe_int (fun _ _ => rfl)) (po_some pe_int) po_none)) (pg_sub (pv 0) pe_int set_list))
        (pss_one (ps_ret (pe_op op_mod (pv 2) (pv 1)))))) pss_nil)
        (pss_cons (ps_asg (pe_op op_add (pe_ix ix_list (pv 0) pe_int (fun _ _ => rfl)) pe_int) (pg_sub (pv 0) pe_int set_list))
        (pss_cons (ps_set (i := 3) sc_law_draw.nd rfl (Or.inl rfl) (pe_ix ix_list (pe_ix ix_list (pv 0) pe_int (fun _ _ => rfl)) (pe_op op_mod (pe_ix ix_list (pv 0) pe_int (fun _ _ => rfl)) (pe_callB (r := rLenL K) call_lenL (by rfl) TX.n_len bt_len (pa_cons (pe_ix ix_list (pv 0) pe_int (fun _ _ => rfl)) pa_nil))) (fun _ _ => rfl)))
        (pss_cons (ps_set (i := 4) sc_law_draw.nd rfl (Or.inl rfl) (pe_op op_add (pe_op op_add (pe_op op_mulW (pe_ix ix_list (pv 0) pe_int (fun _ _ => rfl)) (pe_ix ix_list (pv 0) pe_int (fun _ _ => rfl))) (pe_op op_mul (pe_op op_add (pv 3) pe_int) pe_int)) (pe_op op_mul (pe_ix ix_list (pv 0) pe_int (fun _ _ => rfl)) pe_int)))
        (pss_cons (ps_asg (pe_op op_mod (pv 4) (pe_op op_sub (pe_op op_mulW (pe_op op_pow pe_int pe_int) (pe_op op_pow pe_int pe_int)) pe_int)) (pg_sub (pv 0) pe_int set_list))
        (pss_one (ps_ret (pe_op op_mod (pe_op op_fdivW (pe_ix ix_list (pv 0) pe_int (fun _ _ => rfl)) (pe_op op_pow pe_int pe_int)) (pv 1))))))))), ?_⟩
  obtain ⟨⟨⟨⟨g, q, gs, qs, c, t, hb, hg, hq, z0, z1, z2, z3, z4, z5, z6⟩, eG⟩, k0, k1⟩, h⟩ := h
  have hk : k.natAbs < 2 ^ 100 := by
    have : (2 : Int) ^ 100 = ((2 ^ 100 : Nat) : Int) := rfl
    rw [this] at k1
    omega
  have updDom : ∀ {H2 : Hp} {a p : Addr} {o : HO}, H2 a ≠ none → (upd H2 p o) a ≠ none := fun {H2 a p o} ha => by
    by_cases c : a = p
    · rw [c, upd_same]
      exact fun z => by cases z
    · rw [upd_ne c]
      exact ha
  have ne_cells : ∀ {a : Addr} {l : List Int}, H a = some (.lst (l.map V.int)) → a ≠ b := fun {a l} h z => by
    rw [z, hb] at h
    cases l with
    | nil => cases h
    | cons x r => cases h
  have qb := ne_cells hq
  have gb := ne_cells hg
  have good : ∀ x : Int, ∃ d, V.int (x % k) = .int d ∧ 0 ≤ d ∧ d < k := fun x => ⟨_, rfl, Int.emod_nonneg _ (by omega), Int.emod_lt_of_pos _ k0⟩
  refine q_when (RN.et_neNil (ev_op (ev_var rfl) ev_c (rv_ixL (SqL.of hb) (i := 0) rfl)) hg) (fun hx H1 e1 => ?_) (fun hx H1 e1 => ?_)
  · cases gs with
    | nil => cases hx
    | cons x r =>
      refine q_asg (ev_op (ev_op (ev_var rfl) ev_c (rv_ixL (SqL.of (e1 _ _ hb)) (i := 0) rfl)) ev_c (rv_ixL (SqL.of (e1 _ _ hg)) (i := 0) (v := .int x) (at_of (j := 0) rfl rfl))) fun H2 e2 => ?_
      have e12 := e1.trans e2
      have hlist : (List.replicate (if decide (x ≥ k) = true then (1 : Int) else 0).toNat [V.int (x / k)]).flatten ++ cutV ((x :: r).map V.int) (some 1) none = (((if x ≥ k then [x / k] else []) ++ r)).map V.int := by
        have hc : cutV ((x :: r).map V.int) (some 1) none = r.map V.int := by
          unfold cutV
          have h1 := HT.sIx_nat ((x :: r).map V.int).length 0 1
          rw [show ((1 : Nat) : Int) = 1 from rfl] at h1
          rw [h1]
          have h2 : min 1 ((x :: r).map V.int).length = 1 := by simp
          rw [h2]
          show List.take (((x :: r).map V.int).length - 1) (r.map V.int) = _
          rw [List.map_cons, List.length_cons, Nat.add_sub_cancel, List.take_length]
        rw [hc]
        by_cases hxk : x ≥ k
        · rw [if_pos (decide_eq_true hxk), if_pos hxk]
          rfl
        · rw [if_neg (by simp [hxk]), if_neg hxk]
          rfl
      have hdv : CDivW x k := wide_div k0 hk (by decide) (by decide)
      have hl : ((if x ≥ k then [x / k] else []) ++ r).length ≤ 63 := by
        have : r.length + 1 ≤ 63 := z0
        split <;> simp <;> omega
      refine RN.q_setLL (j := 0) (e12 _ _ hb) (el_to (el_cat (el_rep (i := if decide (x ≥ k) = true then (1 : Int) else 0) (el_lst (ea_cons (ev_op (ev_var rfl) (ev_var rfl) (rv_I (C := CDivW) hdv)) ea_nil) (by show 1 ≤ 100000; decide)) (fun H3 e3 => ev_intB (b := decide (x ≥ k)) (ev_i0 (ev_var rfl) (ev_var rfl))) (by split <;> decide) (by split <;> decide) (by split <;> simp))
        (el_sl (ev_op (ev_var rfl) ev_c (rv_ixL (SqL.of (e12 _ _ hb)) (i := 0) rfl)) (eo_some ev_c) eo_none (SqL.of (e12 _ _ hg))) ?_) hlist) (fun H3 => ev_var rfl) (fun H3 => ev_c) (by show 0 < 4; decide) fun m H3 hm e3 h3 => ?_
      · rw [← List.length_append, hlist, List.length_map]
        omega
      have e13 := e12.trans e3
      obtain ⟨r1, x1⟩ := RN.reel_put (c' := c) (t' := t) hb hg hq e13 (.inl (fresh_back e12 hm)) h3 hl z1 z2 z3 z4 z5 z6
      refine s_ret (ev_mod (ev_var rfl) (ev_var rfl) k0) fun H4 e4 => ?_
      obtain ⟨r2, x2⟩ := (RN.reelDrw b).ex r1 e4
      exact h _ H4 G r2 ⟨x1.trans x2, fun a ha => ex_dom e4 a (updDom (ex_dom e13 a ha)), Ex.refl _, eG.trans (x1.trans x2), fun _ _ => rfl⟩ (good _)
  refine q_setL (j := 2) (e1 _ _ hb) (ev_i0 (ev_op (ev_var rfl) ev_c (rv_ixL (SqL.of (e1 _ _ hb)) (i := 2) rfl)) ev_c) (ev_var rfl) ev_c (by show 2 < 4; decide) fun H2 e2 => ?_
  obtain ⟨r2, x2⟩ := RN.reel_put (c' := c + 1) (t' := t) hb hg hq (e1.trans e2) (.inr rfl) ((e1.trans e2) _ _ hg) z0 z1 z2 z3 (by omega) z5 z6
  have hb2 : (upd H2 b (.lst [.ref g, .ref q, .int (c + 1), .int t])) b = some (.lst [.ref g, .ref q, .int (c + 1), .int t]) := upd_same
  have hg2 : (upd H2 b (.lst [.ref g, .ref q, .int (c + 1), .int t])) g = some (.lst (gs.map V.int)) := by
    rw [upd_ne gb]
    exact (e1.trans e2) _ _ hg
  have hq2 : (upd H2 b (.lst [.ref g, .ref q, .int (c + 1), .int t])) q = some (.lst (qs.map V.int)) := by
    rw [upd_ne qb]
    exact (e1.trans e2) _ _ hq
  show tSeq _ _ _ _ (upd H2 b (.lst [.ref g, .ref q, .int (c + 1), .int t]))
  obtain ⟨H3, eH3⟩ : ∃ H3, H3 = upd H2 b (.lst [.ref g, .ref q, .int (c + 1), .int t]) := ⟨_, rfl⟩
  have d3 : ∀ a, H2 a ≠ none → H3 a ≠ none := fun a ha => by
    rw [eH3]
    exact updDom ha
  rw [← eH3] at r2 x2 hb2 hg2 hq2 ⊢
  have i0 : 0 ≤ (c + 1) % (qs.length : Int) := Int.emod_nonneg _ (by omega)
  have i1 : (c + 1) % (qs.length : Int) < qs.length := Int.emod_lt_of_pos _ (by omega)
  obtain ⟨x, hx⟩ : ∃ x, qs[((c + 1) % (qs.length : Int)).toNat]? = some x := ⟨_, List.getElem?_eq_getElem (by omega)⟩
  have hxm := z3 x (List.mem_of_getElem? hx)
  have hxv : atI (qs.map V.int) ((c + 1) % (qs.length : Int)) = some (.int x) := at_of (j := ((c + 1) % (qs.length : Int)).toNat) (by omega) (by rw [List.getElem?_map, hx]; rfl)
  refine q_asg (ev_op (ev_op (ev_var rfl) ev_c (rv_ixL (SqL.of hb2) (i := 1) rfl)) (ev_is (ev_mod (ev_op (ev_var rfl) ev_c (rv_ixL (SqL.of hb2) (i := 2) rfl)) (ev_lenL (ev_op (ev_var rfl) ev_c (rv_ixL (SqL.of hb2) (i := 1) rfl)) (SqL.of hq2)) (by simp; omega)) (by rw [List.length_map])) (rv_ixL (SqL.of hq2) hxv)) fun H4 e4 => ?_
  have hb4 := e4 _ _ hb2
  have ht : t.natAbs < 2 ^ 127 := by
    have : (2 : Int) ^ 127 = ((2 ^ 127 : Nat) : Int) := rfl
    rw [this] at z6
    omega
  refine q_asg (ev_i0 (ev_i0 (ev_op (ev_op (ev_var rfl) ev_c (rv_ixL (SqL.of hb4) (i := 3) rfl)) (ev_op (ev_var rfl) ev_c (rv_ixL (SqL.of hb4) (i := 3) rfl)) (rv_I (C := CMulW) (wide_mul ht ht (by decide) (by decide) (by decide)))) (ev_mul (ev_i0 (ev_var rfl) ev_c) ev_c (.inr (by decide)))) (ev_mul (ev_op (ev_var rfl) ev_c (rv_ixL (SqL.of hb4) (i := 2) rfl)) ev_c (.inr (by decide)))) fun H5 e5 => ?_
  have hb5 := e5 _ _ hb4
  have eM : ((2 : Int) ^ (64 : Int).toNat * 2 ^ (63 : Int).toNat - 1) = 170141183460469231731687303715884105727 := by decide +kernel
  refine q_setL (j := 3) hb5 (ev_is (ev_mod (ev_var rfl) (ev_i0 (ev_op (ev_op ev_c ev_c (rv_I (C := CPow) ⟨by decide, by decide, by decide⟩)) (ev_op ev_c ev_c (rv_I (C := CPow) ⟨by decide, by decide, by decide⟩)) (rv_I (C := CMulW) (by show (_ : Nat) < 1000000; decide +kernel))) ev_c) (by rw [eM]; decide)) (by rw [eM])) (ev_var rfl) ev_c (by show 3 < 4; decide) fun H6 e6 => ?_
  generalize (t * t + (x + 7) * 69621 + (c + 1) * 1000003) = y at *
  have e36 := (e4.trans e5).trans e6
  obtain ⟨r6, x6⟩ := RN.reel_put (c' := c + 1) (t' := y % 170141183460469231731687303715884105727) hb2 hg2 hq2 e36 (.inr rfl) (e36 _ _ hg2) z0 z1 z2 z3 (by omega) (Int.emod_nonneg _ (by decide)) (by
    have := Int.emod_lt_of_pos y (b := 170141183460469231731687303715884105727) (by decide)
    have e : (2 : Int) ^ 127 = 170141183460469231731687303715884105728 := by decide +kernel
    omega)
  refine s_ret (ev_mod (ev_op (ev_op (ev_var rfl) ev_c (rv_ixL (SqL.of upd_same) (i := 3) rfl)) (ev_op ev_c ev_c (rv_I (C := CPow) ⟨by decide, by decide, by decide⟩)) (rv_I (C := CDivW) ⟨by decide, by decide +kernel⟩)) (ev_var rfl) k0) fun H7 e7 => ?_
  obtain ⟨r7, x7⟩ := (RN.reelDrw b).ex r6 e7
  exact h _ H7 G r7 ⟨(x2.trans x6).trans x7, fun a ha => ex_dom e7 a (updDom (ex_dom e36 a (d3 a (ex_dom (e1.trans e2) a ha)))), Ex.refl _, eG.trans ((x2.trans x6).trans x7), fun _ _ => rfl⟩ (good _)
def sp_law_reel (K : PySem.W.Frag) : Sp := RN.sp_make_reel K
theorem ok_law_reel (TX : Txt K mg) : Has P w K mg base CX0 1 "_law_reel" ["script"] (sp_law_reel K) := by
  refine TX.a_law_reel.ok sc_law_reel (fun vs H Q E h => ?_) (fun f cdv A outer s H vs Q E hr h => ?_)
  · obtain ⟨a, ns, rfl, _⟩ := h
    rfl
  obtain ⟨a, ns, rfl, h⟩ := h
  refine ⟨_, (pss_cons (ps_set (i := 1) sc_law_reel.nd rfl (Or.inl rfl) (pe_op op_pow pe_int pe_int))
        (pss_cons (ps_for PassesOwn.never rfl (pi_list (pe_slice sl_list (pv 0) po_none (po_some pe_int))) (pg_name (i := 2) sc_law_reel.nd rfl (Or.inl rfl)) (pss_one (ps_set (i := 1) sc_law_reel.nd rfl (Or.inl rfl) (pe_op op_mod (pe_op op_add (pe_op op_add (pe_op op_mulW (pv 1) (pv 1)) (pe_op op_mod (pv 2) pe_int)) pe_int) (pe_op op_sub (pe_op op_mulW (pe_op op_pow pe_int pe_int) (pe_op op_pow pe_int pe_int)) pe_int)))))
        (pss_cons (ps_setLc (i := 3) (own := [("cell", 2)]) (by rfl) sc_law_reel.nd rfl rfl (sw_true rfl rfl rfl (by decide +kernel)) (pi_list (pe_slice sl_list (pv 0) po_none (po_some pe_int))) (blkOk_by (N := ["script", "stir", "cell", "great"]) (sc := defScope s_law_reel) (by decide +kernel)) (fun _ _ _ _ _ => (pg_name (i := 2) sc_law_reel.nd rfl (Or.inl rfl))) (fun _ _ _ _ _ => (pts_one (pt_cmpR op_ge (pv 2) (pe_op op_pow pe_int pe_int) (nomark _)))) (fun _ _ _ _ _ => (pe_op op_sub (pv 2) (pe_op op_pow pe_int pe_int))))
        (pss_one (ps_ret (pe_lst (pa_cons (pv 3) (pa_cons (pe_op op_cat (pe_lc (own := [("cell", 2)]) (by rfl) sc_law_reel.nd (pi_list (pe_slice sl_list (pv 0) po_none (po_some pe_int))) (blkOk_by (N := ["script", "stir", "cell", "great"]) (sc := defScope s_law_reel) (by decide +kernel)) (fun _ _ _ _ _ => (pg_name (i := 2) sc_law_reel.nd rfl (Or.inl rfl))) (fun _ _ _ _ _ => pts_nil) (fun _ _ _ _ _ => (pe_op op_mod (pv 2) pe_int))) (pe_lst (pa_cons pe_int pa_nil))) (pa_cons pe_int (pa_cons (pv 1) pa_nil)))))))))), ?_⟩
  obtain ⟨⟨hs, hn⟩, h⟩ := h
  have cut : cutV (ns.map V.int) none (some 63) = ns.map V.int := RN.cut_all (k := 63) (by rw [List.length_map]; exact hn)
  have cells : ∀ {σ : L2.St} {G : Hp}, σ[0]? = some (some (.ref a)) → Ex H G → EvL (tSl (rSlL K) (tVar 0) tNoPart (tPart (tC (.int 63)))) σ G (ns.map V.int) := fun {σ G} s0 e => el_to (el_sl (ev_var s0) eo_none (eo_some ev_c) (ex_l e hs)) cut
  have eM : ((2 : Int) ^ (64 : Int).toNat * 2 ^ (63 : Int).toNat - 1) = 170141183460469231731687303715884105727 := by decide +kernel
  have e127 : (2 : Int) ^ 127 = 170141183460469231731687303715884105728 := by decide +kernel
  have eG : ((10 : Int) ^ (18 : Int).toNat) = 1000000000000000000 := by decide +kernel
  refine q_asg (v := .int 42391158275216203514294433201) (ev_is (ev_op ev_c ev_c (rv_I (C := CPow) ⟨by decide, by decide, by decide⟩)) (by decide +kernel)) fun H1 e1 => ?_
  refine q_forNLn (cells rfl e1) (fun p i σ' H' => ∃ (t : Int) (v : Option V), σ' = [some (.ref a), some (.int t), v, none] ∧ Ex H H' ∧ H' p = some (.lst (ns.map V.int)) ∧ 0 ≤ t ∧ t < 2 ^ 127) (fun p H2 hp e2 h2 => ⟨_, _, rfl, e1.trans e2, h2, by decide, by rw [e127]; decide⟩)
    (fun p i σ' H' _ hp => ?_) (fun p i x σ' H' hi hp => ?_) (fun p σ' H' hp => ?_)
  · obtain ⟨t, v, rfl, e2, h2, _⟩ := hp
    exact SqL.of h2
  · obtain ⟨t, v, rfl, e2, h2, t0, t1⟩ := hp
    obtain ⟨c, rfl⟩ : ∃ c, x = V.int c := by
      obtain ⟨c, _, rfl⟩ := List.mem_map.mp (List.mem_of_getElem? hi)
      exact ⟨c, rfl⟩
    have ht : t.natAbs < 2 ^ 127 := by
      have : (2 : Int) ^ 127 = ((2 ^ 127 : Nat) : Int) := rfl
      rw [this] at t1
      omega
    refine s_asg (ev_is (ev_mod (ev_i0 (ev_i0 (ev_op (ev_var rfl) (ev_var rfl) (rv_I (C := CMulW) (wide_mul ht ht (by decide) (by decide) (by decide)))) (ev_mod (ev_var rfl) ev_c (by decide))) ev_c) (ev_i0 (ev_op (ev_op ev_c ev_c (rv_I (C := CPow) ⟨by decide, by decide, by decide⟩)) (ev_op ev_c ev_c (rv_I (C := CPow) ⟨by decide, by decide, by decide⟩)) (rv_I (C := CMulW) (by show (_ : Nat) < 1000000; decide +kernel))) ev_c) (by rw [eM]; decide)) (by rw [eM])) fun H3 e3 => ?_
    refine ⟨_, _, rfl, e2.trans e3, e3 _ _ h2, Int.emod_nonneg _ (by decide), ?_⟩
    have := Int.emod_lt_of_pos (t * t + c % 1000000000000000003 + 11) (b := 170141183460469231731687303715884105727) (by decide)
    rw [e127]
    omega
  · obtain ⟨t, v, rfl, e2, h2, t0, t1⟩ := hp
    have allI : ∀ x ∈ ns.map V.int, ∃ c, x = V.int c := fun x hx => by
      obtain ⟨c, _, rfl⟩ := List.mem_map.mp hx
      exact ⟨c, rfl⟩
    refine q_asgL (el_to (el_lcVN (fun v => match v with | .int i => decide (i ≥ 1000000000000000000) | _ => false) (fun v => match v with | .int i => V.int (i - 1000000000000000000) | v => v) (cells rfl e2) (by rw [List.length_map]; omega) (fun x => rfl)
      (fun x G eg hx => ?_) (fun x G eg hx _ => ?_)) (RN.filt_ints (fun i => decide (i ≥ 1000000000000000000)) (fun i => i - 1000000000000000000) ns)) fun g H3 hg e3 h3 => ?_
    · obtain ⟨c, rfl⟩ := allI x hx
      exact et_is (et_test (ev_i0 (ev_var rfl) (ev_op ev_c ev_c (rv_I (C := CPow) ⟨by decide, by decide, by decide⟩)))) (by rw [eG])
    · obtain ⟨c, rfl⟩ := allI x hx
      exact ev_is (ev_i0 (ev_var rfl) (ev_op ev_c ev_c (rv_I (C := CPow) ⟨by decide, by decide, by decide⟩))) (by rw [eG])
    refine ⟨_, rfl, ?_⟩
    refine (el_to (el_cat (el_to (el_lcVN (fun v => match v with | .int i => true | _ => false) (fun v => match v with | .int i => V.int (i % 1000003) | v => v) (cells rfl (e2.trans e3)) (by rw [List.length_map]; omega) (fun x => rfl)
      (fun x G eg hx => ?_) (fun x G eg hx _ => ?_)) (RN.filt_ints (fun _ => true) (fun i => i % 1000003) ns)) (el_lst (ea_cons ev_c ea_nil) (by show 1 ≤ 100000; decide)) ?_) (?_ : _ = (ns.map (fun i => i % 1000003) ++ [41]).map V.int)) H3 (Ex.refl _) _ fun q H4 hq e4 h4 => ?_
    · obtain ⟨c, rfl⟩ := allI x hx
      exact et_yes
    · obtain ⟨c, rfl⟩ := allI x hx
      exact ev_mod (ev_var rfl) ev_c (by decide)
    · rw [List.length_map, List.length_map, List.filter_eq_self.mpr (fun _ _ => rfl)]
      show ns.length + 1 ≤ _
      omega
    · rw [List.map_append, List.filter_eq_self.mpr (fun _ _ => rfl)]
      rfl
    refine ⟨_, rfl, by show 4 ≤ sizeLine; decide, fun b hb => ?_⟩
    have qb : q ≠ b := ne_of_none h4 hb
    have gb : g ≠ b := ne_of_none (e4 _ _ h3) hb
    have e24 := (e2.trans e3).trans e4
    have ex : Ex H (upd H4 b (.lst [.ref g, .ref q, .int 0, .int t])) := e24.trans (Ex.new hb)
    refine h b _ ⟨g, q, _, _, 0, t, upd_same, by rw [upd_ne gb]; exact e4 _ _ h3, by rw [upd_ne qb]; exact h4, ?_, ?_, ?_, ?_, by decide, t0, t1⟩ ex fun a o ha => ?_
    · rw [List.length_map]
      exact Nat.le_trans (List.length_filter_le _ _) hn
    · simp
    · simp
      omega
    · intro x hx
      rcases List.mem_append.mp hx with z | z
      · obtain ⟨c, _, rfl⟩ := List.mem_map.mp z
        exact ⟨Int.emod_nonneg _ (by decide), Int.emod_lt_of_pos _ (by decide)⟩
      · rw [List.mem_singleton.mp z]
        decide
    · rw [Hd_no fun c => ?_]
      · exact ex _ _ ha
      · have nb : H b = none := fresh_back e24 hb
        have ng : H g = none := fresh_back e2 hg
        have nq : H q = none := fresh_back (e2.trans e3) hq
        rcases c with z | ⟨xs, hx, hax⟩
        · rw [z, nb] at ha; cases ha
        · rw [upd_same] at hx
          cases hx
          simp at hax
          rcases hax with z | z
          · rw [z, ng] at ha; cases ha
          · rw [z, nq] at ha; cases ha
theorem ed_drw {b : Addr} {E : XK} {σ : L2.St} {G1 : Hp} {ta : TA} (n : Nat) (n0 : 0 < n) (n1 : n < 2 ^ 90) (ha : EvA ta σ G1 [.ref b, .int (n : Int)]) : EvD (RN.Reel b) b (tCall (sp_law_draw K) [] E ta) σ G1 (fun v _ => ∃ i : Int, v = .int i ∧ 0 ≤ i ∧ i < n) :=
  ed_callV (RN.reelDrw b) ha fun H1 r1 e1 Q1 q1 E1 => ⟨b, n, _, rfl, ⟨⟨r1, e1⟩, by omega, by
    have : (2 : Int) ^ 100 = ((2 ^ 100 : Nat) : Int) := rfl
    rw [this]
    have : (2 : Nat) ^ 90 ≤ 2 ^ 100 := by decide
    omega⟩, q1⟩
/-- so many and a draw more -/
theorem ed_more {b : Addr} {E : XK} {σ : L2.St} {G1 : Hp} {ta : TA} (m n : Nat) (n0 : 0 < n) (n1 : n < 2 ^ 90) (ha : EvA ta σ G1 [.ref b, .int (n : Int)]) : EvD (RN.Reel b) b (tOp (rI0 fun i j => .int (i + j)) (tC (.int (m : Int))) (tCall (sp_law_draw K) [] E ta)) σ G1 (fun v _ => ∃ k : Nat, v = .int (k : Int) ∧ m ≤ k ∧ k < m + n) :=
  ed_I0 (A := fun i => i = m) (B := fun j => 0 ≤ j ∧ j < n) (ed_int (RN.reelDrw b) ev_c) (fun G2 e2 => ed_drw n n0 n1 fun H1 e => ha H1 (e2.trans e)) fun i j G2 hi hj => by
    subst hi
    exact ⟨m + j.toNat, by rw [Int.natCast_add, Int.toNat_of_nonneg hj.1], by omega, by omega⟩
theorem ead_two {b : Addr} {σ : L2.St} {G1 : Hp} {ta tb : TE} {b0 : V} {P : V → Hp → Prop} {Rl : Hp → Prop} (Dw : Drw Rl b) (ha : Ev ta σ G1 b0) (hb : EvD Rl b tb σ G1 P) : EvAD Rl b (tCons ta (tCons tb tNil)) σ G1 (fun vs G2 => ∃ v, vs = [b0, v] ∧ P v G2) := fun H hR e Q q =>
  ha H (e.trans (Hd_sub b H)) _ fun H1 e1 => hb H1 (Dw.ex hR e1).1 (e.trans (Dw.ex hR e1).2) _ fun v H2 G2 r2 x2 p2 => q _ H2 G2 r2 ((Dw.stp hR e e1).2.trans x2) ⟨v, rfl, p2⟩
def WZ : List Nat := [97, 98, 99, 100, 101, 102, 122, 46]
def SGZ : List Nat := [97, 98, 99, 100, 101, 102, 122, 46, 63]
theorem wz_sg : ∀ c ∈ WZ, c ∈ SGZ := by decide
theorem sgz_signs : ∀ c ∈ SGZ, c ∈ SIGNS := by decide
def RimZ (rim : List Nat) : Prop := 0 < rim.length ∧ rim.length ≤ 10 ∧ ∀ c ∈ rim, c ∈ WZ
def PcOf (rim p : List Nat) : Prop := ∃ o, ∀ m, m < p.length → p.getD m 0 = 63 ∨ p.getD m 0 = rim.getD ((o + m) % rim.length) 0
def PcZ (rim p : List Nat) : Prop := (0 < p.length ∧ p.length ≤ 300 ∧ ∀ c ∈ p, c ∈ SGZ) ∧ PcOf rim p
section
variable {R : Hp → Prop} {b : Addr} {σ : L2.St} {H0 G0 G : Hp} {te ta tb tc : TE} {tr : TA}
theorem ed_lcRD (Dw : Drw R b) {tel : TE} {vs : List Nat} {j lo hi : Nat} (Gd : V → Hp → Prop) (m : ∀ v G1 G2, Ex G1 G2 → Gd v G1 → Gd v G2) (h : EvAD R b tr σ G (fun vs _ => ∃ k : Nat, vs = [.int (k : Int)] ∧ lo ≤ k ∧ k ≤ hi)) (hz : hi ≤ 50000) (hw : ∀ x, wipe ((wipe σ vs).set j (some x)) vs = wipe σ vs)
    (hel : ∀ (i : Nat) G1, i < hi → Ex G G1 → EvD R b tel ((wipe σ vs).set j (some (.int (i : Int)))) G1 Gd) :
    EvD R b (tLc (iRng1 tr) (gName j) tYes tel vs) σ G (fun v G' => ∃ p xs, v = .ref p ∧ G' p = some (.lst xs) ∧ (lo ≤ xs.length ∧ xs.length ≤ hi) ∧ ∀ x ∈ xs, Gd x G') := fun H hR e Q q =>
  h H hR e _ fun ws H1 G1 r1 x1 ⟨k, hv, h1, h2⟩ => by
    subst hv
    have hc : EvAD R b (fun _ H Q => Q [V.int (k : Int)] H) σ G1 (fun vs _ => vs = [.int (k : Int)]) := fun H hR e Q q => q _ H G1 hR (Stp.refl e) rfl
    exact (ed_lcR (ta := fun _ H Q => Q [V.int (k : Int)] H) Dw Gd m hc (by omega) hw fun i G2 hi e2 => hel i G2 (by omega) (x1.kn.trans e2)) H1 r1 x1.sub Q fun v H2 G2 r2 x2 ⟨p, xs, g1, g2, g3, g4⟩ => q v H2 G2 r2 (x1.trans x2) ⟨p, xs, g1, g2, ⟨by omega, by omega⟩, g4⟩
theorem qm_asgD {l : Addr} {xs : List V} {H : Hp} {D : Ends} {tz : TS} {i : Nat} {P : V → Hp → Prop} (M : RMU.Mut R b H0 G0 G l xs H) (h : EvD R b te σ G P) (k : ∀ v G1 H1, Ex G G1 → P v G1 → RMU.Mut R b H0 G0 G1 l xs H1 → tz D (σ.set i (some v)) H1) : tSeq (tAsg te (gName i)) tz D σ H :=
  h H M.r M.s.sub _ fun v H2 G1 r2 x2 p => k v G1 H2 x2.kn p (M.step r2 x2)
/-- a text's part, its end drawn -/
theorem ed_slD {l : List Nat} {lo : Nat} {Z : Nat → Prop} (Dw : Drw R b) (ha : Ev ta σ G (T l)) (hb : ∀ G1, Ex G G1 → Ev tb σ G1 (.int (lo : Int))) (hc : EvD R b tc σ G (fun v _ => ∃ k : Nat, v = .int (k : Int) ∧ Z k)) (hz : ∀ k, Z k → lo ≤ k ∧ k ≤ l.length) (hl : l.length ≤ 16777216) : EvD R b (tSl rSlS ta (tPart tb) (tPart tc)) σ G (fun v _ => ∃ k, v = T ((l.drop lo).take (k - lo)) ∧ Z k) := fun H hR e Q q =>
  ha H (e.trans (Hd_sub b H)) _ fun H1 e1 => hb G (Ex.refl G) H1 ((e.trans (Hd_sub b H)).trans e1) _ fun H2 e2 => ⟨_, rfl, by
    obtain ⟨r2, s2⟩ := Dw.stp hR e (e1.trans e2)
    refine hc H2 r2 s2.sub _ fun v H3 G3 r3 x3 ⟨k, hv, hk⟩ => ?_
    obtain ⟨z1, z2⟩ := hz k hk
    have hev : Ev (tSl rSlS (tC (T l)) (tPart (tC (.int (lo : Int)))) (tPart (tC (.int (k : Int))))) σ G3 (T ((l.drop lo).take (k - lo))) := ev_is (ev_slT ev_c (eo_some ev_c) (eo_some ev_c) hl) (by rw [RTU.cutS_mid _ z1 z2])
    refine ⟨(k : Int), hv, ?_⟩
    obtain ⟨_, h1, _, h2, h3⟩ := hev H3 (x3.sub.trans (Hd_sub b H3)) Q fun H4 e4 => q _ H4 G3 (Dw.stp r3 x3.sub e4).1 ((s2.trans x3).trans (Dw.stp r3 x3.sub e4).2) ⟨k, rfl, hk⟩
    cases h1
    cases h2
    exact h3⟩
end
theorem q_forL {σ : L2.St} {H : Hp} {te : TE} {a : Addr} {xs : List V} {D : Ends} {tz tu : TS} {g : TG} (h : Ev te σ H (.ref a)) (ht : SqL K H a xs) (Pv : Nat → L2.St → Hp → Prop) (h0 : ∀ H1, Ex H H1 → Pv 0 σ H1) (hx : ∀ (i : Nat) σ' H', i ≤ xs.length → Pv i σ' H' → SqL K H' a xs)
    (hst : ∀ (i : Nat) x σ' H', xs[i]? = some x → Pv i σ' H' → g x σ' H' fun σ2 H2 => tu { D with nx := Pv (i + 1), ct := Pv (i + 1), bk := tz D } σ2 H2) (hd : ∀ σ' H', Pv xs.length σ' H' → tz D σ' H') :
    tSeq (tFor (iList K te) g tu) tz D σ H := s_forL (D := { D with nx := tz D }) h ht Pv h0 hx hst hd
theorem q_forNL {σ : L2.St} {H : Hp} {te : TE} {xs : List V} {D : Ends} {tz tu : TS} {g : TG} (h : EvL te σ H xs) (Pv : Addr → Nat → L2.St → Hp → Prop) (h0 : ∀ p H1, H p = none → Ex H H1 → H1 p = some (.lst xs) → Pv p 0 σ H1) (hl : ∀ p i σ' H', i ≤ xs.length → Pv p i σ' H' → SqL K H' p xs)
    (hs : ∀ p i x σ' H', xs[i]? = some x → Pv p i σ' H' → g x σ' H' fun σ2 H2 => tu { D with nx := Pv p (i + 1), ct := Pv p (i + 1), bk := tz D } σ2 H2) (hd : ∀ p σ' H', Pv p xs.length σ' H' → tz D σ' H') : tSeq (tFor (iList K te) g tu) tz D σ H := s_forNL (D := { D with nx := tz D }) h Pv h0 hl hs hd
theorem list_T {A : List Nat → Prop} : ∀ {xs : List V}, (∀ x ∈ xs, ∃ p, x = T p ∧ A p) → ∃ ps : List (List Nat), xs = ps.map T ∧ ∀ p ∈ ps, A p
  | [], _ => ⟨[], rfl, fun p hp => by cases hp⟩
  | x :: r, h => by
    obtain ⟨p, h1, h2⟩ := h x List.mem_cons_self
    obtain ⟨ps, h3, h4⟩ := list_T fun y hy => h y (List.mem_cons_of_mem _ hy)
    exact ⟨p :: ps, by rw [h1, h3]; rfl, fun q hq => (List.mem_cons.mp hq).elim (fun e => e ▸ h2) (h4 q)⟩
def sp_law_rim (K : PySem.W.Frag) : Sp := fun vs H Q _ => ∃ (b : Addr) (size : Nat) (G : Hp), vs = [.ref b, .int (size : Int)] ∧ ((RN.Reel b H ∧ Ex G (Hd b H)) ∧ 1 ≤ size ∧ size ≤ 10) ∧ RetD (RN.Reel b) b G (fun v _ => ∃ rim, v = T rim ∧ RimZ rim) H Q
theorem ok_law_rim (TX : Txt K mg) : Has P w K mg base CX0 2 "_law_rim" ["reel", "size"] (sp_law_rim K) := by
  have h_law_draw := ok_law_draw (P := P) (w := w) (base := base) TX
  refine TX.a_law_rim.ok sc_law_rim (fun vs H Q E h => ?_) (fun f cdv A outer s H vs Q E hr h => ?_)
  · obtain ⟨b, size, G, rfl, _⟩ := h
    rfl
  obtain ⟨b, size, G, rfl, h⟩ := h
  refine ⟨_, (pss_cons (ps_set (i := 2) sc_law_rim.nd rfl (Or.inr rfl) (pe_ix ix_list (pe_lst (pa_cons pe_str (pa_cons pe_str (pa_cons pe_str (pa_cons pe_str (pa_cons pe_str pa_nil)))))) (pe_has h_law_draw (hr.mono (by omega)) pass0 (pa_cons (pv 0) (pa_cons pe_int pa_nil))) (fun _ _ => rfl)))
        (pss_one (ps_ret (pe_join pe_str (pe_lc (own := [("k", 3)]) (by rfl) sc_law_rim.nd (pi_range1 (by rfl) TX.n_range (pa_cons (pv 1) pa_nil)) (blkOk_by (N := ["reel", "size", "signs", "k"]) (sc := defScope s_law_rim) (by decide +kernel)) (fun _ _ _ _ _ => (pg_name (i := 3) sc_law_rim.nd rfl (Or.inl rfl))) (fun _ _ _ _ _ => pts_nil) (fun _ _ _ _ _ => (pe_ix ix_C (pv 2) (pe_has h_law_draw (hr.mono (by omega)) pass0 (pa_cons (pv 0) (pa_cons (pe_callB call_lenT (by rfl) TX.n_len bt_len (pa_cons (pv 2) pa_nil)) pa_nil))) (fun _ _ => rfl)))))))), ?_⟩
  obtain ⟨⟨⟨hR, eG⟩, z1, z10⟩, h⟩ := h
  have Dw := RN.reelDrw b
  refine (q_asgD (P := fun v _ => ∃ l, v = T l ∧ 0 < l.length ∧ l.length ≤ 8 ∧ ∀ c ∈ l, c ∈ WZ) (ed_imp (ed_ixL Dw (xs := [T [97], T [97, 98], T [97, 98, 46], T [97, 98, 99, 100, 101, 102, 122, 46], T [97, 46, 46, 46, 46]]) (el_lst (ea_cons (ev_s _ (by decide +kernel)) (ea_cons (ev_s _ (by decide +kernel)) (ea_cons (ev_s _ (by decide +kernel)) (ea_cons (ev_s _ (by decide +kernel)) (ea_cons (ev_s _ (by decide +kernel)) ea_nil))))) (by show 5 ≤ 100000; decide)) fun G1 e1 => ed_drw 5 (by decide) (by decide) (ea_cons (ev_var rfl) (ea_cons ev_c ea_nil))) fun v G1 e1 hv => ?_) fun v G1 e1 hv => ?_ : StD (RN.Reel b) b H G _ _ _ G) H hR (Stp.refl eG)
  · simp at hv
    rcases hv with rfl | rfl | rfl | rfl | rfl <;> exact ⟨_, rfl, by decide, by decide, by decide⟩
  · obtain ⟨l, rfl, l0, l1, hl⟩ := hv
    refine s_retD (P := fun v _ => ∃ rim, v = T rim ∧ rim.length = size ∧ ∀ c ∈ rim, c ∈ WZ) (ed_join (size := size) (A := fun c => c ∈ WZ) (by decide +kernel) (by omega) (ed_lcR Dw (fun x _ => ∃ c, x = T [c] ∧ c ∈ WZ) (fun _ _ _ _ h => h) (ead_ev Dw (ea_cons (ev_var rfl) ea_nil)) (by omega) (fun x => rfl) fun i G2 hi e2 => ?_)) fun v H2 G2 r2 s2 e2 hv => h v H2 G2 r2 s2 ?_
    · exact ed_imp (ed_ixC Dw (a := l) (ev_var rfl) (by omega) fun G3 e3 => ed_drw l.length l0 (Nat.lt_of_le_of_lt l1 (by decide)) (ea_cons (ev_var rfl) (ea_cons (ev_lenT (ev_var rfl) (by omega)) ea_nil))) fun v G3 e3 ⟨c, hc, hm⟩ => ⟨c, hc, hl c hm⟩
    · obtain ⟨rim, h1, h2, h3⟩ := hv
      exact ⟨rim, h1, by omega, by omega, h3⟩
def sp_law_printed (K : PySem.W.Frag) : Sp := fun vs H Q _ => ∃ (b : Addr) (rim : List Nat) (m : Nat) (G : Hp), vs = [.ref b, T rim, .int (m : Int)] ∧ ((RN.Reel b H ∧ Ex G (Hd b H)) ∧ RimZ rim ∧ 1 ≤ m ∧ m ≤ 300) ∧ RetD (RN.Reel b) b G (fun v _ => ∃ p, v = T p ∧ PcZ rim p) H Q
theorem ok_law_printed (TX : Txt K mg) : Has P w K mg base CX0 2 "_law_printed" ["reel", "rim", "most"] (sp_law_printed K) := by
  have h_law_draw := ok_law_draw (P := P) (w := w) (base := base) TX
  refine TX.a_law_printed.ok sc_law_printed (fun vs H Q E h => ?_) (fun f cdv A outer s H vs Q E hr h => ?_)
  · obtain ⟨b, rim, m, G, rfl, _⟩ := h
    rfl
  obtain ⟨b, rim, m, G, rfl, h⟩ := h
  refine ⟨_, (pss_cons (ps_set (i := 3) sc_law_printed.nd rfl (Or.inl rfl) (pe_has h_law_draw (hr.mono (by omega)) pass0 (pa_cons (pv 0) (pa_cons (pe_callB call_lenT (by rfl) TX.n_len bt_len (pa_cons (pv 1) pa_nil)) pa_nil))))
        (pss_cons (ps_set (i := 4) sc_law_printed.nd rfl (Or.inl rfl) (pe_ix ix_list (pe_lst (pa_cons pe_int (pa_cons pe_int (pa_cons pe_int (pa_cons (pe_op op_pow pe_int pe_int) pa_nil))))) (pe_has h_law_draw (hr.mono (by omega)) pass0 (pa_cons (pv 0) (pa_cons pe_int pa_nil))) (fun _ _ => rfl)))
        (pss_cons (ps_set (i := 5) sc_law_printed.nd rfl (Or.inl rfl) (pe_lst pa_nil))
        (pss_cons (ps_for PassesOwn.never rfl (pi_range1 (by rfl) TX.n_range (pa_cons (pe_op op_add pe_int (pe_has h_law_draw (hr.mono (by omega)) pass0 (pa_cons (pv 0) (pa_cons (pv 2) pa_nil)))) pa_nil)) (pg_name (i := 6) sc_law_printed.nd rfl (Or.inl rfl)) (pss_one (ps_expr (pe_bm PySem.F.plainAttrs_list PySem.F.slot_list_append PySem.F.type_list_append mt_append (pv 5) (pa_cons (pe_ifExp (pt_cmpR op_eq (pe_has h_law_draw (hr.mono (by omega)) pass0 (pa_cons (pv 0) (pa_cons (pv 4) pa_nil))) pe_int (nomark _)) pe_str (pe_ix ix_C (pv 1) (pe_op op_mod (pe_op op_add (pv 3) (pv 6)) (pe_callB call_lenT (by rfl) TX.n_len bt_len (pa_cons (pv 1) pa_nil))) (fun _ _ => rfl))) pa_nil)))))
        (pss_one (ps_ret (pe_join pe_str (pv 5)))))))), ?_⟩
  obtain ⟨⟨⟨hR, eG⟩, hrim, m1, m300⟩, h⟩ := h
  have Dw := RN.reelDrw b
  have hr0 := hrim.1
  have hr10 := hrim.2.1
  refine (q_asgD (P := fun v _ => ∃ k : Nat, v = .int (k : Int) ∧ k < rim.length) (RWD.ed_nat (ed_drw rim.length hr0 (Nat.lt_of_le_of_lt hr10 (by decide)) (ea_cons (ev_var rfl) (ea_cons (ev_lenT (ev_var rfl) (by omega)) ea_nil)))) fun v G1 e1 hv => ?_ : StD (RN.Reel b) b H G _ _ _ G) H hR (Stp.refl eG)
  obtain ⟨first, rfl, hf⟩ := hv
  refine q_asgD (P := fun v _ => ∃ k : Nat, v = .int (k : Int) ∧ 0 < k ∧ k ≤ 1000000000) (ed_imp (ed_ixL Dw (xs := [V.int 1, V.int 2, V.int 5, V.int ((1000000000 : Nat) : Int)]) (el_lst (ea_cons ev_c (ea_cons ev_c (ea_cons ev_c (ea_cons (ev_is (ev_op ev_c ev_c (rv_I (C := CPow) ⟨by decide, by decide, by decide⟩)) (by decide +kernel)) ea_nil)))) (by show 4 ≤ 100000; decide)) fun G1 e1 => ed_drw 4 (by decide) (by decide) (ea_cons (ev_var rfl) (ea_cons ev_c ea_nil))) fun v G2 e2 hv => ?_) fun v G2 e2 hv => ?_
  · simp only [List.mem_cons, List.not_mem_nil, or_false] at hv
    rcases hv with rfl | rfl | rfl | rfl
    · exact ⟨1, rfl, by decide, by decide⟩
    · exact ⟨2, rfl, by decide, by decide⟩
    · exact ⟨5, rfl, by decide, by decide⟩
    · exact ⟨1000000000, rfl, by decide, by decide⟩
  obtain ⟨chance, rfl, ch0, ch1⟩ := hv
  refine RUX.sd_asgM0 Dw fun l H2 M => ?_
  refine RLO.q_forR1M (R1 := RN.Reel b) (Z := fun n => 1 ≤ n ∧ n ≤ m) M (ead_imp (ead_cons (ed_more 1 m (by omega) (Nat.lt_of_le_of_lt m300 (by decide)) (ea_cons (ev_var rfl) (ea_cons (ev_var rfl) ea_nil))) (fun _ _ _ _ h => h) fun G3 e3 => ead_nil) fun vs G3 e3 ⟨v, r, g1, ⟨k, g2, g3, g5⟩, g4⟩ => ⟨k, by rw [g1, g2, g4], by omega, by omega⟩) (fun n hn => by omega)
    (fun n i σ' H' => ∃ (v6 : Option V) (p : List Nat) (G1 : Hp), σ' = [some (.ref b), some (T rim), some (.int (m : Int)), some (.int (first : Int)), some (.int (chance : Int)), some (.ref l), v6] ∧ RMU.Mut (RN.Reel b) b H G G1 l (p.map fun c => T [c]) H' ∧ p.length = i ∧ ∀ j, j < p.length → p.getD j 0 = 63 ∨ p.getD j 0 = rim.getD ((first + j) % rim.length) 0)
    (fun n G3 H3 hn e3 M2 => ⟨_, [], G3, rfl, M2, rfl, fun j hj => absurd hj (by simp)⟩) (fun n i σ' H' hi hn hP => ?_) (fun n σ' H' hn hP => ?_)
  · obtain ⟨v6, p, G3, rfl, M2, hpl, hp⟩ := hP
    refine RUX.s_appM Dw Dw M2 (P := fun v _ => ∃ c, v = T [c] ∧ (c = 63 ∨ c = rim.getD ((first + i) % rim.length) 0)) (ev_var rfl) (by rw [List.length_map]; omega) (fun H5 M5 Q q => ?_) fun v G5 H5 e5 ⟨c, hc, g1⟩ M5 => ?_
    · refine (?_ : EvD (RN.Reel b) b _ _ G3 (fun v _ => ∃ c, v = T [c] ∧ (c = 63 ∨ c = rim.getD ((first + i) % rim.length) 0))) H5 M5.r M5.s.sub Q q
      exact RSP.ed_if (RWD.ed_is Dw (j := 0) (ed_drw chance ch0 (Nat.lt_of_le_of_lt ch1 (by decide)) (ea_cons (ev_var rfl) (ea_cons (ev_var rfl) ea_nil)))) (fun G4 e4 => ed_imp (ed_ev Dw (ev_s [63] (by decide +kernel))) fun v _ _ hv => ⟨63, hv, .inl rfl⟩) (fun G4 e4 => ed_imp (ed_ev Dw (ev_is (ev_ixC (a := rim) (i := (((first + i) % rim.length : Nat) : Int)) (ev_var rfl) (ev_is (ev_mod (ev_i0 (ev_var rfl) (ev_var rfl)) (ev_lenT (ev_var rfl) (by omega)) (by omega)) (by congr 1)) (by omega) (by omega) (by have := Nat.mod_lt (first + i) hr0; omega)) (by rw [Int.toNat_natCast]))) fun v _ _ hv => ⟨_, hv, .inr rfl⟩)
    subst hc
    refine ⟨_, p ++ [c], G5, rfl, by rw [List.map_append]; exact M5, by rw [List.length_append, hpl]; rfl, fun j hj => ?_⟩
    by_cases z : j < p.length
    · have := hp j z
      rw [List.getD_eq_getElem?_getD, List.getElem?_append_left z, ← List.getD_eq_getElem?_getD]
      exact this
    · have : j = p.length := by
        rw [List.length_append] at hj
        simp at hj
        omega
      subst this
      rw [List.getD_eq_getElem?_getD, List.getElem?_append_right (Nat.le_refl _), Nat.sub_self, hpl]
      exact g1
  · obtain ⟨v6, p, G3, rfl, M2, hpl, hp⟩ := hP
    refine M2.go Dw ?_
    refine s_retD (P := fun v _ => v = T p) (ed_ev Dw (ev_is (ev_joinL (ys := p.map fun c => [c]) (by decide +kernel) (ev_var rfl) (SqL.of (by rw [upd_same, List.map_map]; rfl)) (by rw [flat_signs]; omega)) (by rw [flat_signs]))) fun v H4 G4 r4 s4 e4 hv => h v H4 G4 r4 s4 ⟨p, hv, ⟨by omega, by omega, fun c hc => ?_⟩, first, hp⟩
    obtain ⟨j, hj, rfl⟩ := List.getElem_of_mem hc
    have e : p.getD j 0 = p[j] := by rw [List.getD_eq_getElem?_getD, List.getElem?_eq_getElem hj]; rfl
    rw [← e]
    rcases hp j hj with z | z
    · rw [z]
      decide
    · rw [z]
      exact wz_sg _ (hrim.2.2 _ (getD_mem (Nat.mod_lt _ hr0)))
def sp_law_pieces (K : PySem.W.Frag) : Sp := fun vs H Q _ => ∃ (b : Addr) (rim : List Nat) (G : Hp), vs = [.ref b, T rim] ∧ ((RN.Reel b H ∧ Ex G (Hd b H)) ∧ RimZ rim) ∧ RetD (RN.Reel b) b G (fun v G' => ∃ (a : Addr) (ps : List (List Nat)), v = .ref a ∧ G' a = some (.lst (ps.map T)) ∧ (1 ≤ ps.length ∧ ps.length ≤ 3) ∧ ∀ p ∈ ps, PcZ rim p) H Q
theorem ok_law_pieces (TX : Txt K mg) : Has P w K mg base CX0 3 "_law_pieces" ["reel", "rim"] (sp_law_pieces K) := by
  have h_law_draw := ok_law_draw (P := P) (w := w) (base := base) TX
  have h_law_printed := ok_law_printed (P := P) (w := w) (base := base) TX
  refine TX.a_law_pieces.ok sc_law_pieces (fun vs H Q E h => ?_) (fun f cdv A outer s H vs Q E hr h => ?_)
  · obtain ⟨b, rim, G, rfl, _⟩ := h
    rfl
  obtain ⟨b, rim, G, rfl, h⟩ := h
  refine ⟨_, (pss_cons (ps_set (i := 2) sc_law_pieces.nd rfl (Or.inr rfl) (pe_ix ix_list (pe_lst (pa_cons pe_int (pa_cons (pe_op op_mul pe_int (pe_callB call_lenT (by rfl) TX.n_len bt_len (pa_cons (pv 1) pa_nil))) (pa_cons pe_int (pa_cons pe_int pa_nil))))) (pe_has h_law_draw (hr.mono (by omega)) pass0 (pa_cons (pv 0) (pa_cons pe_int pa_nil))) (fun _ _ => rfl)))
        (pss_one (ps_ret (pe_lc (own := [("k", 3)]) (by rfl) sc_law_pieces.nd (pi_range1 (by rfl) TX.n_range (pa_cons (pe_op op_add pe_int (pe_has h_law_draw (hr.mono (by omega)) pass0 (pa_cons (pv 0) (pa_cons pe_int pa_nil)))) pa_nil)) (blkOk_by (N := ["reel", "rim", "most", "k"]) (sc := defScope s_law_pieces) (by decide +kernel)) (fun _ _ _ _ _ => (pg_name (i := 3) sc_law_pieces.nd rfl (Or.inl rfl))) (fun _ _ _ _ _ => pts_nil) (fun _ _ _ _ _ => (pe_has h_law_printed (hr.mono (by omega)) pass0 (pa_cons (pv 0) (pa_cons (pv 1) (pa_cons (pv 2) pa_nil))))))))), ?_⟩
  obtain ⟨⟨⟨hR, eG⟩, hrim⟩, h⟩ := h
  have Dw := RN.reelDrw b
  have hr0 := hrim.1
  have hr10 := hrim.2.1
  refine (q_asgD (P := fun v _ => ∃ k : Nat, v = .int (k : Int) ∧ 1 ≤ k ∧ k ≤ 300) (ed_imp (ed_ixL Dw (xs := [V.int 4, V.int ((2 * rim.length : Nat) : Int), V.int 40, V.int 300]) (el_lst (ea_cons ev_c (ea_cons (ev_is (ev_mul ev_c (ev_lenT (ev_var rfl) (by omega)) (.inl ⟨by decide, by decide⟩)) (by rw [Int.natCast_mul]; rfl)) (ea_cons ev_c (ea_cons ev_c ea_nil)))) (by show 4 ≤ 100000; decide)) fun G1 e1 => ed_drw 4 (by decide) (by decide) (ea_cons (ev_var rfl) (ea_cons ev_c ea_nil))) fun v G2 e2 hv => ?_) fun v G2 e2 hv => ?_ : StD (RN.Reel b) b H G _ _ _ G) H hR (Stp.refl eG)
  · simp only [List.mem_cons, List.not_mem_nil, or_false] at hv
    rcases hv with rfl | rfl | rfl | rfl
    · exact ⟨4, rfl, by decide, by decide⟩
    · exact ⟨_, rfl, by omega, by omega⟩
    · exact ⟨40, rfl, by decide, by decide⟩
    · exact ⟨300, rfl, by decide, by decide⟩
  obtain ⟨most, rfl, mo1, mo300⟩ := hv
  refine s_retD (ed_lcRD (lo := 1) (hi := 3) Dw (fun x _ => ∃ p, x = T p ∧ PcZ rim p) (fun _ _ _ _ h => h) (ead_imp (ead_cons (ed_more 1 3 (by decide) (by decide) (ea_cons (ev_var rfl) (ea_cons ev_c ea_nil))) (fun _ _ _ _ h => h) fun G3 e3 => ead_nil) fun vs G3 e3 ⟨v, r, g1, ⟨k, g2, g3, g5⟩, g4⟩ => ⟨k, by rw [g1, g2, g4], by omega, by omega⟩) (by omega) (fun x => rfl) fun i G3 hi e3 => ed_callV Dw (ea_cons (ev_var rfl) (ea_cons (ev_var rfl) (ea_cons (ev_var rfl) ea_nil))) fun H1 r1 e1 Q1 q1 E1 => ⟨b, rim, most, _, rfl, ⟨⟨r1, e1⟩, hrim, mo1, mo300⟩, q1⟩) fun v H4 G4 r4 s4 e4 hv => h v H4 G4 r4 s4 ?_
  obtain ⟨a, xs, g1, g2, g3, g4⟩ := hv
  obtain ⟨ps, rfl, hps⟩ := list_T g4
  rw [List.length_map] at g3
  exact ⟨a, ps, g1, g2, g3, hps⟩
end
end X

namespace X
open PySem PySem.Spec PyProof.Rows L2 Evl TL RC RA RD RE RF RG RH RI RL RS RP RQ RR RT RDI RU RV RX RY RZ1 RO RO1 RM RO2 RK RN RLS RST RTU RSP RSU RLT RPL RPT RPI RMB RMX RMC RMU RFZ RWD RPB RUX RLO RSK RWY RSL RGU RSH REX RXW RRZ
section
variable {P : Program} {w : World} {K : PySem.W.Frag} {mg : Str → Option Value} {base : Heap}
open RXW
/-! ### what is refused by known_from -/
/-- what is no seen piece -/
def OddS (K : PySem.W.Frag) (H : Hp) (v : V) : Prop := (∃ l : List Nat, v = T l ∧ l.length ≤ 30000 ∧ (l = [] ∨ ∃ d ∈ l, d ∉ SIGNS) ∧ ∀ c ∈ l, c < 1114112) ∨ (∃ t : String, PySem.W.kitOne K (.type t) (.type "str") = some false ∧ ∀ H1, Ex H H1 → TyX K H1 v (.type t))
theorem OddS.ex {H H' : Hp} {v : V} (e : Ex H H') (h : OddS K H v) : OddS K H' v := h.imp id fun ⟨t, h1, h2⟩ => ⟨t, h1, fun H1 e1 => h2 H1 (e.trans e1)⟩
/-- what is no length -/
def BadL (K : PySem.W.Frag) (H : Hp) (v : V) : Prop := (∃ i : Int, v = .int i ∧ (i < 1 ∨ 10 < i)) ∨ (∃ b : Bool, v = .bl b) ∨ (∃ t : String, PySem.W.kitOne K (.type t) (.type "int") = some false ∧ ∀ H1, Ex H H1 → TyX K H1 v (.type t))
theorem BadL.ex {H H' : Hp} {v : V} (e : Ex H H') (h : BadL K H v) : BadL K H' v := h.imp id fun h => h.imp id fun ⟨t, h1, h2⟩ => ⟨t, h1, fun H1 e1 => h2 H1 (e.trans e1)⟩
/-- good pieces -/
def GoodPs (H : Hp) (v : V) : Prop := ∃ ps : List (List Nat), Sq H v (ps.map T) ∧ ps ≠ [] ∧ ps.length ≤ 4 ∧ ∀ p ∈ ps, Seen p ∧ p.length ≤ 4000
theorem GoodPs.ex {H H' : Hp} {v : V} (e : Ex H H') (h : GoodPs H v) : GoodPs H' v := by
  obtain ⟨ps, h1, h2⟩ := h
  exact ⟨ps, h1.ex e, h2⟩
/-- pieces of which one is none, or none at all -/
def BadPs (K : PySem.W.Frag) (H : Hp) (v : V) : Prop := ∃ (xs : List V), Sq H v xs ∧ xs.length ≤ 10 ∧ (xs = [] ∨ ∃ (k : Nat), (∀ i x, i < k → xs[i]? = some x → ∃ l, x = T l ∧ Seen l) ∧ ∃ x, xs[k]? = some x ∧ OddS K H x)
theorem BadPs.ex {H H' : Hp} {v : V} (e : Ex H H') (h : BadPs K H v) : BadPs K H' v := by
  obtain ⟨xs, h1, h2, h3⟩ := h
  exact ⟨xs, h1.ex e, h2, h3.imp id fun ⟨k, g1, x, g2, g3⟩ => ⟨k, g1, x, g2, g3.ex e⟩⟩
def spX_need_seen (K : PySem.W.Frag) : Sp := fun vs H _ E => ∃ v, vs = [v] ∧ OddS K H v ∧ Rz K "NoSeen" H E
theorem okX_need_seen (TX : Txt K mg) : Has P w K mg base (L2.CX P w) 1 "need_seen" ["thing"] (spX_need_seen K) := by
  obtain ⟨D, hx_NoSeen⟩ := TX.x_NoSeen
  refine REX.ok_x TX.a_need_seen sc_need_seen (fun vs H Q E h => ?_) (fun f cdv A outer s H vs Q E hr h => ?_)
  · obtain ⟨_, rfl, _⟩ := h
    rfl
  obtain ⟨v, rfl, hv, h⟩ := h
  refine ⟨_, (pss_one (ps_if (PW.pt (pw_or (pt_not (pt_val (pe_callB (r := rIsi K) call_isi (by rfl) TX.n_isinstance bt_isinstance (pa_cons (pv 0) (pa_cons (pe_bltn (v := .ty "str") (by rfl) TX.n_str bt_str rfl) pa_nil))))) (pw_or (pt_cmpR op_eq (pv 0) pe_str (nomark _)) (pw_or1 (pt_cmpR (op_neD hr.units) (pe_lc (own := [("sign", 1)]) (by rfl) sc_need_seen.nd (pi_str (pv 0)) (blkOk_by (N := ["thing", "sign"]) (sc := defScope s_need_seen) (by decide +kernel)) (fun _ _ _ _ _ => (pg_name (i := 1) sc_need_seen.nd rfl (Or.inl rfl))) (fun _ _ _ _ _ => (pts_one (pt_cmpR op_notInT (pv 1) (pe_gs TX.c_SEEN_SIGNS) rfl))) (fun _ _ _ _ _ => (pv 1))) (pe_lst pa_nil) (nomark _)))))) (pss_one (ps_raise rfl (takes_of rfl rfl rfl rfl) (REX.pmk_x (K := K) hx_NoSeen))) pss_nil)), ?_⟩
  rcases hv with ⟨l, rfl, hl, hb, hs⟩ | ⟨t, hk, ht⟩
  · refine s_when (b := true) (et_is (et_or (a := false) (et_is (et_not (et_B (ev_isiT (ev_var rfl)))) rfl) fun _ => et_or (et_test (ev_eqT (ev_var rfl) (ev_s [] (by decide +kernel)))) fun _ => et_test (ev_neLL (ys := (l.filter fun c => !decide (c ∈ SIGNS)).map fun c => [c]) (zs := []) (el_to (el_lcStr (fun c => !decide (c ∈ SIGNS)) (fun c => T [c]) (ev_var rfl) (by omega) (fun _ => rfl) (fun c H1 _ _ => et_test (ev_notInT (ev_var rfl) (ev_s SIGNS (by decide +kernel)))) (fun c H1 _ _ _ => ev_var rfl)) (by rw [List.map_map]; rfl)) el_nil (fun y hy c hc => ?_) (fun y hy => by simp at hy))) ?_) (fun _ H2 e2 => h D hx_NoSeen.at_ H2 e2) (fun z => by cases z)
    · obtain ⟨d, hd, rfl⟩ := List.mem_map.mp hy
      rw [List.mem_singleton.mp hc]
      exact hs d (List.mem_filter.mp hd).1
    · rcases hb with rfl | ⟨d, hd, hn⟩
      · rfl
      · have : ((l.filter fun c => !decide (c ∈ SIGNS)).map fun c => [c]) ≠ [] := fun z => by
          rw [List.map_eq_nil_iff, List.filter_eq_nil_iff] at z
          have := z d hd
          simp [hn] at this
        rw [decide_eq_false this]
        simp
  · exact s_when (b := true) (et_is (et_or (a := true) (b := true) (et_is (et_not (et_B (ev_isi (ev_var rfl) ht hk))) rfl) fun z => by cases z) rfl) (fun _ H2 e2 => h D hx_NoSeen.at_ H2 e2) (fun z => by cases z)
def spX_need_pieces (K : PySem.W.Frag) : Sp := fun vs H _ E => ∃ v, vs = [v] ∧ BadPs K H v ∧ Rz K "NoSeen" H E
theorem okX_need_pieces (TX : Txt K mg) : Has P w K mg base (L2.CX P w) 2 "need_pieces" ["pieces"] (spX_need_pieces K) := by
  obtain ⟨D, hx_NoSeen⟩ := TX.x_NoSeen
  have h_need_seen := ok_need_seen (P := P) (w := w) (base := base) TX
  have hX_need_seen := okX_need_seen (P := P) (w := w) (base := base) TX
  refine REX.ok_x TX.a_need_pieces sc_need_pieces (fun vs H Q E h => ?_) (fun f cdv A outer s H vs Q E hr h => ?_)
  · obtain ⟨_, rfl, _⟩ := h
    rfl
  obtain ⟨v, rfl, ⟨xs, hs, hl, hb⟩, h⟩ := h
  refine ⟨_, (pss_cons (ps_if (PW.pt (pw_or (pt_not (pt_val (pe_callB (r := rIsiT K) call_isiT (by rfl) TX.n_isinstance bt_isinstance (pa_cons (pv 0) (pa_cons (pe_tup (pa_cons (pe_bltn (v := .ty "list") (by rfl) TX.n_list bt_list rfl) (pa_cons (pe_bltn (v := .ty "tuple") (by rfl) TX.n_tuple bt_tuple rfl) pa_nil))) pa_nil))))) (pw_or1 (pt_cmpR op_eq (pe_callB (r := rLenL K) call_lenL (by rfl) TX.n_len bt_len (pa_cons (pv 0) pa_nil)) pe_int (nomark _))))) (pss_one (ps_raise rfl (takes_of rfl rfl rfl rfl) (REX.pmk_x (K := K) hx_NoSeen))) pss_nil)
        (pss_one (ps_for (L2.passes_of rfl) rfl (pi_or2 (pi_list (pv 0)) (pi_tup (pv 0))) (pg_name (i := 1) sc_need_pieces.nd rfl (Or.inl rfl)) (pss_one (ps_expr (RS.pe_or2 (pe_has h_need_seen (hr.mono (by omega)) pass0 (pa_cons (pv 1) pa_nil)) (pe_has hX_need_seen (hr.mono (by omega)) (passes_call (W := fun c d _ H => E c d H) (takes_of rfl rfl rfl rfl) fun _ _ _ _ h => h) (pa_cons (pv 1) pa_nil)))))))), ?_⟩
  refine q_when (b := decide (xs = [])) (et_is (et_or (a := false) (b := decide (xs = [])) (et_is (et_not (et_B (ev_isiQ (ev_var rfl) hs))) rfl) fun _ => et_is (et_test (ev_eqI (ev_lenQ (ev_var rfl) hs) ev_c)) (decide_eq_decide.mpr (by rw [← List.length_eq_zero_iff]; omega))) rfl) (fun _ H1 e1 => h D hx_NoSeen.at_ H1 e1) (fun hc H1 e1 => ?_)
  have hne := of_decide_eq_false hc
  rcases hb with hb | ⟨k, hg, x, hxk, hx⟩
  · exact absurd hb hne
  have hk : k < xs.length := (List.getElem?_eq_some_iff.mp hxk).1
  refine s_forQ (ev_var rfl) e1 hs (fun i σ' H' => i ≤ k ∧ Ex H H' ∧ ∃ v1, σ' = [some v, v1]) (fun H2 e2 => ⟨Nat.zero_le _, e1.trans e2, _, rfl⟩) (fun i σ' H' hP => hP.2.1) (fun i y σ' H' hi hP => ?_) (fun σ' H' hP => absurd hP.1 (by omega))
  obtain ⟨hik, e2, v1, rfl⟩ := hP
  by_cases c : i < k
  · obtain ⟨l, rfl, hsn⟩ := hg i y c hi
    exact (ev_orL (ev_call (z := .non) (ea_cons (ev_var rfl) ea_nil) fun H3 e3 Q q E => ⟨l, rfl, hsn, q⟩)) H' (Ex.refl _) _ fun H3 e3 => ⟨by omega, e2.trans e3, _, rfl⟩
  · have : i = k := by omega
    subst this
    rw [hxk] at hi
    cases hi
    exact (x_or (x_call (ea_cons (ev_var rfl) ea_nil) fun H3 e3 Q => ⟨_, rfl, hx.ex (e2.trans e3), h.ex (e2.trans e3)⟩)) H' (Ex.refl _) _
def spX_need_short_rim (K : PySem.W.Frag) : Sp := fun vs H _ E => ∃ v, vs = [v] ∧ BadL K H v ∧ Rz K "NoNumber" H E
theorem okX_need_short_rim (TX : Txt K mg) : Has P w K mg base (L2.CX P w) 1 "need_short_rim" ["length"] (spX_need_short_rim K) := by
  obtain ⟨D, hx_NoNumber⟩ := TX.x_NoNumber
  refine REX.ok_x TX.a_need_short_rim sc_need_short_rim (fun vs H Q E h => ?_) (fun f cdv A outer s H vs Q E hr h => ?_)
  · obtain ⟨_, rfl, _⟩ := h
    rfl
  obtain ⟨v, rfl, hv, h⟩ := h
  refine ⟨_, (pss_one (ps_if (PW.pt (pw_or (pt_not (pt_val (pe_callB (r := rIsi K) call_isi (by rfl) TX.n_isinstance bt_isinstance (pa_cons (pv 0) (pa_cons (pe_bltn (v := .ty "int") (by rfl) TX.n_int bt_int rfl) pa_nil))))) (pw_or (pt_val (pe_callB (r := rIsi K) call_isi (by rfl) TX.n_isinstance bt_isinstance (pa_cons (pv 0) (pa_cons (pe_bltn (v := .ty "bool") (by rfl) TX.n_bool bt_bool rfl) pa_nil)))) (pw_or1 (pt_not (pt_chain op_le op_le pe_int (pv 0) (pe_gi TX.c_MOST_MARKS))))))) (pss_one (ps_raise rfl (takes_of rfl rfl rfl rfl) (REX.pmk_x (K := K) hx_NoNumber))) pss_nil)), ?_⟩
  rcases hv with ⟨i, rfl, hi⟩ | ⟨b, rfl⟩ | ⟨t, hk, ht⟩
  · refine s_when (b := true) (et_is (et_or (a := false) (b := true) (et_is (et_not (et_B (ev_isiI (ev_var rfl)))) rfl) fun _ => et_is (et_or (a := false) (b := true) (et_B (ev_isiIb (ev_var rfl))) fun _ => et_is (et_not (et_test (ev_chain ev_c (ev_var rfl) rv_I0 (fun _ => ev_c) (fun _ => rv_I0)))) ?_) rfl) rfl) (fun _ H2 e2 => h D hx_NoNumber.at_ H2 e2) (fun z => by cases z)
    rcases hi with hi | hi
    · rw [decide_eq_false (show ¬ (1 : Int) ≤ i by omega)]
      rfl
    · rw [decide_eq_false (show ¬ i ≤ (10 : Int) by omega), Bool.and_false]
      rfl
  · exact s_when (b := true) (et_is (et_or (a := false) (b := true) (et_is (et_not (et_B (ev_isi (c := true) (ev_var rfl) (fun _ _ => .base (.bl _)) (L2.kit_ty (by decide +kernel))))) rfl) fun _ => et_is (et_or (a := true) (b := true) (et_B (ev_isi (c := true) (ev_var rfl) (fun _ _ => .base (.bl _)) (L2.kit_ty (by decide +kernel)))) fun z => by cases z) rfl) rfl) (fun _ H2 e2 => h D hx_NoNumber.at_ H2 e2) (fun z => by cases z)
  · exact s_when (b := true) (et_is (et_or (a := true) (b := true) (et_is (et_not (et_B (ev_isi (ev_var rfl) ht hk))) rfl) fun z => by cases z) rfl) (fun _ H2 e2 => h D hx_NoNumber.at_ H2 e2) (fun z => by cases z)
def spX_known_from (K : PySem.W.Frag) : Sp := fun vs H _ E => ∃ v n, vs = [v, n] ∧ ((BadPs K H v ∧ Rz K "NoSeen" H E) ∨ (GoodPs H v ∧ BadL K H n ∧ Rz K "NoNumber" H E))
theorem okX_known_from (TX : Txt K mg) : Has P w K mg base (L2.CX P w) 5 "known_from" ["pieces", "length"] (spX_known_from K) := by
  have h_need_pieces := ok_need_pieces (P := P) (w := w) (base := base) TX
  have hX_need_pieces := okX_need_pieces (P := P) (w := w) (base := base) TX
  have h_need_short_rim := ok_need_short_rim (P := P) (w := w) (base := base) TX
  have hX_need_short_rim := okX_need_short_rim (P := P) (w := w) (base := base) TX
  have h_laid := ok_laid (P := P) (w := w) (base := base) TX
  have h_least_turning := ok_least_turning (P := P) (w := w) (base := base) TX
  refine REX.ok_x TX.a_known_from sc_known_from (fun vs H Q E h => ?_) (fun f cdv A outer s H vs Q E hr h => ?_)
  · obtain ⟨_, _, rfl, _⟩ := h
    rfl
  obtain ⟨v, n, rfl, hv⟩ := h
  refine ⟨_, (pss_cons (ps_expr (RS.pe_or2 (pe_has h_need_pieces (hr.mono (by omega)) pass0 (pa_cons (pv 0) pa_nil)) (pe_has hX_need_pieces (hr.mono (by omega)) (passes_call (W := fun c d _ H => E c d H) (takes_of rfl rfl rfl rfl) fun _ _ _ _ h => h) (pa_cons (pv 0) pa_nil))))
        (pss_cons (ps_expr (RS.pe_or2 (pe_has h_need_short_rim (hr.mono (by omega)) pass0 (pa_cons (pv 1) pa_nil)) (pe_has hX_need_short_rim (hr.mono (by omega)) (passes_call (W := fun c d _ H => E c d H) (takes_of rfl rfl rfl rfl) fun _ _ _ _ h => h) (pa_cons (pv 1) pa_nil))))
        (PSs.nox (pss_cons (ps_set (i := 2) sc_known_from.nd rfl (Or.inl rfl) (pe_disp (pps_cons (pe_op op_repT (pe_gs TX.c_UNSEEN) (pv 1)) pe_bl pps_nil) rfl rfl (fun z => nomatch z) (by decide)))
        (pss_cons (ps_for PassesOwn.never rfl (pi_or2 (pi_list (pv 0)) (pi_tup (pv 0))) (pg_name (i := 3) sc_known_from.nd rfl (Or.inl rfl)) (PSs.nox (pss_cons (ps_set (i := 4) sc_known_from.nd rfl (Or.inl rfl) pe_dnewK)
        (pss_cons (ps_lock (ps_for PassesOwn.never rfl (pi_keys (pv 2)) (pg_name (i := 5) sc_known_from.nd rfl (Or.inl rfl)) (PSs.nox (pss_one (ps_for PassesOwn.never rfl (pi_range1 (by rfl) TX.n_range (pa_cons (pv 1) pa_nil)) (pg_name (i := 6) sc_known_from.nd rfl (Or.inl rfl)) (PSs.nox (pss_cons (ps_set (i := 7) sc_known_from.nd rfl (Or.inl rfl) (pe_has h_laid (hr.mono (by omega)) pass0 (pa_cons (pv 5) (pa_cons (pv 3) (pa_cons (pv 6) pa_nil)))))
        (pss_one (ps_if (pt_cmpR op_notN (pv 7) pe_non (nomark _)) (PSs.nox (pss_one (ps_dput (hu_of hr) (pv 4) (pe_has h_least_turning (hr.mono (by omega)) pass0 (pa_cons (pv 7) pa_nil)) pe_bl rfl))) pss_nil)))))))))
        (pss_one (ps_set (i := 2) sc_known_from.nd rfl (Or.inl rfl) (pv 4)))))))
        (pss_one (ps_ret (pe_callB (RSK.cr_sortedDA rfl) (by rfl) TX.n_sorted bt_sorted (pa_cons (pv 2) pa_nil))))))))), ?_⟩
  rcases hv with ⟨hb, h⟩ | ⟨⟨ps, g1, g2, g3, g4⟩, hb, h⟩
  · exact q_dropX (x_or (x_call (ea_cons (ev_var rfl) ea_nil) fun H1 e1 Q => ⟨v, rfl, hb.ex e1, h.ex e1⟩))
  · refine q_drop (ev_orL (ev_call (z := .non) (ea_cons (ev_var rfl) ea_nil) fun H1 e1 Q q E => ⟨v, ps, rfl, ⟨g1.ex e1, g2, fun p hp => (g4 p hp).1⟩, q⟩)) fun H1 e1 => ?_
    exact q_dropX (x_or (x_call (ea_cons (ev_var rfl) ea_nil) fun H2 e2 Q => ⟨n, rfl, hb.ex (e1.trans e2), h.ex (e1.trans e2)⟩))
end
end X

namespace X
open PySem PySem.Spec PyProof.Rows L2 Evl TL RC RA RD RE RF RG RH RI RL RS RP RQ RR RT RDI RU RV RX RY RZ1 RO RO1 RM RO2 RK RN RLS RST RTU RSP RSU RLT RPL RPT RPI RMB RMX RMC RMU RFZ RWD RPB RUX RLO RSK RWY RSL RGU RSH REX RXW RRZ
section
variable {P : Program} {w : World} {K : PySem.W.Frag} {mg : Str → Option Value} {base : Heap}
/-! ### the kind of what is caught -/
section
variable {σ : L2.St} {H : Hp} {te tc tv t1 t2 : TE} {a D : Addr} {b : Bool}
theorem ev_isL {c : V} {cv : Value} (ha : Ev te σ H (.ref a)) (hl : H a = some (REX.Lain a (.ref D) none)) (C : ExcC K D) (hc : Ev tc σ H c) (one : ∀ u, RelV c u → u = cv) (k : PySem.W.kitOne K (.ref D) cv = some b) : Ev (tCB (REX.rIsL K) (tCons te (tCons tc tNil))) σ H (.bl b) :=
  fun H0 e Q q => (ea_cons ha (ea_cons hc ea_nil)) H0 e _ fun H1 e1 => ⟨a, D, c, cv, b, rfl, (e.trans e1) _ _ hl, C, one, k, q H1 e1⟩
theorem one_ref {C : Addr} : ∀ u, RelV (.ref C) u → u = .ref C := fun u h => h
/-- names, each with a truth -/
def KP (ls : List (Str × Bool)) (w : V) (H : Hp) : Prop := ∃ (a : Addr) (xs : List V), w = .ref a ∧ H a = some (.lst xs) ∧ xs.length = ls.length ∧ ∀ (i : Nat) (z : V), xs[i]? = some z → ∃ (q : Addr) (p : Str × Bool), z = .ref q ∧ ls[i]? = some p ∧ H q = some (.tup [.str p.1, .bl p.2])
theorem KP.ex {ls : List (Str × Bool)} {w : V} {H H' : Hp} (e : Ex H H') (h : KP ls w H) : KP ls w H' := by
  obtain ⟨a, xs, h1, h2, h3, h4⟩ := h
  exact ⟨a, xs, h1, e _ _ h2, h3, fun i z hz => by obtain ⟨q, p, g1, g2, g3⟩ := h4 i z hz; exact ⟨q, p, g1, g2, e _ _ g3⟩⟩
theorem evp_two {x0 x1 : Str} {b0 b1 : Bool} (h1 : EvU t1 σ H [.str x0, .bl b0]) (h2 : EvU t2 σ H [.str x1, .bl b1]) : EvP (tLst (tCons t1 (tCons t2 tNil))) σ H (KP [(x0, b0), (x1, b1)]) := fun H1 e Q q =>
  h1 H1 e _ fun p1 H2 n1 e1 g1 => h2 H2 (e.trans e1) _ fun p2 H3 n2 e2 g2 => ⟨sz_of (show 2 ≤ 100000 by decide), fun l hl => q (.ref l) _ ((e1.trans e2).trans (Ex.new hl)) ⟨l, [.ref p1, .ref p2], rfl, upd_same, rfl, fun i z hz => by
    match i, hz with
    | 0, hz => cases hz; exact ⟨p1, _, rfl, rfl, Ex.new hl _ _ (e2 _ _ g1)⟩
    | 1, hz => cases hz; exact ⟨p2, _, rfl, rfl, Ex.new hl _ _ g2⟩
    | i + 2, hz => simp at hz⟩⟩
theorem evp_more {ls ms : List (Str × Bool)} {w : V} (hv : Ev tv σ H w) (hk : KP ls w H) (hl : ls.length + ms.length ≤ 1000) (h : EvP te σ H (KP ms)) : EvP (tOp rCat tv te) σ H (KP (ls ++ ms)) := fun H1 e Q q =>
  hv H1 e _ fun H2 e2 => h H2 (e.trans e2) _ fun w2 H3 e3 ⟨b, ys, g1, g2, g3, g4⟩ => by
    obtain ⟨a, xs, rfl, k2, k3, k4⟩ := hk.ex ((e.trans e2).trans e3)
    subst g1
    refine ⟨a, b, xs, ys, rfl, rfl, k2, g2, by rw [big]; omega, fun p hp => q (.ref p) _ ((e2.trans e3).trans (Ex.new hp)) ⟨p, xs ++ ys, rfl, upd_same, by rw [List.length_append, List.length_append, k3, g3], fun i z hz => ?_⟩⟩
    by_cases c : i < xs.length
    · rw [List.getElem?_append_left c] at hz
      obtain ⟨q0, p0, f1, f2, f3⟩ := k4 i z hz
      exact ⟨q0, p0, f1, by rw [List.getElem?_append_left (by omega)]; exact f2, Ex.new hp _ _ f3⟩
    · rw [List.getElem?_append_right (by omega)] at hz
      obtain ⟨q0, p0, f1, f2, f3⟩ := g4 _ z hz
      exact ⟨q0, p0, f1, by rw [List.getElem?_append_right (by omega), ← k3]; exact f2, Ex.new hp _ _ f3⟩
/-- [name for name, so in kinds if so] -/
theorem el_met {ls : List (Str × Bool)} {w : V} {j k : Nat} {vs : List Nat} (hv : Ev tv σ H w) (hk : KP ls w H) (hl : ls.length ≤ 1000) (hw : ∀ x y, wipe (((wipe σ vs).set j (some x)).set k (some y)) vs = wipe σ vs) (h1 : ∀ i, (((wipe σ vs).set j (some (V.str ((ls.getD i (Str.empty, false)).1)))).set k (some (V.bl ((ls.getD i (Str.empty, false)).2))))[k]? = some (some (V.bl ((ls.getD i (Str.empty, false)).2)))) (h2 : ∀ i, (((wipe σ vs).set j (some (V.str ((ls.getD i (Str.empty, false)).1)))).set k (some (V.bl ((ls.getD i (Str.empty, false)).2))))[j]? = some (some (V.str ((ls.getD i (Str.empty, false)).1)))) :
    EvL (tLc (iList K tv) (gTup K 2 (gCons (gName j) (gCons (gName k) gNil))) (fun σ H Q => tVar k σ H fun x H' => ∃ c, TruV K x H' c ∧ Q c H') (tVar j) vs) σ H ((ls.filter fun p => p.2).map fun p => V.str p.1) := by
  rw [← given_map ls (Str.empty, false) (fun p => p.2) (fun p => V.str p.1)]
  refine RUX.el_lcT2 (n := ls.length) (x := fun i => V.str ((ls.getD i (Str.empty, false)).1)) (y := fun i => V.bl ((ls.getD i (Str.empty, false)).2)) (fun H1 e Q q => hv H1 e _ fun H2 e2 => q w H2 e2 ?_) (by omega) hw (fun i H1 hi e Hx ex Q q => ?_) (fun i H1 hi e hb => ev_var (h2 i))
  · obtain ⟨a, xs, g1, g2, g3, g4⟩ := hk.ex (e.trans e2)
    refine ⟨a, xs, g1, g2, g3, fun i z hz => ?_⟩
    obtain ⟨q, p, f1, f2, f3⟩ := g4 i z hz
    have : ls.getD i (Str.empty, false) = p := by rw [List.getD_eq_getElem?_getD, f2]; rfl
    exact ⟨q, f1, by dsimp only; rw [this]; exact SqT.of f3⟩
  · exact ⟨_, h1 i, _, rfl, q Hx (Ex.refl _)⟩
theorem pt_truthK {X : Cx} {K : PySem.W.Frag} {a : Expr} {ta : TE} (hK : X.K = K) (ha : PE X a ta) (he : ∀ whole, isTrue a X.env whole = (do let v ← whole; standAt a.pos; holding [v] (truthy v))) : PT X a (fun σ H Q => ta σ H fun x H' => ∃ k, TruV K x H' k ∧ Q k H') := hK ▸ pt_truth ha he
theorem q_tryS {tl : TE} {tr : Ends → TE} {A : List Nat → Prop} {D : Ends} {tz : TS} (h : EvS tl σ H A) (k : ∀ H1, Ex H H1 → tz D σ H1) : tSeq (fun D σ H => tDrop (fun σ H Q => tl σ H Q ∨ tr D σ H Q) D σ H) tz D σ H :=
  .inl (h H (Ex.refl H) _ fun _ _ H1 _ _ _ e _ => k H1 e)
theorem q_tryR {tl : TE} {sp : Sp} {W : Ends → WX} {ta : TA} {vs : List V} {D : Ends} {tz : TS} (h : EvA ta σ H vs) (k : ∀ H1, Ex H H1 → ∀ Q : VK, sp vs H1 Q (WE (W { D with nx := tz D }) σ)) :
    tSeq (fun D σ H => tDrop (fun σ H Q => tl σ H Q ∨ tCallS sp (WE (W D)) ta σ H Q) D σ H) tz D σ H := .inr (h H (Ex.refl H) _ fun H1 e => k H1 e _)
end
def sp_law_kind_of (K : PySem.W.Frag) : Sp := fun vs H Q _ => ∃ (a D : Addr) (s : Bool), vs = [.ref a] ∧ (H a = some (REX.Lain a (.ref D) none) ∧ REX.AtG K (if s then "NoSeen" else "NoNumber") D) ∧ RetV (.str (if s then "NoSeen" else "NoNumber")) H Q
theorem ok_law_kind_of (TX : Txt K mg) : Has P w K mg base CX0 1 "_law_kind_of" ["e"] (sp_law_kind_of K) := by
  obtain ⟨D_PrintError, hx_PrintError⟩ := TX.x_PrintError
  obtain ⟨D_NoPress, hx_NoPress⟩ := TX.x_NoPress
  obtain ⟨D_TooLong, hx_TooLong⟩ := TX.x_TooLong
  obtain ⟨D_NoText, hx_NoText⟩ := TX.x_NoText
  obtain ⟨D_NoPlace, hx_NoPlace⟩ := TX.x_NoPlace
  obtain ⟨D_NoLetter, hx_NoLetter⟩ := TX.x_NoLetter
  obtain ⟨D_NoNumber, hx_NoNumber⟩ := TX.x_NoNumber
  obtain ⟨D_NoSeen, hx_NoSeen⟩ := TX.x_NoSeen
  obtain ⟨D_NoForm, hx_NoForm⟩ := TX.x_NoForm
  obtain ⟨D_NoName, hx_NoName⟩ := TX.x_NoName
  obtain ⟨D_NoneYet, hx_NoneYet⟩ := TX.x_NoneYet
  refine TX.a_law_kind_of.ok sc_law_kind_of (fun vs H Q E h => ?_) (fun f cdv A outer s H vs Q E hr h => ?_)
  · obtain ⟨_, _, _, rfl, _⟩ := h
    rfl
  obtain ⟨a, D, s, rfl, ⟨hl, hD⟩, h⟩ := h
  refine ⟨_, (pss_cons (ps_set (i := 1) sc_law_kind_of.nd rfl (Or.inl rfl) (pe_lst (pa_cons (pe_tup (pa_cons pe_str (pa_cons (pe_callB (r := REX.rIsL K) REX.call_isL (by rfl) TX.n_isinstance bt_isinstance (pa_cons (pv 0) (pa_cons (pe_glob (v := .ref _) rfl hx_NoPress.mg rfl) pa_nil))) pa_nil))) (pa_cons (pe_tup (pa_cons pe_str (pa_cons (pe_callB (r := REX.rIsL K) REX.call_isL (by rfl) TX.n_isinstance bt_isinstance (pa_cons (pv 0) (pa_cons (pe_glob (v := .ref _) rfl hx_TooLong.mg rfl) pa_nil))) pa_nil))) pa_nil))))
        (pss_cons (ps_set (i := 1) sc_law_kind_of.nd rfl (Or.inl rfl) (pe_op op_cat (pv 1) (pe_lst (pa_cons (pe_tup (pa_cons pe_str (pa_cons (pe_callB (r := REX.rIsL K) REX.call_isL (by rfl) TX.n_isinstance bt_isinstance (pa_cons (pv 0) (pa_cons (pe_glob (v := .ref _) rfl hx_NoText.mg rfl) pa_nil))) pa_nil))) (pa_cons (pe_tup (pa_cons pe_str (pa_cons (pe_callB (r := REX.rIsL K) REX.call_isL (by rfl) TX.n_isinstance bt_isinstance (pa_cons (pv 0) (pa_cons (pe_glob (v := .ref _) rfl hx_NoPlace.mg rfl) pa_nil))) pa_nil))) pa_nil)))))
        (pss_cons (ps_set (i := 1) sc_law_kind_of.nd rfl (Or.inl rfl) (pe_op op_cat (pv 1) (pe_lst (pa_cons (pe_tup (pa_cons pe_str (pa_cons (pe_callB (r := REX.rIsL K) REX.call_isL (by rfl) TX.n_isinstance bt_isinstance (pa_cons (pv 0) (pa_cons (pe_glob (v := .ref _) rfl hx_NoLetter.mg rfl) pa_nil))) pa_nil))) (pa_cons (pe_tup (pa_cons pe_str (pa_cons (pe_callB (r := REX.rIsL K) REX.call_isL (by rfl) TX.n_isinstance bt_isinstance (pa_cons (pv 0) (pa_cons (pe_glob (v := .ref _) rfl hx_NoNumber.mg rfl) pa_nil))) pa_nil))) pa_nil)))))
        (pss_cons (ps_set (i := 1) sc_law_kind_of.nd rfl (Or.inl rfl) (pe_op op_cat (pv 1) (pe_lst (pa_cons (pe_tup (pa_cons pe_str (pa_cons (pe_callB (r := REX.rIsL K) REX.call_isL (by rfl) TX.n_isinstance bt_isinstance (pa_cons (pv 0) (pa_cons (pe_glob (v := .ref _) rfl hx_NoSeen.mg rfl) pa_nil))) pa_nil))) (pa_cons (pe_tup (pa_cons pe_str (pa_cons (pe_callB (r := REX.rIsL K) REX.call_isL (by rfl) TX.n_isinstance bt_isinstance (pa_cons (pv 0) (pa_cons (pe_glob (v := .ref _) rfl hx_NoForm.mg rfl) pa_nil))) pa_nil))) pa_nil)))))
        (pss_cons (ps_set (i := 1) sc_law_kind_of.nd rfl (Or.inl rfl) (pe_op op_cat (pv 1) (pe_lst (pa_cons (pe_tup (pa_cons pe_str (pa_cons (pe_callB (r := REX.rIsL K) REX.call_isL (by rfl) TX.n_isinstance bt_isinstance (pa_cons (pv 0) (pa_cons (pe_glob (v := .ref _) rfl hx_NoName.mg rfl) pa_nil))) pa_nil))) (pa_cons (pe_tup (pa_cons pe_str (pa_cons (pe_callB (r := REX.rIsL K) REX.call_isL (by rfl) TX.n_isinstance bt_isinstance (pa_cons (pv 0) (pa_cons (pe_glob (v := .ref _) rfl hx_NoneYet.mg rfl) pa_nil))) pa_nil))) pa_nil)))))
        (pss_cons (ps_setLc (i := 2) (own := [("name", 3), ("so", 4)]) (g := gTup K 2 (gCons (gName 3) (gCons (gName 4) gNil))) (by rfl) sc_law_kind_of.nd rfl rfl (sw_true rfl rfl rfl (by decide +kernel)) (pi_list (pv 1)) (blkOk_by (N := ["e", "kinds", "met", "name", "so"]) (sc := defScope s_law_kind_of) (by decide +kernel)) (fun _ _ _ _ _ => (pg_tup rfl (pgs_cons (pg_name (i := 3) sc_law_kind_of.nd rfl (Or.inl rfl) (hf := Or.inr rfl)) (pgs_cons (pg_name (i := 4) sc_law_kind_of.nd rfl (Or.inl rfl) (hf := Or.inr rfl)) pgs_nil)))) (fun _ _ _ _ _ => (pts_one (pt_truthK (K := K) rfl (pv 4) (by intro _; rfl)))) (fun _ _ _ _ _ => (pv 3)))
        (pss_one (ps_ret (pe_ifExp (PW.pt (pw_and (pt_cmpR op_eq (pe_callB (r := rLenL K) call_lenL (by rfl) TX.n_len bt_len (pa_cons (pv 2) pa_nil)) pe_int (nomark _)) (pw_and1 (pt_val (pe_callB (r := REX.rIsL K) REX.call_isL (by rfl) TX.n_isinstance bt_isinstance (pa_cons (pv 0) (pa_cons (pe_bltn (v := .ty "ValueError") (by rfl) TX.n_ValueError (by rfl) rfl) pa_nil))))))) (pe_ix ix_list (pv 2) pe_int (fun _ _ => rfl)) pe_str))))))))), ?_⟩
  cases s with
  | true =>
    have eD : D = D_NoSeen := hD.uniq hx_NoSeen.at_
    subst eD
    refine q_asgP (evp_two (eu_tup (ea_cons ev_c (ea_cons (ev_isL (c := .ref D_NoPress) (cv := .ref D_NoPress) (b := false) (ev_var rfl) hl hx_NoSeen.isi ev_c one_ref (TX.y_NoSeen_NoPress _ _ hx_NoSeen.at_ hx_NoPress.at_).1) ea_nil)) (by show 2 ≤ 100000; decide)) (eu_tup (ea_cons ev_c (ea_cons (ev_isL (c := .ref D_TooLong) (cv := .ref D_TooLong) (b := false) (ev_var rfl) hl hx_NoSeen.isi ev_c one_ref (TX.y_NoSeen_TooLong _ _ hx_NoSeen.at_ hx_TooLong.at_).1) ea_nil)) (by show 2 ≤ 100000; decide))) fun w0 H1 e1 k1 => ?_
    refine q_asgP (evp_more (ev_var rfl) k1 (by decide) (evp_two (eu_tup (ea_cons ev_c (ea_cons (ev_isL (c := .ref D_NoText) (cv := .ref D_NoText) (b := false) (ev_var rfl) ((e1) _ _ hl) hx_NoSeen.isi ev_c one_ref (TX.y_NoSeen_NoText _ _ hx_NoSeen.at_ hx_NoText.at_).1) ea_nil)) (by show 2 ≤ 100000; decide)) (eu_tup (ea_cons ev_c (ea_cons (ev_isL (c := .ref D_NoPlace) (cv := .ref D_NoPlace) (b := false) (ev_var rfl) ((e1) _ _ hl) hx_NoSeen.isi ev_c one_ref (TX.y_NoSeen_NoPlace _ _ hx_NoSeen.at_ hx_NoPlace.at_).1) ea_nil)) (by show 2 ≤ 100000; decide)))) fun w1 H2 e2 k2 => ?_
    refine q_asgP (evp_more (ev_var rfl) k2 (by decide) (evp_two (eu_tup (ea_cons ev_c (ea_cons (ev_isL (c := .ref D_NoLetter) (cv := .ref D_NoLetter) (b := false) (ev_var rfl) (((e1).trans e2) _ _ hl) hx_NoSeen.isi ev_c one_ref (TX.y_NoSeen_NoLetter _ _ hx_NoSeen.at_ hx_NoLetter.at_).1) ea_nil)) (by show 2 ≤ 100000; decide)) (eu_tup (ea_cons ev_c (ea_cons (ev_isL (c := .ref D_NoNumber) (cv := .ref D_NoNumber) (b := false) (ev_var rfl) (((e1).trans e2) _ _ hl) hx_NoSeen.isi ev_c one_ref (TX.y_NoSeen_NoNumber _ _ hx_NoSeen.at_ hx_NoNumber.at_).1) ea_nil)) (by show 2 ≤ 100000; decide)))) fun w2 H3 e3 k3 => ?_
    refine q_asgP (evp_more (ev_var rfl) k3 (by decide) (evp_two (eu_tup (ea_cons ev_c (ea_cons (ev_isL (c := .ref D) (cv := .ref D) (b := true) (ev_var rfl) ((((e1).trans e2).trans e3) _ _ hl) hx_NoSeen.isi ev_c one_ref (TX.y_NoSeen_NoSeen _ _ hx_NoSeen.at_ hx_NoSeen.at_).1) ea_nil)) (by show 2 ≤ 100000; decide)) (eu_tup (ea_cons ev_c (ea_cons (ev_isL (c := .ref D_NoForm) (cv := .ref D_NoForm) (b := false) (ev_var rfl) ((((e1).trans e2).trans e3) _ _ hl) hx_NoSeen.isi ev_c one_ref (TX.y_NoSeen_NoForm _ _ hx_NoSeen.at_ hx_NoForm.at_).1) ea_nil)) (by show 2 ≤ 100000; decide)))) fun w3 H4 e4 k4 => ?_
    refine q_asgP (evp_more (ev_var rfl) k4 (by decide) (evp_two (eu_tup (ea_cons ev_c (ea_cons (ev_isL (c := .ref D_NoName) (cv := .ref D_NoName) (b := false) (ev_var rfl) (((((e1).trans e2).trans e3).trans e4) _ _ hl) hx_NoSeen.isi ev_c one_ref (TX.y_NoSeen_NoName _ _ hx_NoSeen.at_ hx_NoName.at_).1) ea_nil)) (by show 2 ≤ 100000; decide)) (eu_tup (ea_cons ev_c (ea_cons (ev_isL (c := .ref D_NoneYet) (cv := .ref D_NoneYet) (b := false) (ev_var rfl) (((((e1).trans e2).trans e3).trans e4) _ _ hl) hx_NoSeen.isi ev_c one_ref (TX.y_NoSeen_NoneYet _ _ hx_NoSeen.at_ hx_NoneYet.at_).1) ea_nil)) (by show 2 ≤ 100000; decide)))) fun w4 H5 e5 k5 => ?_
    refine q_asgL (el_to (el_met (ev_var rfl) k5 (by decide) (fun _ _ => rfl) (fun _ => rfl) (fun _ => rfl)) (rfl : _ = [V.str "NoSeen"])) fun m H6 hm e6 h6 => ?_
    have e16 := (((((e1).trans e2).trans e3).trans e4).trans e5).trans e6
    exact s_ret (ev_if (b := true) (et_is (et_and (a := true) (b := true) (et_is (et_test (ev_eqI (ev_lenL (ev_var rfl) (SqL.of h6)) ev_c)) rfl) fun _ => et_B (ev_isL (c := .ty "ValueError") (cv := .type "ValueError") (ev_var rfl) (e16 _ _ hl) hx_NoSeen.isi ev_c (fun u hu => hu) (TX.v_NoSeen _ hx_NoSeen.at_))) rfl) (fun _ => ev_op (ev_var rfl) ev_c (rv_ixL (SqL.of h6) (at_of (j := 0) rfl rfl))) (fun z => by cases z)) fun H7 e7 => h.go (e16.trans e7)
  | false =>
    have eD : D = D_NoNumber := hD.uniq hx_NoNumber.at_
    subst eD
    refine q_asgP (evp_two (eu_tup (ea_cons ev_c (ea_cons (ev_isL (c := .ref D_NoPress) (cv := .ref D_NoPress) (b := false) (ev_var rfl) hl hx_NoNumber.isi ev_c one_ref (TX.y_NoNumber_NoPress _ _ hx_NoNumber.at_ hx_NoPress.at_).1) ea_nil)) (by show 2 ≤ 100000; decide)) (eu_tup (ea_cons ev_c (ea_cons (ev_isL (c := .ref D_TooLong) (cv := .ref D_TooLong) (b := false) (ev_var rfl) hl hx_NoNumber.isi ev_c one_ref (TX.y_NoNumber_TooLong _ _ hx_NoNumber.at_ hx_TooLong.at_).1) ea_nil)) (by show 2 ≤ 100000; decide))) fun w0 H1 e1 k1 => ?_
    refine q_asgP (evp_more (ev_var rfl) k1 (by decide) (evp_two (eu_tup (ea_cons ev_c (ea_cons (ev_isL (c := .ref D_NoText) (cv := .ref D_NoText) (b := false) (ev_var rfl) ((e1) _ _ hl) hx_NoNumber.isi ev_c one_ref (TX.y_NoNumber_NoText _ _ hx_NoNumber.at_ hx_NoText.at_).1) ea_nil)) (by show 2 ≤ 100000; decide)) (eu_tup (ea_cons ev_c (ea_cons (ev_isL (c := .ref D_NoPlace) (cv := .ref D_NoPlace) (b := false) (ev_var rfl) ((e1) _ _ hl) hx_NoNumber.isi ev_c one_ref (TX.y_NoNumber_NoPlace _ _ hx_NoNumber.at_ hx_NoPlace.at_).1) ea_nil)) (by show 2 ≤ 100000; decide)))) fun w1 H2 e2 k2 => ?_
    refine q_asgP (evp_more (ev_var rfl) k2 (by decide) (evp_two (eu_tup (ea_cons ev_c (ea_cons (ev_isL (c := .ref D_NoLetter) (cv := .ref D_NoLetter) (b := false) (ev_var rfl) (((e1).trans e2) _ _ hl) hx_NoNumber.isi ev_c one_ref (TX.y_NoNumber_NoLetter _ _ hx_NoNumber.at_ hx_NoLetter.at_).1) ea_nil)) (by show 2 ≤ 100000; decide)) (eu_tup (ea_cons ev_c (ea_cons (ev_isL (c := .ref D) (cv := .ref D) (b := true) (ev_var rfl) (((e1).trans e2) _ _ hl) hx_NoNumber.isi ev_c one_ref (TX.y_NoNumber_NoNumber _ _ hx_NoNumber.at_ hx_NoNumber.at_).1) ea_nil)) (by show 2 ≤ 100000; decide)))) fun w2 H3 e3 k3 => ?_
    refine q_asgP (evp_more (ev_var rfl) k3 (by decide) (evp_two (eu_tup (ea_cons ev_c (ea_cons (ev_isL (c := .ref D_NoSeen) (cv := .ref D_NoSeen) (b := false) (ev_var rfl) ((((e1).trans e2).trans e3) _ _ hl) hx_NoNumber.isi ev_c one_ref (TX.y_NoNumber_NoSeen _ _ hx_NoNumber.at_ hx_NoSeen.at_).1) ea_nil)) (by show 2 ≤ 100000; decide)) (eu_tup (ea_cons ev_c (ea_cons (ev_isL (c := .ref D_NoForm) (cv := .ref D_NoForm) (b := false) (ev_var rfl) ((((e1).trans e2).trans e3) _ _ hl) hx_NoNumber.isi ev_c one_ref (TX.y_NoNumber_NoForm _ _ hx_NoNumber.at_ hx_NoForm.at_).1) ea_nil)) (by show 2 ≤ 100000; decide)))) fun w3 H4 e4 k4 => ?_
    refine q_asgP (evp_more (ev_var rfl) k4 (by decide) (evp_two (eu_tup (ea_cons ev_c (ea_cons (ev_isL (c := .ref D_NoName) (cv := .ref D_NoName) (b := false) (ev_var rfl) (((((e1).trans e2).trans e3).trans e4) _ _ hl) hx_NoNumber.isi ev_c one_ref (TX.y_NoNumber_NoName _ _ hx_NoNumber.at_ hx_NoName.at_).1) ea_nil)) (by show 2 ≤ 100000; decide)) (eu_tup (ea_cons ev_c (ea_cons (ev_isL (c := .ref D_NoneYet) (cv := .ref D_NoneYet) (b := false) (ev_var rfl) (((((e1).trans e2).trans e3).trans e4) _ _ hl) hx_NoNumber.isi ev_c one_ref (TX.y_NoNumber_NoneYet _ _ hx_NoNumber.at_ hx_NoneYet.at_).1) ea_nil)) (by show 2 ≤ 100000; decide)))) fun w4 H5 e5 k5 => ?_
    refine q_asgL (el_to (el_met (ev_var rfl) k5 (by decide) (fun _ _ => rfl) (fun _ => rfl) (fun _ => rfl)) (rfl : _ = [V.str "NoNumber"])) fun m H6 hm e6 h6 => ?_
    have e16 := (((((e1).trans e2).trans e3).trans e4).trans e5).trans e6
    exact s_ret (ev_if (b := true) (et_is (et_and (a := true) (b := true) (et_is (et_test (ev_eqI (ev_lenL (ev_var rfl) (SqL.of h6)) ev_c)) rfl) fun _ => et_B (ev_isL (c := .ty "ValueError") (cv := .type "ValueError") (ev_var rfl) (e16 _ _ hl) hx_NoNumber.isi ev_c (fun u hu => hu) (TX.v_NoNumber _ hx_NoNumber.at_))) rfl) (fun _ => ev_op (ev_var rfl) ev_c (rv_ixL (SqL.of h6) (at_of (j := 0) rfl rfl))) (fun z => by cases z)) fun H7 e7 => h.go (e16.trans e7)
/-- what is asked, and what is due: none, NoSeen, NoNumber -/
def AskK (K : PySem.W.Frag) (H : Hp) (v n : V) (k : Nat) : Prop := match k with
  | 0 => ∃ (ps : List (List Nat)) (L : Nat), Sq H v (ps.map T) ∧ ps ≠ [] ∧ ps.length ≤ 4 ∧ (∀ p ∈ ps, Seen p ∧ p.length ≤ 4000) ∧ n = .int (L : Int) ∧ 1 ≤ L ∧ L ≤ 10
  | 1 => BadPs K H v
  | _ => GoodPs H v ∧ BadL K H n
theorem AskK.ex {H H' : Hp} {v n : V} {k : Nat} (e : Ex H H') (h : AskK K H v n k) : AskK K H' v n k := by
  match k, h with
  | 0, ⟨ps, L, h1, h2⟩ => exact ⟨ps, L, h1.ex e, h2⟩
  | 1, h => exact BadPs.ex e h
  | k + 2, h => exact ⟨GoodPs.ex e h.1, BadL.ex e h.2⟩
def dueS : Nat → Str
  | 0 => "none"
  | 1 => "NoSeen"
  | _ => "NoNumber"
def sp_law_asked (K : PySem.W.Frag) : Sp := fun vs H Q _ => ∃ (v n : V) (k : Nat), vs = [v, n] ∧ AskK K H v n k ∧ RetV (.str (dueS k)) H Q
theorem ok_law_asked (TX : Txt K mg) : Has P w K mg base CX0 20 "_law_asked" ["pieces", "size"] (sp_law_asked K) := by
  have h_known_from := ok_known_from (P := P) (w := w) (base := base) TX
  have hX_known_from := okX_known_from (P := P) (w := w) (base := base) TX
  have h_law_kind_of := ok_law_kind_of (P := P) (w := w) (base := base) TX
  obtain ⟨D_PrintError, hx_PrintError⟩ := TX.x_PrintError
  obtain ⟨D_NoSeen, hx_NoSeen⟩ := TX.x_NoSeen
  obtain ⟨D_NoNumber, hx_NoNumber⟩ := TX.x_NoNumber
  refine TX.a_law_asked.ok sc_law_asked (fun vs H Q E h => ?_) (fun f cdv A outer s H vs Q E hr h => ?_)
  · obtain ⟨_, _, _, rfl, _⟩ := h
    rfl
  obtain ⟨v, n, k, rfl, hk, h⟩ := h
  refine ⟨_, (pss_cons (ps_set (i := 2) sc_law_asked.nd rfl (Or.inl rfl) pe_non)
        (pss_cons (REX.ps_try_lain (i := 3) rfl rfl sc_law_asked.nd rfl rfl ⟨rfl, by decide, .inl hx_PrintError.mg⟩ (fun W pn xe tk _ => (pss_one (ps_expr (RS.pe_or2 (pe_has h_known_from (hr.mono (by omega)) pass0 (pa_cons (pv 0) (pa_cons (pv 1) pa_nil))) (REX.pe_hasX hX_known_from (hr.mono (by omega)) (fun σ => passAt tk σ) (pa_cons (pv 0) (pa_cons (pv 1) pa_nil))))))) (fun a oe cls d pn hz hf => (pss_one (ps_set (i := 2) sc_law_asked.nd rfl (Or.inl rfl) (pv 3)))))
        (pss_one (ps_ret (pe_ifExp (pt_cmpR op_isN (pv 2) pe_non (nomark _)) pe_str (pe_has h_law_kind_of (hr.mono (by omega)) pass0 (pa_cons (pv 2) pa_nil))))))), ?_⟩
  refine q_asg (v := .non) ev_c fun H1 e1 => ?_
  have e1z := e1
  rcases k with _ | _ | k
  · obtain ⟨ps, L, hs, hne, h4, hp, rfl, L1, L10⟩ := hk
    refine q_tryS (A := RWY.setK L ps) (es_call (ea_cons (ev_var rfl) (ea_cons (ev_var rfl) ea_nil)) fun H2 e2 Q q E => ⟨v, ps, L, rfl, ⟨⟨hs.ex (e1.trans e2), hne, h4, hp⟩, L1, L10⟩, q⟩) fun H2 e2 => ?_
    exact s_ret (ev_if (b := true) (et_is (et_test (ev_isN (x := .non) (ev_var rfl) ev_c)) (by simp)) (fun _ => ev_c) (fun z => by cases z)) fun H3 e3 => h.go ((e1.trans e2).trans e3)
  · refine q_tryR (vs := [v, n]) (ea_cons (ev_var rfl) (ea_cons (ev_var rfl) ea_nil)) fun H2 e2 Q => ?_
    refine ⟨v, n, rfl, .inl ⟨BadPs.ex (e1.trans e2) hk, fun D hD H3 e3 => ?_⟩⟩
    have eD : D = D_NoSeen := hD.uniq hx_NoSeen.at_
    subst eD
    have e13 := (e1.trans e2).trans e3
    refine ⟨(TX.y_NoSeen_PrintError _ _ hx_NoSeen.at_ hx_PrintError.at_).2, fun a ha => ?_⟩
    refine s_asg (ev_var rfl) fun H5 e5 => ?_
    have e6 : Ex H (upd H5 a (REX.Lain a (.ref D) none)) := (e13.trans e5).mut (fresh_back e13 ha)
    have hl : (upd H5 a (REX.Lain a (.ref D) none)) a = some (REX.Lain a (.ref D) none) := upd_same
    dsimp only [REX.Behind]
    generalize (upd H5 a (REX.Lain a (.ref D) none)) = H6 at *
    exact s_ret (ev_if (b := false) (et_is (et_test (ev_isN (x := .ref a) (ev_var rfl) ev_c)) (by simp)) (fun z => by cases z) (fun _ => ev_call (z := .str "NoSeen") (ea_cons (ev_var rfl) ea_nil) fun H7 e7 Q q E => ⟨a, D, true, rfl, ⟨e7 _ _ hl, hx_NoSeen.at_⟩, q⟩)) fun H8 e8 => h.go (e6.trans e8)
  · refine q_tryR (vs := [v, n]) (ea_cons (ev_var rfl) (ea_cons (ev_var rfl) ea_nil)) fun H2 e2 Q => ?_
    refine ⟨v, n, rfl, .inr ⟨GoodPs.ex (e1.trans e2) hk.1, BadL.ex (e1.trans e2) hk.2, fun D hD H3 e3 => ?_⟩⟩
    have eD : D = D_NoNumber := hD.uniq hx_NoNumber.at_
    subst eD
    have e13 := (e1.trans e2).trans e3
    refine ⟨(TX.y_NoNumber_PrintError _ _ hx_NoNumber.at_ hx_PrintError.at_).2, fun a ha => ?_⟩
    refine s_asg (ev_var rfl) fun H5 e5 => ?_
    have e6 : Ex H (upd H5 a (REX.Lain a (.ref D) none)) := (e13.trans e5).mut (fresh_back e13 ha)
    have hl : (upd H5 a (REX.Lain a (.ref D) none)) a = some (REX.Lain a (.ref D) none) := upd_same
    dsimp only [REX.Behind]
    generalize (upd H5 a (REX.Lain a (.ref D) none)) = H6 at *
    exact s_ret (ev_if (b := false) (et_is (et_test (ev_isN (x := .ref a) (ev_var rfl) ev_c)) (by simp)) (fun z => by cases z) (fun _ => ev_call (z := .str "NoNumber") (ea_cons (ev_var rfl) ea_nil) fun H7 e7 Q q E => ⟨a, D, false, rfl, ⟨e7 _ _ hl, hx_NoNumber.at_⟩, q⟩)) fun H8 e8 => h.go (e6.trans e8)
end
end X

namespace X
open PySem PySem.Spec PyProof.Rows L2 Evl TL RC RA RD RE RF RG RH RI RL RS RP RQ RR RT RDI RU RV RX RY RZ1 RO RO1 RM RO2 RK RN RLS RST RTU RSP RSU RLT RPL RPT RPI RMB RMX RMC RMU RFZ RWD RPB RUX RLO RSK RWY RSL RGU RSH REX RXW RRZ
section
variable {P : Program} {w : World} {K : PySem.W.Frag} {mg : Str → Option Value} {base : Heap}
/-! ### what is shown, dicts within -/
structure Sw (d : PyData) (n m : Nat) : Prop where
  sh : d.showable = true
  dep : d.depth ≤ n
  wt : d.weight ≤ m
  lv : d.leavesShort 121 = true
structure SwL (ds : List PyData) (n m : Nat) : Prop where
  sh : PyData.showableAll ds = true
  dep : PyData.depthAll ds ≤ n
  wt : PyData.weightAll ds ≤ m
  lv : PyData.leavesShortAll 121 ds = true
theorem sw_nil {n : Nat} : SwL [] n 0 := ⟨rfl, Nat.zero_le _, Nat.le_refl _, rfl⟩
theorem sw_cons {d : PyData} {ds : List PyData} {n m m' : Nat} (h : Sw d n m) (t : SwL ds n m') : SwL (d :: ds) n (m + 1 + m') := by
  refine ⟨?_, ?_, ?_, ?_⟩
  · show (d.showable && PyData.showableAll ds) = true
    rw [h.sh, t.sh]
    rfl
  · have := h.dep
    have := t.dep
    show max d.depth (PyData.depthAll ds) ≤ n
    omega
  · have := h.wt
    have := t.wt
    show d.weight + 1 + PyData.weightAll ds ≤ m + 1 + m'
    omega
  · show (d.leavesShort 121 && PyData.leavesShortAll 121 ds) = true
    rw [h.lv, t.lv]
    rfl
theorem sw_list {ds : List PyData} {n m : Nat} (h : SwL ds n m) : Sw (.list ds) (n + 1) m := ⟨h.sh, Nat.succ_le_succ h.dep, h.wt, h.lv⟩
theorem sw_dict0 {n m : Nat} : Sw (.dict []) (n + 1) m := ⟨rfl, by show 0 + 1 ≤ n + 1; omega, Nat.zero_le _, rfl⟩
theorem sw_of {d : PyData} {n m : Nat} (h : RSH.Sh d n m) : Sw d n m := ⟨h.sh, h.dep, h.wt, h.lv⟩
theorem Sw.len {d : PyData} {n m : Nat} (h : Sw d n m) (hm : m ≤ 130000) : d.shown.length ≤ sizeLine := by
  have h1 := PyData.shown_le 121 (by decide) d h.lv
  have h2 := h.wt
  have : (121 + 2) * d.weight ≤ (121 + 2) * 130000 := Nat.mul_le_mul_left _ (by omega)
  rw [big]
  omega
theorem dzAll_of {H : Hp} {n m : Nat} : ∀ {xs : List V}, (∀ x ∈ xs, ∃ d, RRZ.Dz H x d ∧ Sw d n m) → ∃ ds, RRZ.DzAll H xs ds ∧ SwL ds n ((m + 1) * xs.length)
  | [], _ => ⟨[], .nil, by rw [List.length_nil, Nat.mul_zero]; exact sw_nil⟩
  | x :: r, h => by
    obtain ⟨d, h1, h2⟩ := h x List.mem_cons_self
    obtain ⟨ds, h3, h4⟩ := dzAll_of (xs := r) fun y hy => h y (List.mem_cons_of_mem _ hy)
    exact ⟨d :: ds, .cons h1 h3, by rw [List.length_cons, Nat.mul_succ, Nat.add_comm]; exact sw_cons h2 h4⟩
theorem dpAll_of {H : Hp} {m : Nat} : ∀ {xs : List V}, (∀ x ∈ xs, ∃ d, Dp K H x d ∧ RSH.Sh d 1 m) → ∃ ds, DpAll K H xs ds ∧ RSH.ShL ds 1 ((m + 1) * xs.length)
  | [], _ => ⟨[], .nil, by rw [List.length_nil, Nat.mul_zero]; exact ⟨rfl, rfl, Nat.zero_le _, Nat.le_refl _, rfl⟩⟩
  | x :: r, h => by
    obtain ⟨d, h1, h2⟩ := h x List.mem_cons_self
    obtain ⟨ds, h3, h4⟩ := dpAll_of (xs := r) fun y hy => h y (List.mem_cons_of_mem _ hy)
    refine ⟨d :: ds, .cons h1 h3, ?_⟩
    have := RSH.sh_cons h2 h4
    rw [Nat.max_self] at this
    rw [List.length_cons, Nat.mul_succ, Nat.add_comm]
    exact this
/-- what is shown by a text -/
def Shown (K : PySem.W.Frag) (H : Hp) (v : V) (x : Str) : Prop := (∃ d, Dp K H v d ∧ RSH.Sh d 3 5000 ∧ x = d.shown) ∨ ∃ a d, v = .ref a ∧ RRZ.Dz H (.ref a) d ∧ Sw d 3 5000 ∧ x = d.shown
theorem Shown.ex {H H' : Hp} {v : V} {x : Str} (e : Ex H H') (h : Shown K H v x) : Shown K H' v x := by
  rcases h with ⟨d, h1, h2⟩ | ⟨a, d, h1, h2, h3⟩
  · exact .inl ⟨d, dp_ex e d h1, h2⟩
  · exact .inr ⟨a, d, h1, RRZ.dz_ex e d h2, h3⟩
theorem ev_show {σ : L2.St} {H : Hp} {te : TE} {v : V} {x : Str} (h : Ev te σ H v) (hs : Shown K H v x) : Ev (fun σ H Q => tCB (rRep K) (tCons te tNil) σ H Q ∨ tCB RRZ.rRepZ (tCons te tNil) σ H Q) σ H (.str x) := by
  rcases hs with ⟨d, h1, h2, rfl⟩ | ⟨a, d, rfl, h2, h3, rfl⟩
  · exact fun H1 e Q q => .inl (RSH.ev_rep h2 (by decide) (by decide) (RSH.shp_ev h h1) H1 e Q q)
  · exact fun H1 e Q q => .inr (RRZ.ev_repZ h h2 h3.sh (Nat.le_trans h3.dep (by decide)) (h3.len (by decide)) H1 e Q q)
/-! ### odd things, bad pieces -/
def OddZ (v : V) (G : Hp) : Prop := OddS K G v ∧ ((∃ d, Dp K G v d ∧ RSH.Sh d 1 400) ∨ ∃ a, v = .ref a ∧ G a = some (.dK []))
theorem oddZ_m : ∀ (v : V) (G1 G2 : Hp), Ex G1 G2 → OddZ (K := K) v G1 → OddZ (K := K) v G2 := fun v G1 G2 e ⟨h1, h2⟩ => ⟨h1.ex e, by
  rcases h2 with ⟨d, g1, g2⟩ | ⟨a, g1, g2⟩
  · exact .inl ⟨d, dp_ex e d g1, g2⟩
  · exact .inr ⟨a, g1, e _ _ g2⟩⟩
def BadZ (v : V) (G : Hp) : Prop := BadPs K G v ∧ ∃ x, Shown K G v x
theorem badZ_m : ∀ (v : V) (G1 G2 : Hp), Ex G1 G2 → BadZ (K := K) v G1 → BadZ (K := K) v G2 := fun v G1 G2 e ⟨h1, x, h2⟩ => ⟨h1.ex e, x, h2.ex e⟩
theorem sgz_low : ∀ c ∈ SGZ, c < 4096 := by decide
theorem pcz_seen {rim p : List Nat} (h : PcZ rim p) : Seen p ∧ p.length ≤ 4000 := by
  obtain ⟨⟨g1, g2, g3⟩, _⟩ := h
  exact ⟨⟨fun z => by rw [z] at g1; simp at g1, by omega, fun c hc => sgz_signs c (g3 c hc)⟩, by omega⟩
theorem txt_sh {l : List Nat} (h : ∀ c ∈ l, c < 4096) (hl : l.length ≤ 400) : RSH.Sh (.str (S l)) 1 400 := (RSH.sh_str h).mono (by decide) hl
/-- a list with one odd thing among pieces -/
theorem bad_one {H : Hp} {p : Addr} {rim : List Nat} {as bs : List (List Nat)} {v : V} (h0 : sysModules < p) (hp : H p = some (.lst ((as.map T ++ [v]) ++ bs.map T))) (ha : ∀ q ∈ as, PcZ rim q) (hb : ∀ q ∈ bs, PcZ rim q) (hl : as.length + bs.length ≤ 6) (hv : OddZ (K := K) v H) : BadZ (K := K) (.ref p) H := by
  have hmem : ∀ x ∈ (as.map T ++ [v]) ++ bs.map T, x = v ∨ ∃ q, x = T q ∧ PcZ rim q := fun x hx => by
    rcases List.mem_append.mp hx with hx | hx
    · rcases List.mem_append.mp hx with hx | hx
      · obtain ⟨q, hq, rfl⟩ := List.mem_map.mp hx
        exact .inr ⟨q, rfl, ha q hq⟩
      · exact .inl (List.mem_singleton.mp hx)
    · obtain ⟨q, hq, rfl⟩ := List.mem_map.mp hx
      exact .inr ⟨q, rfl, hb q hq⟩
  have hlen : ((as.map T ++ [v]) ++ bs.map T).length ≤ 7 := by
    rw [List.length_append, List.length_append, List.length_map, List.length_map, List.length_singleton]
    omega
  refine ⟨⟨_, ⟨p, rfl, .inl hp⟩, by omega, .inr ⟨as.length, fun i x hi hx => ?_, v, ?_, hv.1⟩⟩, ?_⟩
  · rw [List.append_assoc, List.getElem?_append_left (by rw [List.length_map]; exact hi), List.getElem?_map] at hx
    cases c : as[i]? with
    | none => rw [c] at hx; cases hx
    | some q =>
      rw [c] at hx
      cases hx
      exact ⟨q, rfl, (pcz_seen (ha q (List.mem_of_getElem? c))).1⟩
  · rw [List.append_assoc, List.getElem?_append_right (by rw [List.length_map]; exact Nat.le_refl _), List.length_map, Nat.sub_self]
    rfl
  · have tx : ∀ q, PcZ rim q → RSH.Sh (.str (S q)) 1 400 := fun q h => txt_sh (fun c hc => sgz_low c (h.1.2.2 c hc)) (by have := h.1.2.1; omega)
    generalize (as.map T ++ [v]) ++ bs.map T = xs at *
    have hm : 401 * xs.length ≤ 5000 := by omega
    rcases hv.2 with ⟨d, g1, g2⟩ | ⟨a, rfl, g2⟩
    · obtain ⟨ds, k1, k2⟩ := dpAll_of (K := K) (H := H) (m := 400) (xs := xs) fun x hx => by
        rcases hmem x hx with rfl | ⟨q, rfl, hq⟩
        · exact ⟨d, g1, g2⟩
        · exact ⟨_, .str _, tx q hq⟩
      exact ⟨_, .inl ⟨.list ds, .lst (SqL.of hp) k1, (RSH.sh_list k2).mono (by decide) hm, rfl⟩⟩
    · obtain ⟨ds, k1, k2⟩ := dzAll_of (H := H) (n := 1) (m := 400) (xs := xs) fun x hx => by
        rcases hmem x hx with rfl | ⟨q, rfl, hq⟩
        · exact ⟨.dict [], .dict g2, sw_dict0⟩
        · exact ⟨_, .str _, sw_of (tx q hq)⟩
      exact ⟨_, .inr ⟨p, .list ds, rfl, .lst h0 hp k1, ⟨(sw_list k2).sh, Nat.le_trans (sw_list k2).dep (by decide), Nat.le_trans (sw_list k2).wt hm, (sw_list k2).lv⟩, rfl⟩⟩
theorem bad_nil {H : Hp} {p : Addr} (hp : H p = some (.lst []) ∨ H p = some (.tup [])) : BadZ (K := K) (.ref p) H := by
  refine ⟨⟨[], ⟨p, rfl, hp.imp id fun h => .inl h⟩, by decide, .inl rfl⟩, ?_⟩
  rcases hp with hp | hp
  · exact ⟨_, .inl ⟨.list [], .lst (SqL.of hp) .nil, ⟨rfl, rfl, by decide, by decide, rfl⟩, rfl⟩⟩
  · exact ⟨_, .inl ⟨.tuple [], .tup (SqT.of hp) .nil, ⟨rfl, rfl, by decide, by decide, rfl⟩, rfl⟩⟩
theorem good_show {H : Hp} {p : Addr} {rim : List Nat} {ps : List (List Nat)} (hp : H p = some (.lst (ps.map T))) (h : ∀ q ∈ ps, PcZ rim q) (hl : ps.length ≤ 3) : ∃ x, Shown K H (.ref p) x := by
  obtain ⟨ds, k1, k2⟩ := dpAll_of (K := K) (H := H) (m := 400) (xs := ps.map T) fun x hx => by
    obtain ⟨q, hq, rfl⟩ := List.mem_map.mp hx
    exact ⟨_, .str _, txt_sh (fun c hc => sgz_low c ((h q hq).1.2.2 c hc)) (by have := (h q hq).1.2.1; omega)⟩
  exact ⟨_, .inl ⟨.list ds, .lst (SqL.of hp) k1, (RSH.sh_list k2).mono (by decide) (by rw [List.length_map]; omega), rfl⟩⟩
theorem odd_txt {G : Hp} {l : List Nat} (h : l = [] ∨ ∃ d ∈ l, d ∉ SIGNS) (hc : ∀ c ∈ l, c < 4096) (hl : l.length ≤ 100) : OddZ (K := K) (T l) G :=
  ⟨.inl ⟨l, rfl, by omega, h, fun c hx => Nat.lt_trans (hc c hx) (by decide)⟩, .inl ⟨_, .str _, txt_sh hc (by omega)⟩⟩
theorem odd_ty {v : V} {G : Hp} {n : String} {d : PyData} (hk : PySem.W.kitOne K (.type n) (.type "str") = some false) (h : ∀ H1, Ex G H1 → TyX K H1 v (.type n)) (hd : Dp K G v d) (hs : RSH.Sh d 1 400) : OddZ (K := K) v G := ⟨.inr ⟨_, hk, h⟩, .inl ⟨d, hd, hs⟩⟩
theorem cutV_drop (xs : List V) (k : Nat) : cutV xs (some (k : Int)) none = xs.drop k := by
  unfold cutV
  rw [HT.sIx_none, HT.sIx_nat]
  by_cases h : k ≤ xs.length
  · rw [Nat.min_eq_left h, List.take_of_length_le (by rw [List.length_drop]; omega)]
  · rw [Nat.min_eq_right (by omega), List.drop_of_length_le (Nat.le_refl _), List.drop_of_length_le (by omega), List.take_nil]
/-! ### draws -/
section
variable {R : Hp → Prop} {b : Addr} {σ : L2.St} {H0 G0 G H : Hp} {te ta tb tk t1 t2 t3 : TE} {tr : TA} {tz tu : TS} {t : TT} {D : Ends} {xs ys : List V}
theorem ead_all0 {A : V → Hp → Prop} : EvAD R b tNil σ G (fun vs G' => vs.length = 0 ∧ ∀ v ∈ vs, A v G') := ead_imp ead_nil fun vs _ _ h => by
  subst h
  exact ⟨rfl, fun v hv => by cases hv⟩
theorem ead_all {A : V → Hp → Prop} {n : Nat} (m : ∀ v G1 G2, Ex G1 G2 → A v G1 → A v G2) (h : EvD R b te σ G A) (hr : ∀ G1, Ex G G1 → EvAD R b tr σ G1 (fun vs G' => vs.length = n ∧ ∀ v ∈ vs, A v G')) : EvAD R b (tCons te tr) σ G (fun vs G' => vs.length = n + 1 ∧ ∀ v ∈ vs, A v G') := ead_imp (ead_cons h m hr) fun vs G1 e ⟨v, r, h1, h2, h3, h4⟩ => ⟨by rw [h1, List.length_cons, h3], fun w hw => by
  rw [h1] at hw
  rcases List.mem_cons.mp hw with z | z
  · rw [z]
    exact h2
  · exact h4 w z⟩
theorem ed_pick {A : V → Hp → Prop} {n : Nat} (Dw : Drw R b) (m : ∀ v G1 G2, Ex G1 G2 → A v G1 → A v G2) (h : EvAD R b tr σ G (fun vs G' => vs.length = n ∧ ∀ v ∈ vs, A v G')) (hn : n ≤ 100) (hk : ∀ G1, Ex G G1 → EvD R b tk σ G1 (fun v _ => ∃ k : Nat, v = .int (k : Int) ∧ k < n)) : EvD R b (tOp (rIxL K) (tLst tr) tk) σ G A :=
  ed_op (P1 := fun v G' => ∃ p xs, v = .ref p ∧ G' p = some (.lst xs) ∧ xs.length = n ∧ ∀ v ∈ xs, A v G') (ed_lst Dw (fun vs G1 G2 e h => ⟨h.1, fun v hv => m v _ _ e (h.2 v hv)⟩) (fun vs _ h => by rw [h.1]; exact hn) h) (fun v G1 G2 e ⟨p, xs, h1, h2, h3, h4⟩ => ⟨p, xs, h1, e _ _ h2, h3, fun v hv => m v _ _ e (h4 v hv)⟩) hk fun x y H G1 hR e e1 ⟨p, xs, h1, h2, h3, h4⟩ ⟨k, h5, h6⟩ Q q => by
    subst h1 h5
    have hk : k < xs.length := by omega
    exact ⟨p, xs, (k : Int), xs[k], rfl, rfl, SqL.of (Hd_sub b H _ _ (e1 _ _ h2)), atI_nat (List.getElem?_eq_getElem hk), q _ H G1 hR (Stp.refl e1) (h4 _ (List.getElem_mem hk))⟩
theorem ed_dict0 (Dw : Drw R b) : EvD R b tDNewK σ G (fun v G' => ∃ a, v = .ref a ∧ G' a = some (.dK [])) := fun H hR e Q q p hp => by
  obtain ⟨r2, x2⟩ := Dw.stpNew (o := .dK []) hR e hp
  exact q _ _ _ r2 x2 ⟨p, rfl, upd_same⟩
/-- a new list, and where it lies -/
def EvLZ (te : TE) (σ : L2.St) (H : Hp) (xs : List V) : Prop := ∀ H1, Ex H H1 → ∀ Q : VK, (∀ p H2, H1 p = none → sysModules < p → Ex H1 H2 → H2 p = some (.lst xs) → Q (.ref p) H2) → te σ H1 Q
theorem EvLZ.el (h : EvLZ te σ H xs) : EvL te σ H xs := fun H1 e Q q => h H1 e Q fun p H2 hp _ e2 h2 => q p H2 hp e2 h2
theorem el_catZ (h : EvL ta σ H xs) (hb : EvL tb σ H ys) (hl : xs.length + ys.length ≤ 1000) : EvLZ (tOp RRZ.rCatZ ta tb) σ H (xs ++ ys) := fun H1 e Q q =>
  h H1 e _ fun p H2 _ e2 hp => hb H2 (e.trans e2) _ fun m H3 _ e3 hm => ⟨p, m, xs, ys, rfl, rfl, e3 p _ hp, hm, by rw [big]; omega, fun n hn hz => q n _ (fresh_back (e2.trans e3) hn) hz ((e2.trans e3).trans (Ex.new hn)) upd_same⟩
theorem ed_elZ (Dw : Drw R b) (h : EvLZ te σ G xs) : EvD R b te σ G (fun v G' => ∃ p, v = .ref p ∧ sysModules < p ∧ G' p = some (.lst xs)) := fun H hR e Q q =>
  h H (e.trans (Hd_sub b H)) _ fun p H1 hp hz e1 h1 => by
    have hn := Dw.fresh hR hp
    have hd : Hd b H p = none := by rw [Hd_no hn]; exact hp
    obtain ⟨r1, x1⟩ := Dw.ex hR e1
    have hn1 : ¬ owns b H1 p := fun c => by
      obtain ⟨xs, h2, _⟩ := Dw.lst hR
      exact hn ((owns_of (by rw [h2, e1 _ _ h2])).mp c)
    refine q _ H1 (upd G p (.lst xs)) r1 ⟨x1, ex_dom e1, Ex.new (fresh_back e hd), fun a o ha => ?_, fun a h => upd_ne fun z => h (z ▸ hp)⟩ ⟨p, rfl, hz, upd_same⟩
    by_cases c : a = p
    · subst c
      rw [upd_same] at ha
      rw [Hd_no hn1, h1, ha]
    · rw [upd_ne c] at ha
      exact x1 _ _ (e _ _ ha)
/-- an if whose test draws, its way changing what is known -/
theorem sd_whenDK {Pz : L2.St → Hp → Prop} (h : EvD R b te σ G (fun v _ => ∃ c : Bool, v = .bl c)) (h1 : ∀ G1, Ex G G1 → (∀ σ' G2, Ex G1 G2 → Pz σ' G2 → StD R b H0 G0 tz D σ' G2) → StD R b H0 G0 tu { D with nx := tz D } σ G1) (h2 : ∀ G1, Ex G G1 → Pz σ G1)
    (rest : ∀ σ' G2, Ex G G2 → Pz σ' G2 → StD R b H0 G0 tz D σ' G2) : StD R b H0 G0 (tSeq (tIfS (tTest te) tu tNext) tz) D σ G :=
  RWD.sd_whenD h (fun G1 e1 => h1 G1 e1 fun σ' G2 e2 hp => rest σ' G2 (e1.trans e2) hp) fun G1 e1 => rest σ G1 e1 (h2 G1 e1)
/-- a list of three tuples -/
theorem q_rows {i : Nat} {r1 r2 r3 : List V} (h1 : EvU t1 σ H r1) (h2 : EvU t2 σ H r2) (h3 : EvU t3 σ H r3) (k : ∀ l p1 p2 p3 H1, H l = none → Ex H H1 → H1 l = some (.lst [.ref p1, .ref p2, .ref p3]) → H1 p1 = some (.tup r1) → H1 p2 = some (.tup r2) → H1 p3 = some (.tup r3) → tz D (σ.set i (some (.ref l))) H1) :
    tSeq (tAsg (tLst (tCons t1 (tCons t2 (tCons t3 tNil)))) (gName i)) tz D σ H :=
  h1 H (Ex.refl H) _ fun p1 H1 n1 e1 g1 => h2 H1 e1 _ fun p2 H2 n2 e2 g2 => h3 H2 (e1.trans e2) _ fun p3 H3 n3 e3 g3 => ⟨sz_of (show 3 ≤ 100000 by decide), fun l hl =>
    k l p1 p2 p3 _ (fresh_back ((e1.trans e2).trans e3) hl) (((e1.trans e2).trans e3).trans (Ex.new hl)) upd_same (Ex.new hl _ _ ((e2.trans e3) _ _ g1)) (Ex.new hl _ _ (e3 _ _ g2)) (Ex.new hl _ _ g3)⟩
end
/-- a row: what is handed, a length, what is due -/
def RowK (H : Hp) (q : V) : Prop := ∃ (r : Addr) (v n : V) (k : Nat) (x : Str), q = .ref r ∧ H r = some (.tup [v, n, .str (dueS k)]) ∧ AskK K H v n k ∧ Shown K H v x
theorem RowK.ex {H H' : Hp} {q : V} (e : Ex H H') (h : RowK (K := K) H q) : RowK (K := K) H' q := by
  obtain ⟨r, v, n, k, x, h1, h2, h3, h4⟩ := h
  exact ⟨r, v, n, k, x, h1, e _ _ h2, h3.ex e, h4.ex e⟩
/-- sizes that are none -/
def BadN (v : V) (G : Hp) : Prop := BadL K G v
theorem badN_m : ∀ (v : V) (G1 G2 : Hp), Ex G1 G2 → BadN (K := K) v G1 → BadN (K := K) v G2 := fun v G1 G2 e h => BadL.ex e h
def sp_law (K : PySem.W.Frag) : Sp := fun vs H Q _ => ∃ (a : Addr) (ns : List Int), vs = [.ref a] ∧ (SqL K H a (ns.map V.int) ∧ ns.length ≤ 63) ∧ ∀ H', Q (.bl true) H'
theorem sp_law_start {a : Addr} {ns : List Int} {H : Hp} (hl : ns.length ≤ 63) (hO : Only H) (hS : SqL K H a (ns.map V.int)) : sp_law K [.ref a] H (fun v _ => v = .bl true) fun _ _ _ => False :=
  ⟨a, ns, rfl, ⟨hS, hl⟩, fun _ => rfl⟩
theorem ok_law {f : Addr} {fd : FuncData} (F : Fun K "law" "law" s_law f fd) (TX : Txt K mg) : RGU.LawOk P w K mg base 90 f fd ["script"] (sp_law K) := by
  have h_law_reel := ok_law_reel (P := P) (w := w) (base := base) TX
  have h_law_rim := ok_law_rim (P := P) (w := w) (base := base) TX
  have h_law_draw := ok_law_draw (P := P) (w := w) (base := base) TX
  have h_law_pieces := ok_law_pieces (P := P) (w := w) (base := base) TX
  have h_law_asked := ok_law_asked (P := P) (w := w) (base := base) TX
  refine RGU.lawOk F sc_law (fun vs H Q E h => ?_) (fun cdv s H vs Q E hr h => ?_)
  · obtain ⟨a, ns, rfl, _⟩ := h
    rfl
  obtain ⟨a, ns, rfl, h⟩ := h
  refine ⟨_, (pss_cons (ps_set (i := 1) sc_law.nd rfl (Or.inl rfl) (pe_has h_law_reel (hr.mono (by omega)) pass0 (pa_cons (pv 0) pa_nil)))
        (pss_cons (ps_for PassesOwn.never rfl (pi_range1 (by rfl) TX.n_range (pa_cons (pe_op op_add pe_int (pe_callB (call_min2 rfl) (by rfl) TX.n_min bt_min (pa_cons (pe_callB (r := rLenL K) call_lenL (by rfl) TX.n_len bt_len (pa_cons (pv 0) pa_nil)) (pa_cons pe_int pa_nil)))) pa_nil)) (pg_name (i := 2) sc_law.nd rfl (Or.inl rfl)) (pss_cons (ps_set (i := 3) sc_law.nd rfl (Or.inl rfl) (pe_has h_law_rim (hr.mono (by omega)) pass0 (pa_cons (pv 1) (pa_cons (pe_op op_add pe_int (pe_has h_law_draw (hr.mono (by omega)) pass0 (pa_cons (pv 1) (pa_cons pe_int pa_nil)))) pa_nil))))
        (pss_cons (ps_set (i := 4) sc_law.nd rfl (Or.inl rfl) (pe_has h_law_pieces (hr.mono (by omega)) pass0 (pa_cons (pv 1) (pa_cons (pv 3) pa_nil))))
        (pss_cons (ps_set (i := 5) sc_law.nd rfl (Or.inl rfl) (pe_has h_law_draw (hr.mono (by omega)) pass0 (pa_cons (pv 1) (pa_cons (pe_callB (r := rLenL K) call_lenL (by rfl) TX.n_len bt_len (pa_cons (pv 4) pa_nil)) pa_nil))))
        (pss_cons (ps_set (i := 6) sc_law.nd rfl (Or.inl rfl) (pe_ix ix_list (pe_lst (pa_cons pe_str (pa_cons pe_str (pa_cons pe_str (pa_cons pe_str (pa_cons pe_str (pa_cons pe_non (pa_cons pe_int (pa_cons pe_bl (pa_cons (pe_lst (pa_cons pe_str pa_nil)) (pa_cons (pe_tup (pa_cons pe_str pa_nil)) (pa_cons pe_dnewK (pa_cons pe_str pa_nil))))))))))))) (pe_has h_law_draw (hr.mono (by omega)) pass0 (pa_cons (pv 1) (pa_cons pe_int pa_nil))) (fun _ _ => rfl)))
        (pss_cons (ps_set (i := 7) sc_law.nd rfl (Or.inl rfl) (pe_ix ix_list (pe_lst (pa_cons (pe_op RRZ.op_catZ (pe_op RRZ.op_catZ (pe_slice sl_list (pv 4) po_none (po_some (pv 5))) (pe_lst (pa_cons (pv 6) pa_nil))) (pe_slice sl_list (pv 4) (po_some (pe_op op_add (pv 5) pe_int)) po_none)) (pa_cons (pe_op RRZ.op_catZ (pe_slice sl_list (pv 4) po_none (po_some pe_int)) (pe_lst (pa_cons (pv 6) pa_nil))) (pa_cons (pe_lst pa_nil) (pa_cons (pe_tup pa_nil) pa_nil))))) (pe_has h_law_draw (hr.mono (by omega)) pass0 (pa_cons (pv 1) (pa_cons pe_int pa_nil))) (fun _ _ => rfl)))
        (pss_cons (ps_set (i := 8) sc_law.nd rfl (Or.inl rfl) (pe_ix ix_list (pe_lst (pa_cons pe_int (pa_cons (pe_un un_neg pe_int) (pa_cons pe_bl (pa_cons pe_bl (pa_cons pe_non (pa_cons pe_str (pa_cons (pe_lst (pa_cons pe_int pa_nil)) (pa_cons (pe_op op_sub pe_int (pe_op op_pow pe_int pe_int)) pa_nil))))))))) (pe_has h_law_draw (hr.mono (by omega)) pass0 (pa_cons (pv 1) (pa_cons pe_int pa_nil))) (fun _ _ => rfl)))
        (pss_cons (ps_if (pt_cmpR op_eq (pe_has h_law_draw (hr.mono (by omega)) pass0 (pa_cons (pv 1) (pa_cons pe_int pa_nil))) pe_int (nomark _)) (pss_one (ps_set (i := 8) sc_law.nd rfl (Or.inl rfl) (pe_op op_add pe_int (pe_has h_law_draw (hr.mono (by omega)) pass0 (pa_cons (pv 1) (pa_cons pe_int pa_nil)))))) pss_nil)
        (pss_cons (ps_set (i := 9) sc_law.nd rfl (Or.inl rfl) (pe_lst (pa_cons (pe_tup (pa_cons (pv 7) (pa_cons (pe_callB call_lenT (by rfl) TX.n_len bt_len (pa_cons (pv 3) pa_nil)) (pa_cons pe_str pa_nil)))) (pa_cons (pe_tup (pa_cons (pv 7) (pa_cons (pv 8) (pa_cons pe_str pa_nil)))) (pa_cons (pe_tup (pa_cons (pv 4) (pa_cons (pv 8) (pa_cons pe_str pa_nil)))) pa_nil)))))
        (pss_cons (ps_expr (pe_bm PySem.F.plainAttrs_list PySem.F.slot_list_append PySem.F.type_list_append mt_append (pv 9) (pa_cons (pe_tup (pa_cons (pv 4) (pa_cons (pe_callB call_lenT (by rfl) TX.n_len bt_len (pa_cons (pv 3) pa_nil)) (pa_cons pe_str pa_nil)))) pa_nil)))
        (pss_one (ps_for PassesOwn.never rfl (pi_list (pv 9)) (pg_tup rfl (pgs_cons (pg_name (i := 10) sc_law.nd rfl (Or.inl rfl)) (pgs_cons (pg_name (i := 11) sc_law.nd rfl (Or.inl rfl)) (pgs_cons (pg_name (i := 12) sc_law.nd rfl (Or.inl rfl)) pgs_nil)))) (pss_cons (ps_set (i := 13) sc_law.nd rfl (Or.inl rfl) (RS.pe_or2 (RGU.pe_rep rfl hr (by rfl) TX.n_repr (pa_cons (pv 10) pa_nil)) (RRZ.pe_repZ rfl hr (by rfl) TX.n_repr (pa_cons (pv 10) pa_nil))))
        (pss_one (ps_if (PW.pt (pw_or (pt_cmpR op_ne (pe_has h_law_asked (hr.mono (by omega)) pass0 (pa_cons (pv 10) (pa_cons (pv 11) pa_nil))) (pv 12) (nomark _)) (pw_or1 (pt_cmpR op_ne (RS.pe_or2 (RGU.pe_rep rfl hr (by rfl) TX.n_repr (pa_cons (pv 10) pa_nil)) (RRZ.pe_repZ rfl hr (by rfl) TX.n_repr (pa_cons (pv 10) pa_nil))) (pv 13) (nomark _))))) (pss_one (ps_ret pe_bl)) pss_nil)))))))))))))))
        (pss_one (ps_ret pe_bl)))), ?_⟩
  obtain ⟨⟨hs, hl⟩, h⟩ := h
  refine ⟨_, rfl, a, ns, rfl, ⟨hs, hl⟩, fun b H1 R1 e1 x1 => ?_⟩
  have Dw := RN.reelDrw b
  show tSeq _ _ _ _ H1
  refine (?_ : StD (RN.Reel b) b H1 H _ _ _ H) H1 R1 (Stp.refl x1)
  refine sd_forR1 Dw (n := 1 + min ns.length 9) (ead_ev Dw (ea_cons (ev_is (ev_i0 ev_c (ev_min2 (ev_lenL (ev_var rfl) hs) ev_c)) ?_) ea_nil)) (by omega)
    (fun i σ' G' => ∃ v2 v3 v4 v5 v6 v7 v8 v9 v10 v11 v12 v13 : Option V, σ' = [some (.ref a), some (.ref b), v2, v3, v4, v5, v6, v7, v8, v9, v10, v11, v12, v13]) (fun G1 e => ⟨_, _, _, _, _, _, _, _, _, _, _, _, rfl⟩) (fun i σ' G' hi hp => ?_) (fun σ' G' hp => ?_)
  · rw [List.length_map]
    congr 1
    split <;> omega
  · obtain ⟨v2, v3, v4, v5, v6, v7, v8, v9, v10, v11, v12, v13, rfl⟩ := hp
    refine q_asgD (P := fun v _ => ∃ rim, v = T rim ∧ RimZ rim) (ed_call (P2 := fun vs _ => ∃ k : Nat, vs = [.ref b, .int (k : Int)] ∧ 1 ≤ k ∧ k ≤ 10) (ead_imp (RWD.ead_two Dw (ev_var rfl) (RWD.ed_more Dw 1 fun G2 e2 => RWD.ed_nat (ed_drw 10 (by decide) (by decide) (ea_cons (ev_var rfl) (ea_cons ev_c ea_nil))))) fun vs G2 e2 ⟨v, hv, k, hk, k0⟩ => ⟨1 + k, by rw [hv, hk], by omega, by omega⟩) fun vs H2 G2 r2 x2 e2 ⟨k, hv, k0, k1⟩ Q q E => ⟨b, k, G2, by rw [hv]; rfl, ⟨⟨r2, x2⟩, k0, k1⟩, q⟩) fun v G1 e1 hv => ?_
    obtain ⟨rim, rfl, hrim⟩ := hv
    have hr0 := hrim.1
    have hr10 := hrim.2.1
    refine q_asgD (P := fun v G' => ∃ (a : Addr) (ps : List (List Nat)), v = .ref a ∧ G' a = some (.lst (ps.map T)) ∧ (1 ≤ ps.length ∧ ps.length ≤ 3) ∧ ∀ p ∈ ps, PcZ rim p) (ed_callV Dw (ea_cons (ev_var rfl) (ea_cons (ev_var rfl) ea_nil)) fun H2 r2 e2 Q1 q1 E1 => ⟨b, rim, _, rfl, ⟨⟨r2, e2⟩, hrim⟩, q1⟩) fun v G2 e2 hv => ?_
    obtain ⟨pa, ps, rfl, hpa, hp13, hps⟩ := hv
    have hpe : ps ≠ [] := fun z => by rw [z] at hp13; exact absurd hp13.1 (by decide)
    refine q_asgD (P := fun v _ => ∃ k : Nat, v = .int (k : Int) ∧ k < ps.length) (RWD.ed_nat (ed_drw ps.length (by omega) (Nat.lt_of_le_of_lt hp13.2 (by decide)) (ea_cons (ev_var rfl) (ea_cons (ev_is (ev_lenL (ev_var rfl) (SqL.of hpa)) (by rw [List.length_map])) ea_nil)))) fun v G3 e3 hv => ?_
    obtain ⟨at', rfl, hat⟩ := hv
    have om := oddZ_m (K := K)
    have otx : ∀ {σ : L2.St} {G1 : Hp} {te : TE} (m : List Nat), (m = [] ∨ ∃ d ∈ m, d ∉ SIGNS) → (∀ c ∈ m, c < 4096) → m.length ≤ 100 → Ev te σ G1 (T m) → EvD (RN.Reel b) b te σ G1 (OddZ (K := K)) := fun {σ G1 te} m hb hc hm h => ed_imp (ed_ev Dw h) fun v _ _ hv => by
      rw [hv]
      exact odd_txt hb hc hm
    have one : ∀ {H : Hp} {ds : List PyData}, Dp K H (T [97]) (.str (S [97])) := fun {H ds} => .str _
    have oneS : RSH.Sh (.str (S [97])) 0 1 := RSH.sh_str (by decide)
    refine q_asgD (P := OddZ (K := K)) (ed_pick (n := 12) Dw om
      (ead_all om (otx [] (.inl rfl) (by decide) (by decide) (ev_s [] (by decide +kernel))) fun G5 e5 =>
       ead_all om (otx [65] (.inr ⟨65, by decide, by decide⟩) (by decide) (by decide) (ev_s [65] (by decide +kernel))) fun G6 e6 =>
       ead_all om (otx [97, 32, 98] (.inr ⟨32, by decide, by decide⟩) (by decide) (by decide) (ev_s _ (by decide +kernel))) fun G7 e7 =>
       ead_all om (otx [97, 63, 33] (.inr ⟨33, by decide, by decide⟩) (by decide) (by decide) (ev_s _ (by decide +kernel))) fun G8 e8 =>
       ead_all om (otx [97, 98, 63, 46, 49] (.inr ⟨49, by decide, by decide⟩) (by decide) (by decide) (ev_s _ (by decide +kernel))) fun G9 e9 =>
       ead_all om (ed_imp (ed_ev Dw ev_c) fun v _ _ hv => by rw [hv]; exact odd_ty (n := "NoneType") (d := .none) (L2.kit_ty (by decide +kernel)) (fun H1 _ => .base .non) .non ⟨rfl, rfl, by decide, by decide, rfl⟩) fun G10 e10 =>
       ead_all om (ed_imp (ed_ev Dw ev_c) fun v _ _ hv => by rw [hv]; exact odd_ty (n := "int") (d := .int 3) (L2.kit_ty (by decide +kernel)) (fun H1 _ => .base (.int _)) (.int _) ((RSH.sh_int (i := 3) (by decide)).mono (by decide) (by decide))) fun G11 e11 =>
       ead_all om (ed_imp (ed_ev Dw ev_c) fun v _ _ hv => by rw [hv]; exact odd_ty (n := "bool") (d := .bool true) (L2.kit_ty (by decide +kernel)) (fun H1 _ => .base (.bl _)) (.bl _) ⟨rfl, rfl, by decide, by decide, rfl⟩) fun G12 e12 =>
       ead_all om (ed_imp (ed_el Dw (el_lst (vs := [T [97]]) (ea_cons (ev_s _ (by decide +kernel)) ea_nil) (by show 1 ≤ 100000; decide))) fun v G13 _ ⟨q, h1, h2⟩ => by rw [h1]; exact odd_ty (n := "list") (d := .list [.str (S [97])]) (L2.kit_ty (by decide +kernel)) (fun H1 e => .base (.lst (e _ _ h2))) (.lst (SqL.of h2) (.cons (.str _) .nil)) ((RSH.sh_list (RSH.sh_cons oneS RSH.sh_nil)).mono (by decide) (by decide))) fun G13 e13 =>
       ead_all om (ed_imp (ed_eu Dw (eu_tup (vs := [T [97]]) (ea_cons (ev_s _ (by decide +kernel)) ea_nil) (by show 1 ≤ 100000; decide))) fun v G13 _ ⟨q, h1, h2⟩ => by rw [h1]; exact odd_ty (n := "tuple") (d := .tuple [.str (S [97])]) (L2.kit_ty (by decide +kernel)) (fun H1 e => .base (.tup (e _ _ h2))) (.tup (SqT.of h2) (.cons (.str _) .nil)) ((RSH.sh_tup (RSH.sh_cons oneS RSH.sh_nil)).mono (by decide) (by decide))) fun G14 e14 =>
       ead_all om (ed_imp (ed_dict0 Dw) fun v G15 _ ⟨q, h1, h2⟩ => ⟨.inr ⟨"dict", L2.kit_ty (by decide +kernel), fun H1 e => by rw [h1]; exact .base (.dK (e _ _ h2))⟩, .inr ⟨q, h1, h2⟩⟩) fun G15 e15 =>
       ead_all om (otx [10] (.inr ⟨10, by decide, by decide⟩) (by decide) (by decide) (ev_s _ (by decide +kernel))) fun G16 e16 => ead_all0) (by decide) fun G5 e5 => RWD.ed_nat (ed_drw 12 (by decide) (by decide) (ea_cons (ev_var rfl) (ea_cons ev_c ea_nil)))) fun vo G4 e4 ho => ?_
    have bm := badZ_m (K := K)
    have hpa4 : G4 pa = some (.lst (ps.map T)) := (e3.trans e4) _ _ hpa
    have take_ps : ∀ {σ : L2.St} {G5 : Hp} {tk : TE} (k : Nat), Ex G4 G5 → σ[4]? = some (some (.ref pa)) → Ev tk σ G5 (.int (k : Int)) → EvL (tSl (rSlL K) (tVar 4) tNoPart (tPart tk)) σ G5 ((ps.take k).map T) := fun {σ G5 tk} k e h1 h2 => el_to (el_sl (ev_var h1) eo_none (eo_some h2) (SqL.of (e _ _ hpa4))) (by rw [RMC.cutV_take, List.map_take])
    have odd1 : ∀ {σ : L2.St} {G5 : Hp}, σ[6]? = some (some vo) → EvL (tLst (tCons (tVar 6) tNil)) σ G5 [vo] := fun {σ G5} h1 => el_lst (ea_cons (ev_var h1) ea_nil) (by show 1 ≤ 100000; decide)
    refine q_asgD (P := BadZ (K := K)) (ed_pick (n := 4) Dw bm
      (ead_all bm (ed_imp (ed_elZ Dw (el_catZ (xs := (ps.take at').map T ++ [vo]) (ys := (ps.drop (at' + 1)).map T) (el_catZ (take_ps at' (Ex.refl _) rfl (ev_var rfl)) (odd1 rfl) (by rw [List.length_map, List.length_take]; show _ + 1 ≤ 1000; omega)).el (el_to (el_sl (ev_var rfl) (eo_some (i := ((at' + 1 : Nat) : Int)) (ev_is (ev_i0 (ev_var rfl) ev_c) (by rw [Int.natCast_add]; rfl))) eo_none (SqL.of hpa4)) (by rw [cutV_drop, List.map_drop])) (by rw [List.length_append, List.length_map, List.length_map, List.length_take, List.length_drop]; show _ + 1 + _ ≤ 1000; omega))) fun v G5 e5 ⟨p, h1, h2, h3⟩ => by
          rw [h1]
          exact bad_one (rim := rim) h2 h3 (fun q hq => hps q (List.mem_of_mem_take hq)) (fun q hq => hps q (List.mem_of_mem_drop hq)) (by rw [List.length_take, List.length_drop]; omega) (om _ _ _ e5 ho)) fun G5 e5 =>
       ead_all bm (ed_imp (ed_elZ Dw (el_catZ (xs := (ps.take 2).map T) (ys := [vo]) (take_ps 2 e5 rfl ev_c) (odd1 rfl) (by rw [List.length_map, List.length_take]; show _ + 1 ≤ 1000; omega))) fun v G6 e6 ⟨p, h1, h2, h3⟩ => by
          rw [h1]
          exact bad_one (rim := rim) (bs := []) h2 (by rw [List.map_nil, List.append_nil]; exact h3) (fun q hq => hps q (List.mem_of_mem_take hq)) (fun q hq => by cases hq) (by rw [List.length_take]; show _ + 0 ≤ 6; omega) (om _ _ _ (e5.trans e6) ho)) fun G6 e6 =>
       ead_all bm (ed_imp (ed_el Dw (el_lst (vs := []) ea_nil (by show 0 ≤ 100000; decide))) fun v G7 _ ⟨p, h1, h2⟩ => by rw [h1]; exact bad_nil (.inl h2)) fun G7 e7 =>
       ead_all bm (ed_imp (ed_eu Dw (eu_tup (vs := []) ea_nil (by show 0 ≤ 100000; decide))) fun v G8 _ ⟨p, h1, h2⟩ => by rw [h1]; exact bad_nil (.inr h2)) fun G8 e8 => ead_all0) (by decide) fun G5 e5 => RWD.ed_nat (ed_drw 4 (by decide) (by decide) (ea_cons (ev_var rfl) (ea_cons ev_c ea_nil)))) fun vb G5 e5 hb => ?_
    have nm := badN_m (K := K)
    have nin : ∀ {σ : L2.St} {G1 : Hp} {te : TE} (i : Int), (i < 1 ∨ 10 < i) → Ev te σ G1 (.int i) → EvD (RN.Reel b) b te σ G1 (BadN (K := K)) := fun {σ G1 te} i hi h => ed_imp (ed_ev Dw h) fun v _ _ hv => .inl ⟨i, hv, hi⟩
    refine q_asgD (P := BadN (K := K)) (ed_pick (n := 8) Dw nm
      (ead_all nm (nin 0 (.inl (by decide)) ev_c) fun G6 e6 =>
       ead_all nm (nin (-1) (.inl (by decide)) (ev_un ev_c ru_neg)) fun G7 e7 =>
       ead_all nm (ed_imp (ed_ev Dw ev_c) fun v _ _ hv => .inr (.inl ⟨true, hv⟩)) fun G8 e8 =>
       ead_all nm (ed_imp (ed_ev Dw ev_c) fun v _ _ hv => .inr (.inl ⟨false, hv⟩)) fun G9 e9 =>
       ead_all nm (ed_imp (ed_ev Dw ev_c) fun v _ _ hv => by rw [hv]; exact .inr (.inr ⟨"NoneType", L2.kit_ty (by decide +kernel), fun H1 _ => .base .non⟩)) fun G10 e10 =>
       ead_all nm (ed_imp (ed_ev Dw ev_c) fun v _ _ hv => by rw [hv]; exact .inr (.inr ⟨"str", L2.kit_ty (by decide +kernel), fun H1 _ => .base (.str _)⟩)) fun G11 e11 =>
       ead_all nm (ed_imp (ed_el Dw (el_lst (vs := [.int 3]) (ea_cons ev_c ea_nil) (by show 1 ≤ 100000; decide))) fun v _ _ ⟨q, h1, h2⟩ => by rw [h1]; exact .inr (.inr ⟨"list", L2.kit_ty (by decide +kernel), fun H1 e => .base (.lst (e _ _ h2))⟩)) fun G12 e12 =>
       ead_all nm (nin (0 - 10 ^ 29) (.inl (by decide +kernel)) (ev_is (ev_i0 ev_c (ev_op ev_c ev_c (rv_I (C := CPow) ⟨by decide, by decide, by decide⟩))) (by decide +kernel))) fun G13 e13 => ead_all0) (by decide) fun G6 e6 => RWD.ed_nat (ed_drw 8 (by decide) (by decide) (ea_cons (ev_var rfl) (ea_cons ev_c ea_nil)))) fun vn G6 e6 hn => ?_
    refine sd_whenDK (Pz := fun σ' G' => ∃ vn, σ' = [some (.ref a), some (.ref b), some (.int (i : Int)), some (T rim), some (.ref pa), some (.int (at' : Int)), some vo, some vb, some vn, v9, v10, v11, v12, v13] ∧ BadN (K := K) vn G') (RWD.ed_is Dw (ed_drw 4 (by decide) (by decide) (ea_cons (ev_var rfl) (ea_cons ev_c ea_nil)))) (fun G7 e7 rest => ?_) (fun G7 e7 => ⟨vn, rfl, nm _ _ _ e7 hn⟩) fun σ' G7 e7 hP => ?_
    · exact s_asgD (RWD.ed_more Dw 11 fun G8 e8 => RWD.ed_nat (ed_drw 40 (by decide) (by decide) (ea_cons (ev_var rfl) (ea_cons ev_c ea_nil)))) fun v G8 e8 ⟨k, hk, _⟩ H8 R8 s8 => rest _ G8 e8 ⟨v, rfl, .inl ⟨_, hk, .inr (by omega)⟩⟩ H8 R8 s8
    obtain ⟨vn, rfl, hn⟩ := hP
    have hb7 := bm _ _ _ (e6.trans e7) hb
    have hpa7 := ((e5.trans e6).trans e7) _ _ hpa4
    intro H7 R7 s7
    have eG := s7.sub.trans (Hd_sub b H7)
    have hb8 := bm _ _ _ eG hb7
    have hn8 := nm _ _ _ eG hn
    have hpa8 := eG _ _ hpa7
    clear hn hb7
    obtain ⟨bx, hbx⟩ := hb8.2
    obtain ⟨px, hpx⟩ := good_show (K := K) hpa8 hps hp13.2
    have gp : GoodPs H7 (.ref pa) := ⟨ps, ⟨pa, rfl, .inl hpa8⟩, hpe, by omega, fun q hq => pcz_seen (hps q hq)⟩
    have okr : AskK K H7 (.ref pa) (.int (rim.length : Int)) 0 := ⟨ps, rim.length, ⟨pa, rfl, .inl hpa8⟩, hpe, by omega, fun q hq => pcz_seen (hps q hq), rfl, hr0, hr10⟩
    refine q_rows (r1 := [vb, .int (rim.length : Int), .str (dueS 1)]) (r2 := [vb, vn, .str (dueS 1)]) (r3 := [.ref pa, vn, .str (dueS 2)]) (eu_tup (ea_cons (ev_var rfl) (ea_cons (ev_lenT (ev_var rfl) (by omega)) (ea_cons ev_c ea_nil))) (by show 3 ≤ 100000; decide)) (eu_tup (ea_cons (ev_var rfl) (ea_cons (ev_var rfl) (ea_cons ev_c ea_nil))) (by show 3 ≤ 100000; decide)) (eu_tup (ea_cons (ev_var rfl) (ea_cons (ev_var rfl) (ea_cons ev_c ea_nil))) (by show 3 ≤ 100000; decide)) fun l p1 p2 p3 H8 hl8 e8 hl1 g1 g2 g3 => ?_
    refine q_appU hl1 (ev_var rfl) (eu_tup (vs := [.ref pa, .int (rim.length : Int), .str (dueS 0)]) (ea_cons (ev_var rfl) (ea_cons (ev_lenT (ev_var rfl) (by omega)) (ea_cons ev_c ea_nil))) (by show 3 ≤ 100000; decide)) (by show 3 < 100000; decide) fun p4 H9 hp4 e9 g4 => ?_
    have eL : Ex H7 (upd H9 l (.lst ([.ref p1, .ref p2, .ref p3] ++ [.ref p4]))) := (e8.trans e9).mut hl8
    have ne : ∀ {p : Addr} {u : List V}, H9 p = some (.tup u) → (upd H9 l (.lst ([.ref p1, .ref p2, .ref p3] ++ [.ref p4]))) p = some (.tup u) := fun {p u} h => by
      rw [upd_ne fun z => by rw [z, e9 _ _ hl1] at h; cases h]
      exact h
    have k1 := ne (e9 _ _ g1)
    have k2 := ne (e9 _ _ g2)
    have k3 := ne (e9 _ _ g3)
    have k4 := ne g4
    have kl : (upd H9 l (.lst ([.ref p1, .ref p2, .ref p3] ++ [.ref p4]))) l = some (.lst [.ref p1, .ref p2, .ref p3, .ref p4]) := upd_same
    show tFor _ _ _ _ _ (upd H9 l (.lst ([.ref p1, .ref p2, .ref p3] ++ [.ref p4])))
    generalize upd H9 l (.lst ([.ref p1, .ref p2, .ref p3] ++ [.ref p4])) = H10 at *
    have rows : ∀ q ∈ [V.ref p1, V.ref p2, V.ref p3, V.ref p4], RowK (K := K) H10 q := fun q hq => by
      simp only [List.mem_cons, List.not_mem_nil, or_false] at hq
      rcases hq with rfl | rfl | rfl | rfl
      · exact ⟨p1, _, _, 1, _, rfl, k1, BadPs.ex eL hb8.1, hbx.ex eL⟩
      · exact ⟨p2, _, _, 1, _, rfl, k2, BadPs.ex eL hb8.1, hbx.ex eL⟩
      · exact ⟨p3, _, _, 2, _, rfl, k3, ⟨gp.ex eL, BadL.ex eL hn8⟩, hpx.ex eL⟩
      · exact ⟨p4, _, _, 0, _, rfl, k4, okr.ex eL, hpx.ex eL⟩
    refine s_forL (ev_var rfl) (SqL.of kl) (fun j σ' H' => Ex H10 H' ∧ ∃ v10 v11 v12 v13 : Option V, σ' = [some (.ref a), some (.ref b), some (.int (i : Int)), some (T rim), some (.ref pa), some (.int (at' : Int)), some vo, some vb, some vn, some (.ref l), v10, v11, v12, v13]) (fun H11 e11 => ⟨e11, _, _, _, _, rfl⟩) (fun j σ' H' _ hP => SqL.of (hP.1 _ _ kl)) (fun j q σ' H' hj hP => ?_) (fun σ' H' hP => ?_)
    · obtain ⟨e11, w10, w11, w12, w13, rfl⟩ := hP
      obtain ⟨r, v, n, k, x, rfl, j1, j2, j3⟩ := (rows q (List.mem_of_getElem? hj)).ex e11
      refine ⟨r, _, rfl, SqT.of j1, rfl, _, _, rfl, _, _, rfl, _, _, rfl, rfl, ?_⟩
      refine q_asg (ev_show (ev_var rfl) j3) fun H12 e12 => ?_
      exact s_when (b := false) (et_is (et_or (a := false) (b := false) (et_test (ev_is (ev_op (ev_call (z := .str (dueS k)) (ea_cons (ev_var rfl) (ea_cons (ev_var rfl) ea_nil)) fun H13 e13 Q q E => ⟨v, n, k, rfl, (j2.ex e12).ex e13, q⟩) (ev_var rfl) (rv_ne rfl)) (by simp))) fun _ => et_test (ev_is (ev_op (ev_show (ev_var rfl) (j3.ex e12)) (ev_var rfl) (rv_ne rfl)) (by simp))) rfl) (fun z => by cases z) fun _ H13 e13 => ⟨(e11.trans e12).trans e13, _, _, _, _, rfl⟩
    · obtain ⟨e11, w10, w11, w12, w13, rfl⟩ := hP
      obtain ⟨r9, s9⟩ := Dw.stp R7 s7.sub (eL.trans e11)
      exact ⟨_, r9, s7.trans s9, _, _, _, _, _, _, _, _, _, _, _, _, rfl⟩
  · obtain ⟨v2, v3, v4, v5, v6, v7, v8, v9, v10, v11, v12, v13, rfl⟩ := hp
    exact s_retD (P := fun v _ => v = .bl true) (ed_ev Dw ev_c) fun v H2 G2 r2 s2 e2 hv => by
      rw [hv]
      exact h H2
end
end X

namespace X
open PySem PySem.Spec PyProof.Rows L2 Evl TL RC RA RD RE RF RG RH RI RL RS RP RQ RR RT RDI RU RV RX RY RZ1 RO RO1 RM RO2 RK RN RLS RST RTU RSP RSU RLT RPL RPT RPI RMB RMX RMC RMU RFZ RWD RPB RUX RLO RSK RWY RSL RGU RSH REX RXW RRZ
theorem all_mk {l : PySem.W.OpenLaw} {w : World} {K : PySem.W.Frag} {h : Heap} {mg : Str → Option Value} {fa : Addr} (X : K.In h) (G : h.Ns mainGlobals mg) (hfa : mg "law" = some (.ref fa))
    {f0 : Addr}
    {od0 an0 : Option Addr} {sl0 : Array (Option Value)} {oc0 kV0 dc0 pm0 cd0 ct0 : Value}
    {f1 : Addr}
    {od1 an1 : Option Addr} {sl1 : Array (Option Value)} {oc1 kV1 dc1 pm1 cd1 ct1 : Value}
    {f2 : Addr}
    {od2 an2 : Option Addr} {sl2 : Array (Option Value)} {oc2 kV2 dc2 pm2 cd2 ct2 : Value}
    {f3 : Addr}
    {od3 an3 : Option Addr} {sl3 : Array (Option Value)} {oc3 kV3 dc3 pm3 cd3 ct3 : Value}
    {f4 : Addr}
    {od4 an4 : Option Addr} {sl4 : Array (Option Value)} {oc4 kV4 dc4 pm4 cd4 ct4 : Value}
    {f5 : Addr}
    {od5 an5 : Option Addr} {sl5 : Array (Option Value)} {oc5 kV5 dc5 pm5 cd5 ct5 : Value}
    {f6 : Addr}
    {od6 an6 : Option Addr} {sl6 : Array (Option Value)} {oc6 kV6 dc6 pm6 cd6 ct6 : Value}
    {f7 : Addr}
    {od7 an7 : Option Addr} {sl7 : Array (Option Value)} {oc7 kV7 dc7 pm7 cd7 ct7 : Value}
    {f8 : Addr}
    {od8 an8 : Option Addr} {sl8 : Array (Option Value)} {oc8 kV8 dc8 pm8 cd8 ct8 : Value}
    {f9 : Addr}
    {od9 an9 : Option Addr} {sl9 : Array (Option Value)} {oc9 kV9 dc9 pm9 cd9 ct9 : Value}
    {f10 : Addr}
    {od10 an10 : Option Addr} {sl10 : Array (Option Value)} {oc10 kV10 dc10 pm10 cd10 ct10 : Value}
    {f11 : Addr}
    {od11 an11 : Option Addr} {sl11 : Array (Option Value)} {oc11 kV11 dc11 pm11 cd11 ct11 : Value}
    {f12 : Addr}
    {od12 an12 : Option Addr} {sl12 : Array (Option Value)} {oc12 kV12 dc12 pm12 cd12 ct12 : Value}
    {f13 : Addr}
    {od13 an13 : Option Addr} {sl13 : Array (Option Value)} {oc13 kV13 dc13 pm13 cd13 ct13 : Value}
    {D0 : Addr}
    {D1 : Addr}
    {D2 : Addr}
    {D3 : Addr}
    {D4 : Addr}
    {D5 : Addr}
    {D6 : Addr}
    {D7 : Addr}
    {D8 : Addr}
    {D9 : Addr}
    {D10 : Addr}
    {t_MOST_MARKS : Tok}
    {t_SEEN_SIGNS : Tok}
    {t_UNSEEN : Tok}
    (a0 : PySem.W.nsIn K mainGlobals "need_seen" = some (some (.ref f0)))
    (l0 : K.lookup f0 = some ⟨oc0, od0, .func (PySem.W.fnOf "need_seen" "need_seen" (defArgs s_need_seen) (defBody s_need_seen) (defScope s_need_seen) .none kV0 dc0 pm0 an0 cd0 ct0), sl0⟩)
    (q0 : PySem.W.codeIn K cd0 "need_seen" = true) (k0 : PySem.W.keepIn K (.ref f0) = true)
    (a1 : PySem.W.nsIn K mainGlobals "need_pieces" = some (some (.ref f1)))
    (l1 : K.lookup f1 = some ⟨oc1, od1, .func (PySem.W.fnOf "need_pieces" "need_pieces" (defArgs s_need_pieces) (defBody s_need_pieces) (defScope s_need_pieces) .none kV1 dc1 pm1 an1 cd1 ct1), sl1⟩)
    (q1 : PySem.W.codeIn K cd1 "need_pieces" = true) (k1 : PySem.W.keepIn K (.ref f1) = true)
    (a2 : PySem.W.nsIn K mainGlobals "need_short_rim" = some (some (.ref f2)))
    (l2 : K.lookup f2 = some ⟨oc2, od2, .func (PySem.W.fnOf "need_short_rim" "need_short_rim" (defArgs s_need_short_rim) (defBody s_need_short_rim) (defScope s_need_short_rim) .none kV2 dc2 pm2 an2 cd2 ct2), sl2⟩)
    (q2 : PySem.W.codeIn K cd2 "need_short_rim" = true) (k2 : PySem.W.keepIn K (.ref f2) = true)
    (a3 : PySem.W.nsIn K mainGlobals "laid" = some (some (.ref f3)))
    (l3 : K.lookup f3 = some ⟨oc3, od3, .func (PySem.W.fnOf "laid" "laid" (defArgs s_laid) (defBody s_laid) (defScope s_laid) .none kV3 dc3 pm3 an3 cd3 ct3), sl3⟩)
    (q3 : PySem.W.codeIn K cd3 "laid" = true) (k3 : PySem.W.keepIn K (.ref f3) = true)
    (a4 : PySem.W.nsIn K mainGlobals "least_turning" = some (some (.ref f4)))
    (l4 : K.lookup f4 = some ⟨oc4, od4, .func (PySem.W.fnOf "least_turning" "least_turning" (defArgs s_least_turning) (defBody s_least_turning) (defScope s_least_turning) .none kV4 dc4 pm4 an4 cd4 ct4), sl4⟩)
    (q4 : PySem.W.codeIn K cd4 "least_turning" = true) (k4 : PySem.W.keepIn K (.ref f4) = true)
    (a5 : PySem.W.nsIn K mainGlobals "known_from" = some (some (.ref f5)))
    (l5 : K.lookup f5 = some ⟨oc5, od5, .func (PySem.W.fnOf "known_from" "known_from" (defArgs s_known_from) (defBody s_known_from) (defScope s_known_from) .none kV5 dc5 pm5 an5 cd5 ct5), sl5⟩)
    (q5 : PySem.W.codeIn K cd5 "known_from" = true) (k5 : PySem.W.keepIn K (.ref f5) = true)
    (a6 : PySem.W.nsIn K mainGlobals "_law_reel" = some (some (.ref f6)))
    (l6 : K.lookup f6 = some ⟨oc6, od6, .func (PySem.W.fnOf "_law_reel" "_law_reel" (defArgs s_law_reel) (defBody s_law_reel) (defScope s_law_reel) .none kV6 dc6 pm6 an6 cd6 ct6), sl6⟩)
    (q6 : PySem.W.codeIn K cd6 "_law_reel" = true) (k6 : PySem.W.keepIn K (.ref f6) = true)
    (a7 : PySem.W.nsIn K mainGlobals "_law_draw" = some (some (.ref f7)))
    (l7 : K.lookup f7 = some ⟨oc7, od7, .func (PySem.W.fnOf "_law_draw" "_law_draw" (defArgs s_law_draw) (defBody s_law_draw) (defScope s_law_draw) .none kV7 dc7 pm7 an7 cd7 ct7), sl7⟩)
    (q7 : PySem.W.codeIn K cd7 "_law_draw" = true) (k7 : PySem.W.keepIn K (.ref f7) = true)
    (a8 : PySem.W.nsIn K mainGlobals "_law_rim" = some (some (.ref f8)))
    (l8 : K.lookup f8 = some ⟨oc8, od8, .func (PySem.W.fnOf "_law_rim" "_law_rim" (defArgs s_law_rim) (defBody s_law_rim) (defScope s_law_rim) .none kV8 dc8 pm8 an8 cd8 ct8), sl8⟩)
    (q8 : PySem.W.codeIn K cd8 "_law_rim" = true) (k8 : PySem.W.keepIn K (.ref f8) = true)
    (a9 : PySem.W.nsIn K mainGlobals "_law_printed" = some (some (.ref f9)))
    (l9 : K.lookup f9 = some ⟨oc9, od9, .func (PySem.W.fnOf "_law_printed" "_law_printed" (defArgs s_law_printed) (defBody s_law_printed) (defScope s_law_printed) .none kV9 dc9 pm9 an9 cd9 ct9), sl9⟩)
    (q9 : PySem.W.codeIn K cd9 "_law_printed" = true) (k9 : PySem.W.keepIn K (.ref f9) = true)
    (a10 : PySem.W.nsIn K mainGlobals "_law_pieces" = some (some (.ref f10)))
    (l10 : K.lookup f10 = some ⟨oc10, od10, .func (PySem.W.fnOf "_law_pieces" "_law_pieces" (defArgs s_law_pieces) (defBody s_law_pieces) (defScope s_law_pieces) .none kV10 dc10 pm10 an10 cd10 ct10), sl10⟩)
    (q10 : PySem.W.codeIn K cd10 "_law_pieces" = true) (k10 : PySem.W.keepIn K (.ref f10) = true)
    (a11 : PySem.W.nsIn K mainGlobals "_law_kind_of" = some (some (.ref f11)))
    (l11 : K.lookup f11 = some ⟨oc11, od11, .func (PySem.W.fnOf "_law_kind_of" "_law_kind_of" (defArgs s_law_kind_of) (defBody s_law_kind_of) (defScope s_law_kind_of) .none kV11 dc11 pm11 an11 cd11 ct11), sl11⟩)
    (q11 : PySem.W.codeIn K cd11 "_law_kind_of" = true) (k11 : PySem.W.keepIn K (.ref f11) = true)
    (a12 : PySem.W.nsIn K mainGlobals "_law_asked" = some (some (.ref f12)))
    (l12 : K.lookup f12 = some ⟨oc12, od12, .func (PySem.W.fnOf "_law_asked" "_law_asked" (defArgs s_law_asked) (defBody s_law_asked) (defScope s_law_asked) .none kV12 dc12 pm12 an12 cd12 ct12), sl12⟩)
    (q12 : PySem.W.codeIn K cd12 "_law_asked" = true) (k12 : PySem.W.keepIn K (.ref f12) = true)
    (a13 : PySem.W.nsIn K mainGlobals "law" = some (some (.ref f13)))
    (l13 : K.lookup f13 = some ⟨oc13, od13, .func (PySem.W.fnOf "law" "law" (defArgs s_law) (defBody s_law) (defScope s_law) .none kV13 dc13 pm13 an13 cd13 ct13), sl13⟩)
    (q13 : PySem.W.codeIn K cd13 "law" = true) (k13 : PySem.W.keepIn K (.ref f13) = true)
    (eg0 : PySem.W.nsIn K mainGlobals "NoSeen" = some (some (.ref D0)))
    (ex0 : PySem.W.excIn K D0 [.type "ValueError", .type "Exception", .type "BaseException", .type "object"] "ValueError.__new__" = true)
    (ek0 : PySem.W.keepIn K (.ref D0) = true) (eb0 : PySem.W.subIn K (.ref D0) (.type "BaseException") = some true) (et0 : PySem.W.typeIn K (.ref D0) = some (.type "type"))
    (ea0 : PySem.W.findIn K (.ref D0) "__getattribute__" = some (some (.builtin "BaseException.__getattribute__"))) (ec0 : PySem.W.findIn K (.ref D0) "__getattr__" = some none) (ed0 : PySem.W.hasDictIn K D0 = true)
    (ee0 : PySem.W.findIn K (.ref D0) "__class__" = some (some (.builtin "object.__class__"))) (ef0 : PySem.W.mroIn K D0 (.type "object") = some true)
    (eg1 : PySem.W.nsIn K mainGlobals "NoNumber" = some (some (.ref D1)))
    (ex1 : PySem.W.excIn K D1 [.type "ValueError", .type "Exception", .type "BaseException", .type "object"] "ValueError.__new__" = true)
    (ek1 : PySem.W.keepIn K (.ref D1) = true) (eb1 : PySem.W.subIn K (.ref D1) (.type "BaseException") = some true) (et1 : PySem.W.typeIn K (.ref D1) = some (.type "type"))
    (ea1 : PySem.W.findIn K (.ref D1) "__getattribute__" = some (some (.builtin "BaseException.__getattribute__"))) (ec1 : PySem.W.findIn K (.ref D1) "__getattr__" = some none) (ed1 : PySem.W.hasDictIn K D1 = true)
    (ee1 : PySem.W.findIn K (.ref D1) "__class__" = some (some (.builtin "object.__class__"))) (ef1 : PySem.W.mroIn K D1 (.type "object") = some true)
    (eg2 : PySem.W.nsIn K mainGlobals "PrintError" = some (some (.ref D2)))
    (ex2 : PySem.W.excIn K D2 [.type "ValueError", .type "Exception", .type "BaseException", .type "object"] "ValueError.__new__" = true)
    (ek2 : PySem.W.keepIn K (.ref D2) = true) (eb2 : PySem.W.subIn K (.ref D2) (.type "BaseException") = some true) (et2 : PySem.W.typeIn K (.ref D2) = some (.type "type"))
    (ea2 : PySem.W.findIn K (.ref D2) "__getattribute__" = some (some (.builtin "BaseException.__getattribute__"))) (ec2 : PySem.W.findIn K (.ref D2) "__getattr__" = some none) (ed2 : PySem.W.hasDictIn K D2 = true)
    (ee2 : PySem.W.findIn K (.ref D2) "__class__" = some (some (.builtin "object.__class__"))) (ef2 : PySem.W.mroIn K D2 (.type "object") = some true)
    (eg3 : PySem.W.nsIn K mainGlobals "NoForm" = some (some (.ref D3)))
    (ex3 : PySem.W.excIn K D3 [.type "ValueError", .type "Exception", .type "BaseException", .type "object"] "ValueError.__new__" = true)
    (ek3 : PySem.W.keepIn K (.ref D3) = true) (eb3 : PySem.W.subIn K (.ref D3) (.type "BaseException") = some true) (et3 : PySem.W.typeIn K (.ref D3) = some (.type "type"))
    (ea3 : PySem.W.findIn K (.ref D3) "__getattribute__" = some (some (.builtin "BaseException.__getattribute__"))) (ec3 : PySem.W.findIn K (.ref D3) "__getattr__" = some none) (ed3 : PySem.W.hasDictIn K D3 = true)
    (ee3 : PySem.W.findIn K (.ref D3) "__class__" = some (some (.builtin "object.__class__"))) (ef3 : PySem.W.mroIn K D3 (.type "object") = some true)
    (eg4 : PySem.W.nsIn K mainGlobals "NoLetter" = some (some (.ref D4)))
    (ex4 : PySem.W.excIn K D4 [.type "ValueError", .type "Exception", .type "BaseException", .type "object"] "ValueError.__new__" = true)
    (ek4 : PySem.W.keepIn K (.ref D4) = true) (eb4 : PySem.W.subIn K (.ref D4) (.type "BaseException") = some true) (et4 : PySem.W.typeIn K (.ref D4) = some (.type "type"))
    (ea4 : PySem.W.findIn K (.ref D4) "__getattribute__" = some (some (.builtin "BaseException.__getattribute__"))) (ec4 : PySem.W.findIn K (.ref D4) "__getattr__" = some none) (ed4 : PySem.W.hasDictIn K D4 = true)
    (ee4 : PySem.W.findIn K (.ref D4) "__class__" = some (some (.builtin "object.__class__"))) (ef4 : PySem.W.mroIn K D4 (.type "object") = some true)
    (eg5 : PySem.W.nsIn K mainGlobals "NoName" = some (some (.ref D5)))
    (ex5 : PySem.W.excIn K D5 [.type "ValueError", .type "Exception", .type "BaseException", .type "object"] "ValueError.__new__" = true)
    (ek5 : PySem.W.keepIn K (.ref D5) = true) (eb5 : PySem.W.subIn K (.ref D5) (.type "BaseException") = some true) (et5 : PySem.W.typeIn K (.ref D5) = some (.type "type"))
    (ea5 : PySem.W.findIn K (.ref D5) "__getattribute__" = some (some (.builtin "BaseException.__getattribute__"))) (ec5 : PySem.W.findIn K (.ref D5) "__getattr__" = some none) (ed5 : PySem.W.hasDictIn K D5 = true)
    (ee5 : PySem.W.findIn K (.ref D5) "__class__" = some (some (.builtin "object.__class__"))) (ef5 : PySem.W.mroIn K D5 (.type "object") = some true)
    (eg6 : PySem.W.nsIn K mainGlobals "NoPlace" = some (some (.ref D6)))
    (ex6 : PySem.W.excIn K D6 [.type "ValueError", .type "Exception", .type "BaseException", .type "object"] "ValueError.__new__" = true)
    (ek6 : PySem.W.keepIn K (.ref D6) = true) (eb6 : PySem.W.subIn K (.ref D6) (.type "BaseException") = some true) (et6 : PySem.W.typeIn K (.ref D6) = some (.type "type"))
    (ea6 : PySem.W.findIn K (.ref D6) "__getattribute__" = some (some (.builtin "BaseException.__getattribute__"))) (ec6 : PySem.W.findIn K (.ref D6) "__getattr__" = some none) (ed6 : PySem.W.hasDictIn K D6 = true)
    (ee6 : PySem.W.findIn K (.ref D6) "__class__" = some (some (.builtin "object.__class__"))) (ef6 : PySem.W.mroIn K D6 (.type "object") = some true)
    (eg7 : PySem.W.nsIn K mainGlobals "NoPress" = some (some (.ref D7)))
    (ex7 : PySem.W.excIn K D7 [.type "ValueError", .type "Exception", .type "BaseException", .type "object"] "ValueError.__new__" = true)
    (ek7 : PySem.W.keepIn K (.ref D7) = true) (eb7 : PySem.W.subIn K (.ref D7) (.type "BaseException") = some true) (et7 : PySem.W.typeIn K (.ref D7) = some (.type "type"))
    (ea7 : PySem.W.findIn K (.ref D7) "__getattribute__" = some (some (.builtin "BaseException.__getattribute__"))) (ec7 : PySem.W.findIn K (.ref D7) "__getattr__" = some none) (ed7 : PySem.W.hasDictIn K D7 = true)
    (ee7 : PySem.W.findIn K (.ref D7) "__class__" = some (some (.builtin "object.__class__"))) (ef7 : PySem.W.mroIn K D7 (.type "object") = some true)
    (eg8 : PySem.W.nsIn K mainGlobals "NoText" = some (some (.ref D8)))
    (ex8 : PySem.W.excIn K D8 [.type "ValueError", .type "Exception", .type "BaseException", .type "object"] "ValueError.__new__" = true)
    (ek8 : PySem.W.keepIn K (.ref D8) = true) (eb8 : PySem.W.subIn K (.ref D8) (.type "BaseException") = some true) (et8 : PySem.W.typeIn K (.ref D8) = some (.type "type"))
    (ea8 : PySem.W.findIn K (.ref D8) "__getattribute__" = some (some (.builtin "BaseException.__getattribute__"))) (ec8 : PySem.W.findIn K (.ref D8) "__getattr__" = some none) (ed8 : PySem.W.hasDictIn K D8 = true)
    (ee8 : PySem.W.findIn K (.ref D8) "__class__" = some (some (.builtin "object.__class__"))) (ef8 : PySem.W.mroIn K D8 (.type "object") = some true)
    (eg9 : PySem.W.nsIn K mainGlobals "NoneYet" = some (some (.ref D9)))
    (ex9 : PySem.W.excIn K D9 [.type "ValueError", .type "Exception", .type "BaseException", .type "object"] "ValueError.__new__" = true)
    (ek9 : PySem.W.keepIn K (.ref D9) = true) (eb9 : PySem.W.subIn K (.ref D9) (.type "BaseException") = some true) (et9 : PySem.W.typeIn K (.ref D9) = some (.type "type"))
    (ea9 : PySem.W.findIn K (.ref D9) "__getattribute__" = some (some (.builtin "BaseException.__getattribute__"))) (ec9 : PySem.W.findIn K (.ref D9) "__getattr__" = some none) (ed9 : PySem.W.hasDictIn K D9 = true)
    (ee9 : PySem.W.findIn K (.ref D9) "__class__" = some (some (.builtin "object.__class__"))) (ef9 : PySem.W.mroIn K D9 (.type "object") = some true)
    (eg10 : PySem.W.nsIn K mainGlobals "TooLong" = some (some (.ref D10)))
    (ex10 : PySem.W.excIn K D10 [.type "ValueError", .type "Exception", .type "BaseException", .type "object"] "ValueError.__new__" = true)
    (ek10 : PySem.W.keepIn K (.ref D10) = true) (eb10 : PySem.W.subIn K (.ref D10) (.type "BaseException") = some true) (et10 : PySem.W.typeIn K (.ref D10) = some (.type "type"))
    (ea10 : PySem.W.findIn K (.ref D10) "__getattribute__" = some (some (.builtin "BaseException.__getattribute__"))) (ec10 : PySem.W.findIn K (.ref D10) "__getattr__" = some none) (ed10 : PySem.W.hasDictIn K D10 = true)
    (ee10 : PySem.W.findIn K (.ref D10) "__class__" = some (some (.builtin "object.__class__"))) (ef10 : PySem.W.mroIn K D10 (.type "object") = some true)
    (ego : PySem.W.specialIn K (.builtin "object.__class__") "__get__" = some (some (.builtin "getset_descriptor.__get__"))) (eto : PySem.W.takesIn K (.builtin "object.__class__") = some true)
    (ep0_0 : PySem.W.subIn K (.ref D0) (.ref D0) = some true)
    (ep0_1 : PySem.W.subIn K (.ref D0) (.ref D1) = some false)
    (ep0_2 : PySem.W.subIn K (.ref D0) (.ref D2) = some true)
    (ep0_3 : PySem.W.subIn K (.ref D0) (.ref D3) = some false)
    (ep0_4 : PySem.W.subIn K (.ref D0) (.ref D4) = some false)
    (ep0_5 : PySem.W.subIn K (.ref D0) (.ref D5) = some false)
    (ep0_6 : PySem.W.subIn K (.ref D0) (.ref D6) = some false)
    (ep0_7 : PySem.W.subIn K (.ref D0) (.ref D7) = some false)
    (ep0_8 : PySem.W.subIn K (.ref D0) (.ref D8) = some false)
    (ep0_9 : PySem.W.subIn K (.ref D0) (.ref D9) = some false)
    (ep0_10 : PySem.W.subIn K (.ref D0) (.ref D10) = some false)
    (ep1_0 : PySem.W.subIn K (.ref D1) (.ref D0) = some false)
    (ep1_1 : PySem.W.subIn K (.ref D1) (.ref D1) = some true)
    (ep1_2 : PySem.W.subIn K (.ref D1) (.ref D2) = some true)
    (ep1_3 : PySem.W.subIn K (.ref D1) (.ref D3) = some false)
    (ep1_4 : PySem.W.subIn K (.ref D1) (.ref D4) = some false)
    (ep1_5 : PySem.W.subIn K (.ref D1) (.ref D5) = some false)
    (ep1_6 : PySem.W.subIn K (.ref D1) (.ref D6) = some false)
    (ep1_7 : PySem.W.subIn K (.ref D1) (.ref D7) = some false)
    (ep1_8 : PySem.W.subIn K (.ref D1) (.ref D8) = some false)
    (ep1_9 : PySem.W.subIn K (.ref D1) (.ref D9) = some false)
    (ep1_10 : PySem.W.subIn K (.ref D1) (.ref D10) = some false)
    (ev0 : PySem.W.subIn K (.ref D0) (.type "ValueError") = some true)
    (ev1 : PySem.W.subIn K (.ref D1) (.type "ValueError") = some true)
    (g_MOST_MARKS : PySem.W.nsIn K mainGlobals "MOST_MARKS" = some (some (.int (10) t_MOST_MARKS)))
    (g_SEEN_SIGNS : PySem.W.nsIn K mainGlobals "SEEN_SIGNS" = some (some (.str "abcdefghijklmnopqrstuvwxyz.?" t_SEEN_SIGNS)))
    (g_UNSEEN : PySem.W.nsIn K mainGlobals "UNSEEN" = some (some (.str "?" t_UNSEEN)))
    (z_ValueError : PySem.W.nsIn K mainGlobals "ValueError" = some none)
    (z_bool : PySem.W.nsIn K mainGlobals "bool" = some none)
    (z_enumerate : PySem.W.nsIn K mainGlobals "enumerate" = some none)
    (z_int : PySem.W.nsIn K mainGlobals "int" = some none)
    (z_isinstance : PySem.W.nsIn K mainGlobals "isinstance" = some none)
    (z_len : PySem.W.nsIn K mainGlobals "len" = some none)
    (z_list : PySem.W.nsIn K mainGlobals "list" = some none)
    (z_min : PySem.W.nsIn K mainGlobals "min" = some none)
    (z_range : PySem.W.nsIn K mainGlobals "range" = some none)
    (z_repr : PySem.W.nsIn K mainGlobals "repr" = some none)
    (z_sorted : PySem.W.nsIn K mainGlobals "sorted" = some none)
    (z_str : PySem.W.nsIn K mainGlobals "str" = some none)
    (z_tuple : PySem.W.nsIn K mainGlobals "tuple" = some none) :
    ∃ fd : FuncData, (∀ (s : Shared) (v : Value), BindsTo s fd ⟨[v], []⟩ [("script", v)]) ∧ ∀ base : Heap, K.In base → base.Ns mainGlobals mg → RGU.LawOk l.prog w K mg base 90 fa fd ["script"] (sp_law K) := by
  have e := hfa.symm.trans (PySem.W.mg_of X G a13)
  cases e
  have F0 := fun_mk (st := s_need_seen) l0 q0 k0
  have F1 := fun_mk (st := s_need_pieces) l1 q1 k1
  have F2 := fun_mk (st := s_need_short_rim) l2 q2 k2
  have F3 := fun_mk (st := s_laid) l3 q3 k3
  have F4 := fun_mk (st := s_least_turning) l4 q4 k4
  have F5 := fun_mk (st := s_known_from) l5 q5 k5
  have F6 := fun_mk (st := s_law_reel) l6 q6 k6
  have F7 := fun_mk (st := s_law_draw) l7 q7 k7
  have F8 := fun_mk (st := s_law_rim) l8 q8 k8
  have F9 := fun_mk (st := s_law_printed) l9 q9 k9
  have F10 := fun_mk (st := s_law_pieces) l10 q10 k10
  have F11 := fun_mk (st := s_law_kind_of) l11 q11 k11
  have F12 := fun_mk (st := s_law_asked) l12 q12 k12
  have F13 := fun_mk (st := s_law) l13 q13 k13
  have TX : Txt K mg := {
    a_need_seen := ⟨_, _, F0, PySem.W.mg_of X G a0, F0.binds (ps := ["thing"]) fun _ _ _ _ _ _ us hl => match us, hl with | [_], _ => rfl⟩
    a_need_pieces := ⟨_, _, F1, PySem.W.mg_of X G a1, F1.binds (ps := ["pieces"]) fun _ _ _ _ _ _ us hl => match us, hl with | [_], _ => rfl⟩
    a_need_short_rim := ⟨_, _, F2, PySem.W.mg_of X G a2, F2.binds (ps := ["length"]) fun _ _ _ _ _ _ us hl => match us, hl with | [_], _ => rfl⟩
    a_laid := ⟨_, _, F3, PySem.W.mg_of X G a3, F3.binds (ps := ["rim", "piece", "first"]) fun _ _ _ _ _ _ us hl => match us, hl with | [_, _, _], _ => rfl⟩
    a_least_turning := ⟨_, _, F4, PySem.W.mg_of X G a4, F4.binds (ps := ["rim"]) fun _ _ _ _ _ _ us hl => match us, hl with | [_], _ => rfl⟩
    a_known_from := ⟨_, _, F5, PySem.W.mg_of X G a5, F5.binds (ps := ["pieces", "length"]) fun _ _ _ _ _ _ us hl => match us, hl with | [_, _], _ => rfl⟩
    a_law_reel := ⟨_, _, F6, PySem.W.mg_of X G a6, F6.binds (ps := ["script"]) fun _ _ _ _ _ _ us hl => match us, hl with | [_], _ => rfl⟩
    a_law_draw := ⟨_, _, F7, PySem.W.mg_of X G a7, F7.binds (ps := ["reel", "many"]) fun _ _ _ _ _ _ us hl => match us, hl with | [_, _], _ => rfl⟩
    a_law_rim := ⟨_, _, F8, PySem.W.mg_of X G a8, F8.binds (ps := ["reel", "size"]) fun _ _ _ _ _ _ us hl => match us, hl with | [_, _], _ => rfl⟩
    a_law_printed := ⟨_, _, F9, PySem.W.mg_of X G a9, F9.binds (ps := ["reel", "rim", "most"]) fun _ _ _ _ _ _ us hl => match us, hl with | [_, _, _], _ => rfl⟩
    a_law_pieces := ⟨_, _, F10, PySem.W.mg_of X G a10, F10.binds (ps := ["reel", "rim"]) fun _ _ _ _ _ _ us hl => match us, hl with | [_, _], _ => rfl⟩
    a_law_kind_of := ⟨_, _, F11, PySem.W.mg_of X G a11, F11.binds (ps := ["e"]) fun _ _ _ _ _ _ us hl => match us, hl with | [_], _ => rfl⟩
    a_law_asked := ⟨_, _, F12, PySem.W.mg_of X G a12, F12.binds (ps := ["pieces", "size"]) fun _ _ _ _ _ _ us hl => match us, hl with | [_, _], _ => rfl⟩
    x_NoSeen := ⟨_, eg0, PySem.W.mg_of X G eg0, ex0, ek0, eb0, et0, ⟨ea0, ec0, eb0, ed0, ee0, ego, eto, ef0⟩⟩
    x_NoNumber := ⟨_, eg1, PySem.W.mg_of X G eg1, ex1, ek1, eb1, et1, ⟨ea1, ec1, eb1, ed1, ee1, ego, eto, ef1⟩⟩
    x_PrintError := ⟨_, eg2, PySem.W.mg_of X G eg2, ex2, ek2, eb2, et2, ⟨ea2, ec2, eb2, ed2, ee2, ego, eto, ef2⟩⟩
    x_NoForm := ⟨_, eg3, PySem.W.mg_of X G eg3, ex3, ek3, eb3, et3, ⟨ea3, ec3, eb3, ed3, ee3, ego, eto, ef3⟩⟩
    x_NoLetter := ⟨_, eg4, PySem.W.mg_of X G eg4, ex4, ek4, eb4, et4, ⟨ea4, ec4, eb4, ed4, ee4, ego, eto, ef4⟩⟩
    x_NoName := ⟨_, eg5, PySem.W.mg_of X G eg5, ex5, ek5, eb5, et5, ⟨ea5, ec5, eb5, ed5, ee5, ego, eto, ef5⟩⟩
    x_NoPlace := ⟨_, eg6, PySem.W.mg_of X G eg6, ex6, ek6, eb6, et6, ⟨ea6, ec6, eb6, ed6, ee6, ego, eto, ef6⟩⟩
    x_NoPress := ⟨_, eg7, PySem.W.mg_of X G eg7, ex7, ek7, eb7, et7, ⟨ea7, ec7, eb7, ed7, ee7, ego, eto, ef7⟩⟩
    x_NoText := ⟨_, eg8, PySem.W.mg_of X G eg8, ex8, ek8, eb8, et8, ⟨ea8, ec8, eb8, ed8, ee8, ego, eto, ef8⟩⟩
    x_NoneYet := ⟨_, eg9, PySem.W.mg_of X G eg9, ex9, ek9, eb9, et9, ⟨ea9, ec9, eb9, ed9, ee9, ego, eto, ef9⟩⟩
    x_TooLong := ⟨_, eg10, PySem.W.mg_of X G eg10, ex10, ek10, eb10, et10, ⟨ea10, ec10, eb10, ed10, ee10, ego, eto, ef10⟩⟩
    y_NoSeen_NoSeen := REX.isA_of eg0 eg0 ep0_0 ep0_0 eb0 ed0 et0
    y_NoSeen_NoNumber := REX.isA_of eg0 eg1 ep0_0 ep0_1 eb1 ed1 et1
    y_NoSeen_PrintError := REX.isA_of eg0 eg2 ep0_0 ep0_2 eb2 ed2 et2
    y_NoSeen_NoForm := REX.isA_of eg0 eg3 ep0_0 ep0_3 eb3 ed3 et3
    y_NoSeen_NoLetter := REX.isA_of eg0 eg4 ep0_0 ep0_4 eb4 ed4 et4
    y_NoSeen_NoName := REX.isA_of eg0 eg5 ep0_0 ep0_5 eb5 ed5 et5
    y_NoSeen_NoPlace := REX.isA_of eg0 eg6 ep0_0 ep0_6 eb6 ed6 et6
    y_NoSeen_NoPress := REX.isA_of eg0 eg7 ep0_0 ep0_7 eb7 ed7 et7
    y_NoSeen_NoText := REX.isA_of eg0 eg8 ep0_0 ep0_8 eb8 ed8 et8
    y_NoSeen_NoneYet := REX.isA_of eg0 eg9 ep0_0 ep0_9 eb9 ed9 et9
    y_NoSeen_TooLong := REX.isA_of eg0 eg10 ep0_0 ep0_10 eb10 ed10 et10
    y_NoNumber_NoSeen := REX.isA_of eg1 eg0 ep1_1 ep1_0 eb0 ed0 et0
    y_NoNumber_NoNumber := REX.isA_of eg1 eg1 ep1_1 ep1_1 eb1 ed1 et1
    y_NoNumber_PrintError := REX.isA_of eg1 eg2 ep1_1 ep1_2 eb2 ed2 et2
    y_NoNumber_NoForm := REX.isA_of eg1 eg3 ep1_1 ep1_3 eb3 ed3 et3
    y_NoNumber_NoLetter := REX.isA_of eg1 eg4 ep1_1 ep1_4 eb4 ed4 et4
    y_NoNumber_NoName := REX.isA_of eg1 eg5 ep1_1 ep1_5 eb5 ed5 et5
    y_NoNumber_NoPlace := REX.isA_of eg1 eg6 ep1_1 ep1_6 eb6 ed6 et6
    y_NoNumber_NoPress := REX.isA_of eg1 eg7 ep1_1 ep1_7 eb7 ed7 et7
    y_NoNumber_NoText := REX.isA_of eg1 eg8 ep1_1 ep1_8 eb8 ed8 et8
    y_NoNumber_NoneYet := REX.isA_of eg1 eg9 ep1_1 ep1_9 eb9 ed9 et9
    y_NoNumber_TooLong := REX.isA_of eg1 eg10 ep1_1 ep1_10 eb10 ed10 et10
    v_NoSeen := REX.isTy_of eg0 (by decide +kernel) ev0
    v_NoNumber := REX.isTy_of eg1 (by decide +kernel) ev1
    c_MOST_MARKS := ⟨_, PySem.W.mg_of X G g_MOST_MARKS⟩
    c_SEEN_SIGNS := ⟨_, PySem.W.mg_of X G g_SEEN_SIGNS⟩
    c_UNSEEN := ⟨_, PySem.W.mg_of X G g_UNSEEN⟩
    n_ValueError := PySem.W.mg_none_of X G z_ValueError
    n_bool := PySem.W.mg_none_of X G z_bool
    n_enumerate := PySem.W.mg_none_of X G z_enumerate
    n_int := PySem.W.mg_none_of X G z_int
    n_isinstance := PySem.W.mg_none_of X G z_isinstance
    n_len := PySem.W.mg_none_of X G z_len
    n_list := PySem.W.mg_none_of X G z_list
    n_min := PySem.W.mg_none_of X G z_min
    n_range := PySem.W.mg_none_of X G z_range
    n_repr := PySem.W.mg_none_of X G z_repr
    n_sorted := PySem.W.mg_none_of X G z_sorted
    n_str := PySem.W.mg_none_of X G z_str
    n_tuple := PySem.W.mg_none_of X G z_tuple }
  exact ⟨_, fun s v => .of_eq rfl, fun base _ _ => ok_law F13 TX⟩
theorem walk {l : PySem.W.OpenLaw} {q : Program} {loose : List Str} {XP : (Str → Option Value) → Heap → Prop} {YP : World → Heap → Prop} {d : DefRec} {K : Params → PySem.W.Frag} (hn : l.most = some 63) (hdf : d.params.defaults = [])
    (hY : ∀ (w : World) (h : Heap), YP w h → (K w.params).In h)
    (F : ∀ (w : World) (mg : Str → Option Value) (fa : Addr) (h : Heap), (K w.params).In h → h.Ns mainGlobals mg → mg d.name = some (.ref fa) →
      ∃ fd : FuncData, (∀ (s : Shared) (u : Value), BindsTo s fd ⟨[u], []⟩ [("script", u)]) ∧ ∀ base : Heap, (K w.params).In base → base.Ns mainGlobals mg → RGU.LawOk l.prog w (K w.params) mg base 90 fa fd ["script"] (sp_law (K w.params))) :
    PySem.W.WalkO q loose XP YP l.row.toRowW d [] (fun f vs => PySem.call f vs) :=
  RGU.walk_ofG (n := 63) (k := 90) (x := "script") (sp := fun w => sp_law (K w.params)) hn (by decide) hdf ⟨rfl, by decide, by decide⟩ hY F (fun w H a ns hl hO hS => sp_law_start hl hO hS)
end X

open PySem PySem.W PyProof.Rows in
set_option maxRecDepth 100000 in
set_option maxHeartbeats 0 in
theorem PySem.Challenge.cw_rimprints_k61_no_pieces_no_lengths_holds : PySem.Challenge.rw_rimprints_k61_no_pieces_no_lengths.Holds := by
  w_on; o_law; k_head; (case hw => w_witness2)
  k_fill
  refine X.walk (l := PySem.Challenge.rw_rimprints_k61_no_pieces_no_lengths) rfl rfl (fun w h Y => PySem.W.kIn_of Y) ?F
  case F =>
    intro w mg fa h KX G hmg
    refine' X.all_mk KX G hmg ?a0 ?l0 ?q0 ?k0 ?a1 ?l1 ?q1 ?k1 ?a2 ?l2 ?q2 ?k2 ?a3 ?l3 ?q3 ?k3 ?a4 ?l4 ?q4 ?k4 ?a5 ?l5 ?q5 ?k5 ?a6 ?l6 ?q6 ?k6 ?a7 ?l7 ?q7 ?k7 ?a8 ?l8 ?q8 ?k8 ?a9 ?l9 ?q9 ?k9 ?a10 ?l10 ?q10 ?k10 ?a11 ?l11 ?q11 ?k11 ?a12 ?l12 ?q12 ?k12 ?a13 ?l13 ?q13 ?k13 ?eg0 ?ex0 ?ek0 ?eb0 ?et0 ?ea0 ?ec0 ?ed0 ?ee0 ?ef0 ?eg1 ?ex1 ?ek1 ?eb1 ?et1 ?ea1 ?ec1 ?ed1 ?ee1 ?ef1 ?eg2 ?ex2 ?ek2 ?eb2 ?et2 ?ea2 ?ec2 ?ed2 ?ee2 ?ef2 ?eg3 ?ex3 ?ek3 ?eb3 ?et3 ?ea3 ?ec3 ?ed3 ?ee3 ?ef3 ?eg4 ?ex4 ?ek4 ?eb4 ?et4 ?ea4 ?ec4 ?ed4 ?ee4 ?ef4 ?eg5 ?ex5 ?ek5 ?eb5 ?et5 ?ea5 ?ec5 ?ed5 ?ee5 ?ef5 ?eg6 ?ex6 ?ek6 ?eb6 ?et6 ?ea6 ?ec6 ?ed6 ?ee6 ?ef6 ?eg7 ?ex7 ?ek7 ?eb7 ?et7 ?ea7 ?ec7 ?ed7 ?ee7 ?ef7 ?eg8 ?ex8 ?ek8 ?eb8 ?et8 ?ea8 ?ec8 ?ed8 ?ee8 ?ef8 ?eg9 ?ex9 ?ek9 ?eb9 ?et9 ?ea9 ?ec9 ?ed9 ?ee9 ?ef9 ?eg10 ?ex10 ?ek10 ?eb10 ?et10 ?ea10 ?ec10 ?ed10 ?ee10 ?ef10 ?ego ?eto ?ep0_0 ?ep0_1 ?ep0_2 ?ep0_3 ?ep0_4 ?ep0_5 ?ep0_6 ?ep0_7 ?ep0_8 ?ep0_9 ?ep0_10 ?ep1_0 ?ep1_1 ?ep1_2 ?ep1_3 ?ep1_4 ?ep1_5 ?ep1_6 ?ep1_7 ?ep1_8 ?ep1_9 ?ep1_10 ?ev0 ?ev1 ?g_MOST_MARKS ?g_SEEN_SIGNS ?g_UNSEEN ?z_ValueError ?z_bool ?z_enumerate ?z_int ?z_isinstance ?z_len ?z_list ?z_min ?z_range ?z_repr ?z_sorted ?z_str ?z_tuple
    (case a0 => k_is)
    (case l0 => k_is)
    (case q0 => k_is)
    (case k0 => k_is)
    (case a1 => k_is)
    (case l1 => k_is)
    (case q1 => k_is)
    (case k1 => k_is)
    (case a2 => k_is)
    (case l2 => k_is)
    (case q2 => k_is)
    (case k2 => k_is)
    (case a3 => k_is)
    (case l3 => k_is)
    (case q3 => k_is)
    (case k3 => k_is)
    (case a4 => k_is)
    (case l4 => k_is)
    (case q4 => k_is)
    (case k4 => k_is)
    (case a5 => k_is)
    (case l5 => k_is)
    (case q5 => k_is)
    (case k5 => k_is)
    (case a6 => k_is)
    (case l6 => k_is)
    (case q6 => k_is)
    (case k6 => k_is)
    (case a7 => k_is)
    (case l7 => k_is)
    (case q7 => k_is)
    (case k7 => k_is)
    (case a8 => k_is)
    (case l8 => k_is)
    (case q8 => k_is)
    (case k8 => k_is)
    (case a9 => k_is)
    (case l9 => k_is)
    (case q9 => k_is)
    (case k9 => k_is)
    (case a10 => k_is)
    (case l10 => k_is)
    (case q10 => k_is)
    (case k10 => k_is)
    (case a11 => k_is)
    (case l11 => k_is)
    (case q11 => k_is)
    (case k11 => k_is)
    (case a12 => k_is)
    (case l12 => k_is)
    (case q12 => k_is)
    (case k12 => k_is)
    (case a13 => k_is)
    (case l13 => k_is)
    (case q13 => k_is)
    (case k13 => k_is)
    (case eg0 => k_is)
    (case ex0 => k_exc)
    (case ek0 => k_is)
    (case eb0 => k_is)
    (case et0 => k_is)
    (case ea0 => k_is)
    (case ec0 => k_is)
    (case ed0 => k_is)
    (case ee0 => k_is)
    (case ef0 => k_is)
    (case eg1 => k_is)
    (case ex1 => k_exc)
    (case ek1 => k_is)
    (case eb1 => k_is)
    (case et1 => k_is)
    (case ea1 => k_is)
    (case ec1 => k_is)
    (case ed1 => k_is)
    (case ee1 => k_is)
    (case ef1 => k_is)
    (case eg2 => k_is)
    (case ex2 => k_exc)
    (case ek2 => k_is)
    (case eb2 => k_is)
    (case et2 => k_is)
    (case ea2 => k_is)
    (case ec2 => k_is)
    (case ed2 => k_is)
    (case ee2 => k_is)
    (case ef2 => k_is)
    (case eg3 => k_is)
    (case ex3 => k_exc)
    (case ek3 => k_is)
    (case eb3 => k_is)
    (case et3 => k_is)
    (case ea3 => k_is)
    (case ec3 => k_is)
    (case ed3 => k_is)
    (case ee3 => k_is)
    (case ef3 => k_is)
    (case eg4 => k_is)
    (case ex4 => k_exc)
    (case ek4 => k_is)
    (case eb4 => k_is)
    (case et4 => k_is)
    (case ea4 => k_is)
    (case ec4 => k_is)
    (case ed4 => k_is)
    (case ee4 => k_is)
    (case ef4 => k_is)
    (case eg5 => k_is)
    (case ex5 => k_exc)
    (case ek5 => k_is)
    (case eb5 => k_is)
    (case et5 => k_is)
    (case ea5 => k_is)
    (case ec5 => k_is)
    (case ed5 => k_is)
    (case ee5 => k_is)
    (case ef5 => k_is)
    (case eg6 => k_is)
    (case ex6 => k_exc)
    (case ek6 => k_is)
    (case eb6 => k_is)
    (case et6 => k_is)
    (case ea6 => k_is)
    (case ec6 => k_is)
    (case ed6 => k_is)
    (case ee6 => k_is)
    (case ef6 => k_is)
    (case eg7 => k_is)
    (case ex7 => k_exc)
    (case ek7 => k_is)
    (case eb7 => k_is)
    (case et7 => k_is)
    (case ea7 => k_is)
    (case ec7 => k_is)
    (case ed7 => k_is)
    (case ee7 => k_is)
    (case ef7 => k_is)
    (case eg8 => k_is)
    (case ex8 => k_exc)
    (case ek8 => k_is)
    (case eb8 => k_is)
    (case et8 => k_is)
    (case ea8 => k_is)
    (case ec8 => k_is)
    (case ed8 => k_is)
    (case ee8 => k_is)
    (case ef8 => k_is)
    (case eg9 => k_is)
    (case ex9 => k_exc)
    (case ek9 => k_is)
    (case eb9 => k_is)
    (case et9 => k_is)
    (case ea9 => k_is)
    (case ec9 => k_is)
    (case ed9 => k_is)
    (case ee9 => k_is)
    (case ef9 => k_is)
    (case eg10 => k_is)
    (case ex10 => k_exc)
    (case ek10 => k_is)
    (case eb10 => k_is)
    (case et10 => k_is)
    (case ea10 => k_is)
    (case ec10 => k_is)
    (case ed10 => k_is)
    (case ee10 => k_is)
    (case ef10 => k_is)
    (case ego => k_is)
    (case eto => k_is)
    (case ep0_0 => k_is)
    (case ep0_1 => k_is)
    (case ep0_2 => k_is)
    (case ep0_3 => k_is)
    (case ep0_4 => k_is)
    (case ep0_5 => k_is)
    (case ep0_6 => k_is)
    (case ep0_7 => k_is)
    (case ep0_8 => k_is)
    (case ep0_9 => k_is)
    (case ep0_10 => k_is)
    (case ep1_0 => k_is)
    (case ep1_1 => k_is)
    (case ep1_2 => k_is)
    (case ep1_3 => k_is)
    (case ep1_4 => k_is)
    (case ep1_5 => k_is)
    (case ep1_6 => k_is)
    (case ep1_7 => k_is)
    (case ep1_8 => k_is)
    (case ep1_9 => k_is)
    (case ep1_10 => k_is)
    (case ev0 => k_is)
    (case ev1 => k_is)
    (case g_MOST_MARKS => k_is)
    (case g_SEEN_SIGNS => k_is)
    (case g_UNSEEN => k_is)
    (case z_ValueError => k_is)
    (case z_bool => k_is)
    (case z_enumerate => k_is)
    (case z_int => k_is)
    (case z_isinstance => k_is)
    (case z_len => k_is)
    (case z_list => k_is)
    (case z_min => k_is)
    (case z_range => k_is)
    (case z_repr => k_is)
    (case z_sorted => k_is)
    (case z_str => k_is)
    (case z_tuple => k_is)
#print axioms PySem.Challenge.cw_rimprints_k61_no_pieces_no_lengths_holds
