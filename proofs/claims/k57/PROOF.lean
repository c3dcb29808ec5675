import PyProof.Rows.All
import Wide.All
import OpenK.AllK
import Wide.FinOn
import HandS.ForMost
import HandS.Walk
import HandS.Evl
import HandS.IsInst
import HandS.Wide
import HandS.Set
import HandS.RaiseMore
import HandS.Replace
import HandS.ReplaceLit
import PyProof.StrLawsReplace
import PyProof.ToksMono
import PySem.Challenge.RW_rimprints_k57_what_stands_beneath
set_option Elab.async false
set_option maxRecDepth 100000
set_option maxHeartbeats 4000000
set_option linter.all false
namespace RA
open PySem PySem.Spec PyProof.Rows L2

/-! ## enumerate(text) -/
section
def ItES (x : Str) : It :=
  ⟨fun i _ => i < x.cps.size,
   fun i H v H' => ∃ T c, v = .ref T ∧ H T = none ∧ H' = upd H T (.tup [.int (i : Nat), .str ⟨#[c]⟩]) ∧ x.cps[i]? = some c,
   fun i _ => x.cps.size ≤ i⟩
theorem strType_or (x : Str) : strIterType x = "str_ascii_iterator" ∨ strIterType x = "str_iterator" := by
  unfold strIterType
  cases x.cps.all (· < 128) <;> simp
theorem drawsStr {prog : Program} {w : World} {A : Around} (hh : A.handled = none) (it : Addr) (x : Str) (t : Tok) :
    Draws prog w A it [it] x.cps.size (fun i v => ∃ c u, x.cps[i]? = some c ∧ v = .str ⟨#[c]⟩ u) (fun i h => h.IsStrIter it (strIterType x) x t i) := by
  rcases strType_or x with e | e <;> rw [e]
  · exact Draws.strAscii hh it x t
  · exact Draws.strWide hh it x t
theorem turn_enumS {P : Program} {w : World} {K : PySem.W.Frag} {elts : List Expr} {kk : Nat} {tpos : Pos} (x : Str) (t : Tok) (e it : Addr) :
    Turn P w K (.Tuple elts kk tpos) (ItES x) [e, it] e
      (fun i h => (∃ old, IsEnum h e it ((i : Nat) : Int) old) ∧ h.IsStrIter it (strIterType x) x t i ∧ e ≠ it) where
  mem := by simp
  obj := fun i h st b hb => by
    obtain ⟨⟨old, he⟩, ⟨o, ho, hc, hd⟩, _⟩ := st
    have e' : b = e ∨ b = it := by simpa using hb
    rcases e' with z | z
    · subst z
      exact ⟨_, he, fun v q => nomatch q⟩
    · subst z
      exact ⟨o, ho, fun v q => by rw [hd] at q; cases q⟩
  keep := fun i h h' st k => by
    obtain ⟨⟨old, he⟩, ⟨o, ho, r⟩, hne⟩ := st
    exact ⟨⟨old, k e (by simp) _ he⟩, ⟨o, k it (by simp) o ho, r⟩, hne⟩
  item := by
    intro X hP hw hK hc i pins s σ H E I hf st hg
    subst hP hw hK
    obtain ⟨⟨old, he⟩, hit, hne⟩ := st
    have hel := Heap.lt_size he
    have hil : it < s.heap.objs.size := by
      obtain ⟨_, q, _⟩ := hit
      exact Heap.lt_size q
    refine wpAny_pyNext_enum_itemD (drawsStr (A := X.A.in1) (I.ok.hd hc) it x t) he hit hg hne (by simp [hne]) fun v h' tk hv ho hit' hT hsz hk => ?_
    obtain ⟨c, u, hcx, rfl⟩ := hv
    refine ⟨_, rfl, wpAny_letOwnedTupleGo_enum (s := { s with heap := h', toks := tk + 1 }) ho fun h2 he2 sb => ?_⟩
    have hT2 : h2.get? s.heap.objs.size = some { cls := .type "tuple", data := .seq #[.int i tk, .str ⟨#[c]⟩ u] } :=
      (sb.2 _ (Nat.ne_of_gt hel)).trans hT
    have new : ObjOk X.prog X.w (upd H s.heap.objs.size (.tup [.int (i : Nat), .str ⟨#[c]⟩])) h2 s.heap.objs.size (.tup [.int (i : Nat), .str ⟨#[c]⟩]) :=
      ⟨by show 2 ≤ sizeLine; decide, [.int i tk, .str ⟨#[c]⟩ u], .cons ⟨_, rfl⟩ (.cons ⟨_, rfl⟩ .nil), ⟨_, hT2, rfl, _, rfl⟩⟩
    have I1 := I.turnedNew (t' := tk + 1) (ch := [e, it]) (h' := h2)
      (fun b ob hb q => (sb.2 b (fun z => hb (by simp [z]))).trans (hk b ob (fun z => hb (by simp [z])) (fun z => hb (by simp [z])) q)) hf (Nat.le_refl _) new
    refine ⟨.ref s.heap.objs.size, _, I1, rfl, ⟨_, c, rfl, I.hok.fresh (Nat.le_refl _), rfl, hcx⟩, ⟨⟨Value.str ⟨#[c]⟩ u, ?_⟩, ?_, hne⟩, fun b hb => ?_⟩
    · have e1 : ((i + 1 : Nat) : Int) = (i : Int) + 1 := by omega
      rw [e1]
      exact he2
    · obtain ⟨oi, q1, q2⟩ := hit'
      exact ⟨oi, (sb.2 it (Ne.symm hne)).trans q1, q2⟩
    · have hb' : b < s.heap.objs.size := by
        have e' : b = e ∨ b = it := by simpa using hb
        rcases e' with z | z <;> subst z <;> assumption
      rw [upd_ne (Nat.ne_of_lt hb')]
      exact (hf b hb).1
  done := by
    intro X hP hw hK hc i pins s σ H E I hf st hg
    subst hP hw hK
    obtain ⟨⟨old, he⟩, hit, hne⟩ := st
    obtain ⟨f0, f1, f2, f3, f4, f5⟩ := hf it (by simp)
    have hgi : x.cps.size ≤ i := hg
    have hx : x.cps[i]? = none := Array.getElem?_eq_none hgi
    have D2 : Draws X.prog X.w X.A.in1 it [it] i (fun _ _ => False) (fun j h => j = i ∧ h.IsStrIter it (strIterType x) x t i) := by
      refine ⟨fun _ _ st => ?_, fun _ _ _ st hk => ?_, fun j s Q E hj st _ => ?_, fun s Q E st hE => ?_⟩
      · obtain ⟨_, o, ho, _⟩ := st
        exact ⟨o, ho⟩
      · obtain ⟨z, o, ho, r⟩ := st
        exact ⟨z, o, hk it (by simp) o ho, r⟩
      · exact absurd hj (by rw [st.1]; exact Nat.lt_irrefl _)
      · obtain ⟨_, st⟩ := st
        rcases strType_or x with e1 | e1
        · rw [e1] at st
          exact wpAny_nextOf_ascii_end (A := X.A.in1) (I.ok.hd hc) st hx hE
        · rw [e1] at st
          exact wpAny_nextOf_wide_end (A := X.A.in1) (I.ok.hd hc) st hx hE
    exact wpAny_pyNext_enum_endD D2 he ⟨rfl, hit⟩ fun h' eb => ⟨rfl, I.turned (t' := s.toks) (fun b o hb q => eb b o hb q) f0 f1 f3 f4 f5⟩
  self := fun A i s Q E st h => by
    obtain ⟨⟨_, he⟩, _⟩ := st
    exact wpAny_pyIter_enum he h
def iEnumS (ta : TA) : TI := fun σ H R => ta σ H fun vs H1 => ∃ x, vs = [.str x] ∧ R (ItES x) H1
theorem pi_enumS {X : Cx} {e : Expr} {ta : TA} {p pos tpos : Pos} {elts : List Expr} {kk : Nat} (hg : Gl X "enumerate") (hm : X.mg "enumerate" = none)
    (ha : PA X [e] ta) (hs : starEach [e] X.env = [(false, eval e X.env)] := by rfl) :
    PI X (.Tuple elts kk tpos) (.Call (.Name "enumerate" p) [e] [] pos) (iEnumS ta) := by
  refine ⟨fun pins s σ H R I h => ?_⟩
  refine Call_ (ld_blt I hg hm boot_enumerate (PyProof.Rows.callWith_type1 (thn (ha.run pos pins s σ H _ I h) fun us s1 hh => ?_) hs rfl))
  obtain ⟨vs, H1, I1, r1, x, ex, q⟩ := hh
  subst ex
  cases r1 with
  | cons r rr =>
    cases rr
    obtain ⟨t, rfl⟩ := r
    refine call_enumerate_str fun h' he hit hsz hk => wpAny_pyIter_enum he ?_
    have I2 : Inv X pins σ H1 { s1 with heap := h' } := I1.kept (t' := s1.toks) hk
    refine ⟨s1.heap.objs.size + 1, [s1.heap.objs.size + 1, s1.heap.objs.size], _, _, H1, rfl, I2,
      turn_enumS x t (s1.heap.objs.size + 1) s1.heap.objs.size, ⟨⟨.none, he⟩, hit, Nat.succ_ne_self _⟩, fun b hb => ?_, q⟩
    have e' : b = s1.heap.objs.size + 1 ∨ b = s1.heap.objs.size := by simpa using hb
    have hle : s1.heap.objs.size ≤ b := by
      rcases e' with z | z <;> subst z
      · exact Nat.le_add_right _ _
      · exact Nat.le_refl _
    exact I1.fpOk hle (I1.hok.fresh hle)
end

/-! ## text[lo:hi:step] -/
section
variable {X : Cx}
/-- the signs that a slice with a step picks -/
def stepS (z : Str) (lo hi : Option Int) (st : Int) : Str :=
  if (st == 1 && (Builtin.Str.strSliceIndices lo hi st z.length).length == z.length) = true then z
  else ⟨((Builtin.Str.strSliceIndices lo hi st z.length).filterMap (z.cps[·]?)).toArray⟩
def tSlS (te : TE) (tl th : TO) (ts : TE) : TE := fun σ H Q => te σ H fun x H1 => tl σ H1 fun lo H2 => th σ H2 fun hi H3 => ts σ H3 fun y H4 =>
  ∃ z st, x = .str z ∧ y = .int st ∧ st ≠ 0 ∧ (stepS z lo hi st).length ≤ sizeLine ∧ Q (.str (stepS z lo hi st)) H4
theorem pe_sliceS {e st : Expr} {lo hi : Option Expr} {te ts : TE} {tl th : TO} {p2 pos : Pos} (he : PE X e te) (hl : PO X lo tl) (hu : PO X hi th) (hs : PE X st ts) :
    PE X (.Subscript e (.Slice lo hi (some st) p2) pos) (tSlS te tl th ts) := by
  refine ⟨fun pins s σ H Q I h => ?_⟩
  refine Subscript_ (thn (he.run pins s σ H _ I h) fun v s1 hh => ?_)
  obtain ⟨x, H1, I1, r1, q1⟩ := hh
  refine wpAny_Slice (thn (hl.run pins s1 σ H1 _ I1 q1) fun vl s2 hh2 => ?_)
  obtain ⟨l, H2, I2, pl, q2⟩ := hh2
  refine thn (hu.run pins s2 σ H2 _ I2 q2) fun vu s3 hh3 => ?_
  obtain ⟨u, H3, I3, pu, q3⟩ := hh3
  show wpAny _ _ (eval st X.env) _ _ s3
  refine thn (hs.run pins s3 σ H3 _ I3 q3) fun vs s4 hh4 => ?_
  obtain ⟨y, H4, I4, r4, z, k, rfl, rfl, hk, hz, q⟩ := hh4
  obtain ⟨tx, rfl⟩ := r1
  obtain ⟨tk, rfl⟩ := r4
  obtain ⟨l', rfl, rfl⟩ := IsPart.raw pl
  obtain ⟨u', rfl, rfl⟩ := IsPart.raw pu
  have I5 : Inv X pins σ H4 { s4 with heap := s4.heap.push { cls := .type "slice", data := .fields #[partValue l', partValue u', .int k tk] } } :=
    I4.kept (t' := s4.toks) fun b ob q => Heap.get?_push_of_some _ q
  refine tail_any (T := "str") (ops := [.ref s4.heap.objs.size, .str z tx]) (typeIs_str _ _ _) F.slot_str_getitem.lookup ?_ (by with_unfolding_all rfl)
  refine wpAny_getItem_str_slice (l := l') (u := u') (st := some (k, tk)) ⟨_, Heap.get?_push_size _ rfl, rfl, rfl⟩ ?_ ?_
  · show (k == 0) = false
    simpa using hk
  · unfold stepS at q hz
    unfold sliceMade slicePicked
    show Made.post (if (k == 1 && (Builtin.Str.strSliceIndices (l'.map (·.1)) (u'.map (·.1)) k z.length).length == z.length) = true then _ else _) _ _
    by_cases c : (k == 1 && (Builtin.Str.strSliceIndices (l'.map (·.1)) (u'.map (·.1)) k z.length).length == z.length) = true
    · rw [if_pos c] at q
      rw [if_pos c]
      exact ⟨.str z, H4, I5, ⟨tx, rfl⟩, q⟩
    · rw [if_neg c] at q hz
      rw [if_neg c]
      exact ⟨hz, .str _, H4, I5.tok _, ⟨_, rfl⟩, q⟩
end
end RA

/-! Sets of texts: set(xs) of a list of texts, and sorted of it. -/
namespace RB
open PySem PySem.Spec PyProof.Rows L2

def txOf (e : Int × Value) : Str := match e.2 with | .str z _ => z | _ => Str.empty
def GoodT (w : World) (e : Int × Value) : Prop := ∃ z tk, e.2 = Value.str z tk ∧ e.1 = hashStr w z
/-- the texts met, each once, in the order of their first place -/
def addT (l : List Str) (z : Str) : List Str := if z ∈ l then l else l ++ [z]
def metT (xs : List Str) : List Str := xs.foldl addT []
/-- a set object at a whose members are the texts l -/
def SetT (w : World) (h : Heap) (a : Addr) (l : List Str) : Prop :=
  ∃ o es ep t, h.get? a = some o ∧ o.ExactSet ∧ o.data = .set es ep t ∧ (∀ e ∈ es.toList, GoodT w e) ∧ (es.toList.map txOf).Perm l ∧ l.Nodup ∧
    es.size < scanBound ∧ t.fits es.size = true ∧ Ris t.place.toList ∧ (w.params.followText "set-order" = true ∨ t.led = true)

section
variable {P : Program} {w : World} {A : Around} {E : Value → Shared → Prop} {s : Shared} {a : Addr} {l : List Str}

theorem goodT_is {e : Int × Value} (g : GoodT w e) (k : Str) : (PySem.strKind P w).is k e.2 = true ↔ txOf e = k := by
  obtain ⟨z, tk, h1, _⟩ := g
  unfold txOf
  rw [h1]
  show (Value.isStrOf k (.str z tk) = true) ↔ z = k
  constructor
  · intro h
    obtain ⟨u, e⟩ := Value.isStrOf_shape h
    injection e
  · intro e
    subst e
    exact keyIs_str z tk
theorem goodT_elems {l : List (Int × Value)} (g : ∀ e ∈ l, GoodT w e) : ElemsOf (PySem.strKind P w) l := fun e he => by
  obtain ⟨z, tk, h1, h2⟩ := g e he
  refine ⟨⟨z, ?_, h2⟩, ?_⟩
  · rw [h1]
    exact keyIs_str z tk
  · rw [h1]
    rfl
theorem txOf_mem {l : List (Int × Value)} (g : ∀ e ∈ l, GoodT w e) (k : Str) : k ∈ l.map txOf ↔ ∃ e ∈ l, (PySem.strKind P w).is k e.2 = true := by
  rw [List.mem_map]
  exact ⟨fun ⟨e, he, q⟩ => ⟨e, he, (goodT_is (g e he) k).2 q⟩, fun ⟨e, he, q⟩ => ⟨e, he, (goodT_is (P := P) (g e he) k).1 q⟩⟩
theorem SetT.kept {h h' : Heap} (R : SetT w h a l) (k : ∀ o, h.get? a = some o → h'.get? a = some o) : SetT w h' a l := by
  obtain ⟨o, es, ep, t, ho, r⟩ := R
  exact ⟨o, es, ep, t, k o ho, r⟩
theorem SetT.size {h : Heap} (R : SetT w h a l) : l.length < scanBound := by
  obtain ⟨o, es, ep, t, _, _, _, _, p, _, hb, _⟩ := R
  have q := p.length_eq
  rw [List.length_map, Array.length_toList] at q
  rw [← q]
  exact hb

/-- the table behind a new member -/
theorem setT_tail {g : Bool → Sem Unit} (hg : ∀ (b : Bool) (s₁ : Shared) (Q' : Unit → Shared → Prop), Q' () s₁ → wpAny (model P w) A (g b) Q' E s₁)
    {o : Obj} {es : Array (Int × Value)} {ep : Nat} {t : SetTable} (ho : s.heap.get? a = some o) (hex : o.ExactSet) (hd : o.data = .set es ep t)
    {es1 : Array (Int × Value)} {t2 : SetTable} {l' : List Str} (g1 : ∀ e ∈ es1.toList, GoodT w e) (p1 : (es1.toList.map txOf).Perm l') (nd : l'.Nodup)
    (hb : es1.size < scanBound) (hf : t2.fits es1.size = true) (hr : Ris t2.place.toList) (hl : w.params.followText "set-order" = true ∨ t2.led = true)
    {wasDummy : Bool} {R : Option Bool → Shared → Prop} (hR : ∀ h', Heap.SameBut a s.heap h' → SetT w h' a l' → R (some true) { s with heap := h' }) :
    wpAny (model P w) A (do
        storeSet a es1 t2
        if (!wasDummy && t2.tooFull) = true then do
            g (relayAll t2 es1 (SetTable.grown es1.size)).2.2
            storeSet a (relayAll t2 es1 (SetTable.grown es1.size)).1 (relayAll t2 es1 (SetTable.grown es1.size)).2.1
            pure (some true)
          else pure (some true)) R E s := by
  refine wpAny_bind (wpAny_storeSet_of ho hd ?_ (fits_of_scanBound hb))
  have ho1 := store_at (es' := es1) (t' := t2) ho hd
  have sb1 := Heap.SameBut.update s.heap a (Obj.putSet es1 t2)
  by_cases c : (!wasDummy && t2.tooFull) = true
  · rw [if_pos c]
    have pm := relayAll_perm t2 es1 (SetTable.grown es1.size)
    have hf3 := relayAll_fits t2 es1 (SetTable.grown es1.size)
    have hr3 := relayAll_ris t2 es1 (SetTable.grown es1.size)
    have hl3 := relayAll_led t2 es1 (SetTable.grown es1.size)
    revert pm hf3 hr3 hl3
    generalize relayAll t2 es1 (SetTable.grown es1.size) = Z
    intro pm hf3 hr3 hl3
    have hsz : Z.1.size = es1.size := by
      have := pm.length_eq
      simpa using this
    refine wpAny_bind (hg _ _ _ (wpAny_bind (wpAny_storeSet_of ho1 rfl ?_ (fits_of_scanBound (by rw [hsz]; exact hb)))))
    have ho2 := store_at (es' := Z.1) (t' := Z.2.1) ho1 rfl
    refine wpAny_pure (hR _ (sb1.trans (Heap.SameBut.update _ a _)) ?_)
    exact ⟨_, Z.1, _, Z.2.1, ho2, hex, rfl, fun e he => g1 e (pm.mem_iff.mp he), (pm.map txOf).trans p1, nd, by rw [hsz]; exact hb, hf3, hr3, hl.imp id fun z => by rw [hl3]; exact z⟩
  · rw [if_neg c]
    exact wpAny_pure (hR _ sb1 ⟨_, es1, _, t2, ho1, hex, rfl, g1, p1, nd, hb, hf, hr, hl⟩)

theorem setT_add {k : Str} {tk : Tok} {Q : Bool → Shared → Prop} (R : SetT w s.heap a l) (room : l.length + 1 < scanBound)
    (hQ : ∀ h' b, Heap.SameBut a s.heap h' → SetT w h' a (addT l k) → Q b { s with heap := h' }) :
    wpAny (model P w) A (setAddHashed a (.str k tk) (hashStr w k)) Q E s := by
  obtain ⟨o, es, ep, t, ho, hex, hd, g, p, nd, hb, hf, hr, hl⟩ := R
  have hkey : (PySem.strKind P w).is k (.str k tk) = true := keyIs_str k tk
  have hsc : (Value.str k tk).scannable = true := rfl
  have hel : ElemsOf (PySem.strKind P w) es.toList := goodT_elems g
  have hlen : es.size = l.length := by simpa using p.length_eq
  unfold setAddHashed setAddHashedIn
  refine wpAny_holding (wpAny_bind (wpAny_setState_of ho hd hf ?_))
  dsimp only
  rw [byScan_of hsc hb hel, if_pos rfl]
  unfold setAddByScan
  refine wpAny_bind (wpAny_bind (wpAny_rule (wpAny_bind (wpAny_setScan_of hkey ho hd hf hel ?_))))
  cases hfi : List.findIdx? (fun e => (PySem.strKind P w).is k e.2) es.toList with
  | some j =>
    obtain ⟨hj, pj, _⟩ := List.findIdx?_eq_some_iff_getElem.mp hfi
    have hin : k ∈ l := p.mem_iff.mp ((txOf_mem (P := P) g k).2 ⟨_, List.getElem_mem hj, pj⟩)
    have e1 : addT l k = l := if_pos hin
    exact wpAny_pure (wpAny_pure (hQ s.heap _ (Heap.SameBut.refl a s.heap) ⟨o, es, ep, t, ho, hex, hd, g, by rw [e1]; exact p, by rw [e1]; exact nd, hb, hf, hr, hl⟩))
  | none =>
    have hnot : k ∉ l := fun z => by
      obtain ⟨e, he, q⟩ := (txOf_mem (P := P) g k).1 (p.mem_iff.mpr z)
      have c := List.findIdx?_eq_none_iff.mp hfi e he
      rw [q] at c
      cases c
    have e1 : addT l k = l ++ [k] := if_neg hnot
    have hgw : ∀ (b : Bool) {s₁ : Shared} {Q' : Unit → Shared → Prop}, Q' () s₁ →
        wpAny (model P w) A (match b with | true => rule "set.scan.the-table-gave-way" | false => pure ()) Q' E s₁ :=
      fun b s₁ Q' q => by
        cases b
        · exact wpAny_pure q
        · exact wpAny_rule q
    have pm := layNew_perm t es (hashStr w k) (.str k tk)
    have hf1 := layNew_fits t es (hashStr w k) (.str k tk)
    have hr1 := layNew_ris t es (hashStr w k) (.str k tk) hr
    have hl1 := layNew_led t es (hashStr w k) (.str k tk)
    have ek : (PySem.strKind P w).hash k = hashStr w k := rfl
    try rw [ek]
    revert pm hf1 hr1 hl1
    generalize layNew t es (hashStr w k) (.str k tk) = Z
    intro pm hf1 hr1 hl1
    obtain ⟨es1, t1, wasDummy, gave⟩ := Z
    dsimp only at pm hf1 hr1 hl1 ⊢
    rw [Array.toList_push] at pm
    have pk : (es1.toList.map txOf).Perm (l ++ [k]) := by
      have q := pm.map txOf
      rw [List.map_append] at q
      exact q.trans (p.append_right _)
    have g1 : ∀ e ∈ es1.toList, GoodT w e := fun e he => by
      rcases List.mem_append.mp (pm.mem_iff.mp he) with z | z
      · exact g e z
      · rw [List.mem_singleton.mp z]
        exact ⟨k, tk, rfl, rfl⟩
    have nd1 : (l ++ [k]).Nodup := List.nodup_append.mpr ⟨nd, by simp, fun x hx y hy e => hnot (by rw [← List.mem_singleton.mp hy, ← e]; exact hx)⟩
    have hsz : es1.size = l.length + 1 := by simpa using pk.length_eq
    have hb1 : es1.size < scanBound := by rw [hsz]; exact room
    have hled : w.params.followText "set-order" = true ∨ t1.led = true := hl.imp id fun z => by rw [hl1]; exact z
    have fin : ∀ h', Heap.SameBut a s.heap h' → SetT w h' a (l ++ [k]) → Q true { s with heap := h' } := fun h' sb r => hQ h' true sb (by rw [e1]; exact r)
    refine wpAny_bind (hgw _ ?_)
    split
    · refine wpAny_bind ?_
      rw [hashByValue_scannable 8 hsc]
      refine wpAny_pure ?_
      refine setT_tail ?_ ho hex hd g1 pk nd1 hb1 ?_ ?_ ?_ ?_
      · intro b s₁ Q' q
        cases b <;> first | exact wpAny_pure q | exact wpAny_rule q
      · first | exact hf1 | (split <;> first | exact hf1 | exact SetTable.fits_plain_off hf1)
      · first | exact hr1 | (split <;> exact hr1)
      · first | exact hled | (split <;> exact hled)
      · intro h' sb r
        exact wpAny_pure (fin h' sb r)
    · refine wpAny_bind (wpAny_pure ?_)
      rw [if_pos rfl]
      refine setT_tail ?_ ho hex hd g1 pk nd1 hb1 hf1 hr1 hled ?_
      · intro b s₁ Q' q
        cases b <;> first | exact wpAny_pure q | exact wpAny_rule q
      · intro h' sb r
        exact wpAny_pure (fin h' sb r)
end
section
variable {P : Program} {w : World} {A : Around} {I : Addr} {fp wr : List Addr} {G : Array GenState → Array GenState → Prop} {n : Nat} {Pv : Nat → Value → Prop} {St : Nat → Shared → Prop}

theorem metT_take (xs : List Str) {i : Nat} (h : i < xs.length) : metT (xs.take (i + 1)) = addT (metT (xs.take i)) xs[i] := by
  unfold metT
  rw [List.take_succ_eq_append_getElem h, List.foldl_append]
  rfl
theorem addT_le (l : List Str) (z : Str) : (addT l z).length ≤ l.length + 1 := by
  unfold addT
  split
  · exact Nat.le_succ _
  · simp
theorem foldT_le (xs : List Str) : ∀ l : List Str, (xs.foldl addT l).length ≤ l.length + xs.length := by
  induction xs with
  | nil => intro l; simp
  | cons x r ih =>
    intro l
    rw [List.foldl_cons]
    have h1 := ih (addT l x)
    have h2 := addT_le l x
    rw [List.length_cons]
    omega
theorem metT_le (xs : List Str) : (metT xs).length ≤ xs.length := by
  have := foldT_le xs []
  simpa [metT] using this
theorem addT_nodup {l : List Str} {z : Str} (h : l.Nodup) : (addT l z).Nodup := by
  unfold addT
  split
  · exact h
  · rename_i hn
    exact List.nodup_append.mpr ⟨h, by simp, fun x hx y hy e => hn (by rw [← List.mem_singleton.mp hy, ← e]; exact hx)⟩
theorem addT_mem {l : List Str} {z k : Str} : k ∈ addT l z ↔ k ∈ l ∨ k = z := by
  unfold addT
  split
  · rename_i h
    exact ⟨.inl, fun q => q.elim id fun e => e ▸ h⟩
  · simp
theorem foldT_mem (xs : List Str) (k : Str) : ∀ l : List Str, k ∈ xs.foldl addT l ↔ k ∈ l ∨ k ∈ xs := by
  induction xs with
  | nil => intro l; simp
  | cons x r ih =>
    intro l
    rw [List.foldl_cons, ih, addT_mem, List.mem_cons]
    exact ⟨fun q => q.elim (fun q => q.elim .inl fun e => .inr (.inl e)) fun q => .inr (.inr q),
      fun q => q.elim (fun q => .inl (.inl q)) fun q => q.elim (fun e => .inl (.inr e)) .inr⟩
theorem metT_mem {xs : List Str} {k : Str} : k ∈ metT xs ↔ k ∈ xs := by
  have := foldT_mem xs k []
  simpa [metT] using this
theorem foldT_nodup (xs : List Str) : ∀ l : List Str, l.Nodup → (xs.foldl addT l).Nodup := by
  induction xs with
  | nil => exact fun l h => h
  | cons x r ih => exact fun l h => ih _ (addT_nodup h)
theorem metT_nodup (xs : List Str) : (metT xs).Nodup := foldT_nodup xs [] List.nodup_nil

theorem setT_loop (W : WalksS P w A.in1 I fp wr G n Pv St) (S : Addr) (hSf : S ∉ fp) (xs : List Str) (hn : xs.length = n)
    (hval : ∀ i v, Pv i v → ∃ t, v = .str (xs.getD i Str.empty) t) (hb : n + 1 < scanBound) (R : Result → Shared → Prop) :
    ∀ (k i : Nat) (s : Shared), n - i = k → i ≤ n → St i s → SetT w s.heap S (metT (xs.take i)) →
      (∀ s', Moved (S :: wr) G s s' → SetT w s'.heap S (metT xs) → R (.ok (.ret .none)) s') →
      codeAny (model P w) A (.builtin "set.update.loop" ⟨[.ref S, .ref I], []⟩) R s := by
  have hSw : S ∉ wr := fun h => hSf (W.sub _ h)
  have hsub : ∀ b ∈ wr, b ∈ S :: wr := fun b hb => List.mem_cons_of_mem _ hb
  intro k
  induction k with
  | zero =>
    intro i s hk hi hst hS hR
    have hin : i = n := by omega
    subst hin
    refine codeAny_builtin F.entry_set_update_loop ?_
    rw [Around.under_plainId F.plain_set_update_loop _]
    show wpAny _ A.in1 (pyNext (.ref I) >>= _) _ _ s
    refine wpAny_bind (W.done s _ _ hst fun s' hm => ?_)
    show wpAny _ A.in1 (ret Value.none) _ _ s'
    refine wpAny_pure (hR s' (hm.mono hsub) ?_)
    have e : xs.take i = xs := List.take_of_length_le (by omega)
    rw [e] at hS
    exact hS.kept fun o q => hm.heap S o hSw q
  | succ k ih =>
    intro i s hk hi hst hS hR
    have hlt : i < n := by omega
    have hlx : i < xs.length := by omega
    refine codeAny_builtin F.entry_set_update_loop ?_
    rw [Around.under_plainId F.plain_set_update_loop _]
    show wpAny _ A.in1 (pyNext (.ref I) >>= _) _ _ s
    refine wpAny_bind (W.item i s _ _ hlt hst fun v s' hP hst' hm => ?_)
    obtain ⟨t, rfl⟩ := hval i v hP
    have hx : xs.getD i Str.empty = xs[i] := by simp [List.getD, hlx]
    have hS' : SetT w s'.heap S (metT (xs.take i)) := hS.kept fun o q => hm.heap S o hSw q
    show wpAny _ A.in1 (holding [Value.str (xs.getD i Str.empty) t] (setAdd S (.str (xs.getD i Str.empty) t)) >>= _) _ _ s'
    refine wpAny_bind (wpAny_holding ?_)
    unfold setAdd
    refine wpAny_holding (wpAny_bind (wpAny_pyHash_str ?_))
    have hroom : (metT (xs.take i)).length + 1 < scanBound := by
      have h1 := metT_le (xs.take i)
      rw [List.length_take] at h1
      omega
    refine setT_add (s := { s' with toks := s'.toks + 1 }) hS' hroom fun h' b hsb hS2 => ?_
    rw [hx, ← metT_take xs hlx] at hS2
    refine wpAny_pure ⟨plainId_quiet F.plain_set_update_loop _, ih (i + 1) _ (by omega) hlt (W.frame _ s' _ _ hst' (Nat.le_succ _) fun b hb o e => ?_) hS2 fun s2 hm2 hq2 => ?_⟩
    · rw [hsb.2 b (fun h : b = S => hSf (by rw [← h]; exact hb))]
      exact e
    · refine hR s2 (Moved.trans W.gtrans ((hm.mono hsub).then_heap (Nat.le_succ _) fun b o hb e => ?_) hm2) hq2
      rw [hsb.2 b (fun h : b = S => hb (by rw [h]; exact List.mem_cons_self))]
      exact e
end

section
variable {P : Program} {w : World} {A : Around} {E : Value → Shared → Prop} {s : Shared}
/-- the empty set, its table known by the world -/
abbrev newSet (w : World) : Obj := { cls := .type "set", dict := none, data := .set #[] 0 (.fresh 0 0 (!w.params.followText "set-order")) }
theorem setT_empty (h : Heap) (w : World) : SetT w (h.push (newSet w)) h.objs.size [] := by
  refine ⟨_, #[], 0, _, Heap.get?_push_size _ rfl, ⟨rfl, rfl, rfl⟩, rfl, fun e he => by simp at he, by simp, List.nodup_nil, by decide, by rfl, List.Pairwise.nil, ?_⟩
  show _ ∨ (!w.params.followText "set-order") = true
  cases w.params.followText "set-order"
  · exact .inr rfl
  · exact .inl rfl
theorem set_made1 (a : Value) {Q₁ : Value → Shared → Prop} (h : Q₁ (.ref s.heap.objs.size) { s with heap := s.heap.push (newSet w) }) :
    codeAny (model P w) A (.call (.builtin "set.__new__") ⟨[.type "set", a], []⟩) (wants Q₁ E) s := by
  refine codeAny_of_tree ?_
  show wpAny _ A.in1 (do checkBuiltinCall "set.__new__" ⟨[.type "set", a], []⟩; again (.builtin "set.__new__" ⟨[.type "set", a], []⟩)) _ _ s
  refine wpAny_bind (wpAny_of_eq (PySem.F.newCall_set_1 a) (wpAny_pure ⟨plainId_quiet PySem.F.plain_set_new _, codeAny_builtin PySem.F.entry_set_new ?_⟩))
  rw [Around.under_plainId PySem.F.plain_set_new _]
  unfold Builtin.«set.__new__» Builtin.Frozenset.newClass
  have hsub := sub_set_self
  obtain ⟨hp, g, d, tk, os⟩ := s
  dsimp only
  wp_walk
  refine wpAny_askSetting (wpAny_pure ?_)
  dsimp only
  simp only [newObj]
  exact wpAny_bind (wpAny_alloc (wpAny_pure (wpAny_pure h)))

theorem strs_get : ∀ {us : List Value} {xs : List Str}, StrsAre us xs → ∀ (i : Nat) (v : Value), us[i]? = some v → ∃ t, v = .str (xs.getD i Str.empty) t
  | _, _, .nil, i, v, h => by simp at h
  | _, _, .cons z t r, 0, v, h => by
    simp at h
    exact ⟨t, h.symm⟩
  | _, _, .cons z t r, i + 1, v, h => strs_get r i v (by simpa using h)

/-- set(xs) -/
theorem call_setT {l : Addr} {items : Array Value} {xs : List Str} {Q : Value → Shared → Prop}
    (hh : A.handled = none) (hl : s.heap.IsList l items) (hi : StrsAre items.toList xs) (hb : xs.length + 1 < scanBound)
    (h : ∀ (h' : Heap) (tk : Nat), SetT w h' s.heap.objs.size (metT xs) → (∀ b o, b < s.heap.objs.size → s.heap.get? b = some o → h'.get? b = some o) →
      Q (.ref s.heap.objs.size) { s with heap := h', toks := tk }) :
    wpAny (model P w) A (call (.type "set") [.ref l]) Q E s := by
  have hsz : items.size = xs.length := by
    have := hi.length
    simpa using this
  obtain ⟨c, tl, hmro⟩ := PySem.F.called_set.mro
  have hmade := PySem.F.called_set.made
  have hsub := PySem.F.called_set.sub
  refine wpAny_call (codeAny_of_tree ?_)
  show wpAny _ _ (callAny (.type "set") _) _ _ _
  refine wpAny_pure ⟨Code.quiet_builtin _ (by decide +kernel), codeAny_builtin PySem.F.entry_type_call ?_⟩
  rw [Around.under_plain (weight_type_call_type "set" [.ref l] []) rfl]
  have h1 := PySem.F.called_set.notType
  have h2 := PySem.F.called_set.canCreate
  have hct := PySem.F.typeCall_set_1 (.ref l)
  repeat (any_goals (first | assumption | wp_step))
  refine codeAny_mono (set_made1 (.ref l) (E := E) (Q₁ := fun obj s₁ => obj = .ref s.heap.objs.size ∧ s₁ = { s with heap := s.heap.push (newSet w) }) ⟨rfl, rfl⟩) fun r s₁ hr => ?_
  cases r with
  | error e => exact hr
  | ok fl =>
    cases fl with
    | ret obj =>
      obtain ⟨rfl, rfl⟩ := hr
      have hS : (s.heap.push (newSet w)).get? s.heap.objs.size = some (newSet w) := Heap.get?_push_size _ rfl
      have hT : Shared.TypeIs { s with heap := s.heap.push (newSet w) } (.ref s.heap.objs.size) "set" := ⟨_, hS, rfl⟩
      have hli := PySem.F.called_set.init.lookup
      have hbi := PySem.F.called_set.init.bind (.ref s.heap.objs.size)
      repeat (any_goals (first | assumption | wp_step))
      refine codeAny_mono (codeAny_call_builtin (R := wants (fun r s₂ => r = .none ∧ ∃ h' tk, s₂ = { s with heap := h', toks := tk } ∧ SetT w h' s.heap.objs.size (metT xs) ∧
          (∀ b o, b < s.heap.objs.size → s.heap.get? b = some o → h'.get? b = some o)) E) PySem.F.called_set.init.plain PySem.F.entry_set_init (check_set_init_1 hT ?_)) fun r₂ s₂ hr₂ => ?_
      · obtain ⟨ol, hol, hcl, nl, hdl⟩ := hl
        obtain ⟨ocls, odict, odata, oslots⟩ := ol
        simp only at hcl hdl
        subst hcl
        subst hdl
        have hol' : (s.heap.push (newSet w)).get? l = some { cls := .type "list", dict := odict, data := .seq items nl, slots := oslots } := Heap.get?_push_of_some _ hol
        have hsls := PySem.F.sub_list_set
        have hslf := PySem.F.sub_list_frozenset
        have hne : (Value.type "list" == Value.type "dict") = false := by decide
        have hl1 : (s.heap.push (newSet w)).IsList l items := ⟨_, hol', rfl, nl, rfl⟩
        have hlS : l < s.heap.objs.size := Heap.lt_size hol
        unfold Builtin.«set.__init__» noKeywords Builtin.Frozenset.updateFrom
        generalize hPI : pyIter = PI
        wp_walk
        subst hPI
        refine wpAny_pyIter_list hl1 (wpAny_bind (wpAny_runValue ?_))
        have hneI : l ≠ (s.heap.push (newSet w)).objs.size := by
          rw [Heap.size_push]
          exact Nat.ne_of_lt (Nat.lt_succ_of_lt hlS)
        have hSf : s.heap.objs.size ∉ [(s.heap.push (newSet w)).objs.size, l] := by
          rw [Heap.size_push]
          intro hm
          rcases List.mem_cons.mp hm with z | z
          · exact absurd z (Nat.ne_of_lt (Nat.lt_succ_self _))
          · exact absurd (List.mem_singleton.mp z) (Nat.ne_of_gt hlS)
        refine setT_loop (n := items.size) ((Walks.list (by simp [hh]) _ l hneI items).toS) s.heap.objs.size hSf xs hsz.symm (fun i v hv => strs_get hi i v (by rw [Array.getElem?_toList]; exact hv))
          (by rw [hsz]; exact hb) _ (items.size - 0) 0 _ (by omega) (Nat.zero_le _) ⟨⟨_, Heap.get?_push_size _ rfl, rfl, rfl⟩, hl1.push _⟩ ?_ ?_
        · exact (setT_empty s.heap w).kept fun o q => Heap.get?_push_of_some _ q
        · intro s' hm hS'
          obtain ⟨h', g', d', tk', os'⟩ := s'
          obtain rfl : g' = s.gens := hm.gens
          obtain rfl : d' = s.drawn := hm.drawn
          obtain rfl : os' = s.os := hm.os
          show wpAny _ _ _ _ _ _
          refine wpAny_pure ?_
          show wpAny _ _ (ret Value.none) _ _ _
          refine wpAny_pure ⟨rfl, h', tk', rfl, hS', fun b o hb e => hm.heap b o ?_ (Heap.get?_push_of_some _ (Heap.get?_push_of_some _ e))⟩
          rw [Heap.size_push]
          intro z
          rcases List.mem_cons.mp z with z | z
          · exact absurd z (Nat.ne_of_lt hb)
          · exact absurd (List.mem_singleton.mp z) (Nat.ne_of_lt (Nat.lt_succ_of_lt hb))
      · cases r₂ with
        | error e => exact hr₂
        | ok fl₂ =>
          cases fl₂ with
          | ret r =>
            obtain ⟨rfl, h', tk, rfl, hS', hk'⟩ := hr₂
            repeat (any_goals (first | assumption | wp_step))
            exact h _ _ hS' hk'
          | _ => exact hr₂.elim
    | _ => exact hr.elim

theorem strsAre_txOf : ∀ {l : List (Int × Value)}, (∀ e ∈ l, GoodT w e) → StrsAre (l.map (·.2)) (l.map txOf)
  | [], _ => .nil
  | e :: r, g => by
    obtain ⟨z, tk, h1, _⟩ := g e List.mem_cons_self
    have e1 : txOf e = z := by
      unfold txOf
      rw [h1]
    rw [List.map_cons, List.map_cons, e1, h1]
    exact .cons z tk (strsAre_txOf fun u hu => g u (List.mem_cons_of_mem _ hu))
/-- sorted(a set of texts) -/
theorem sorted_setT {a : Addr} {l : List Str} {Q : Value → Shared → Prop} (R : SetT w s.heap a l) (hh : A.handled = none) (h64 : l.length < 64)
    (hQ : ∀ s' p (out : Array Value) (c : Nat) (ys : List Str), (∀ b o, s.heap.get? b = some o → s'.heap.get? b = some o) → s'.gens = s.gens → s'.os = s.os → s.heap.objs.size ≤ p →
      s'.heap.get? p = some (seqObj "list" out c) → StrsAre out.toList ys → ys.Perm l → sortedS ys = true → Q (.ref p) s') :
    wpAny (model P w) A (call (.builtin "sorted") [.ref a]) Q E s := by
  obtain ⟨o, es, ep, t, ho, hex, hd, g, p, nd, hb, hf, hr, hl⟩ := R
  refine Calls.call_function_entry kind_sorted plain_sorted entry_sorted (args_sorted1 _) ?_
  unfold Builtin.«sorted»
  refine wpAny_bind (m := checkCount "sorted" 1 1 _) (wpAny_pure ?_)
  refine wpAny_bind (collect_set (A := A.in1) hh ⟨o, ho, hex.1, hd⟩ hf hb hr hl fun s1 vs k1 hz g1 o1 pm => ?_)
  have hvl : vs.length = l.length := by
    have h1 := pm.length_eq
    have h2 := p.length_eq
    simp at h1 h2
    omega
  have hall : ∀ v ∈ vs, ∃ x t, v = .str x t := fun v hv => by
    obtain ⟨e, he, q⟩ := List.mem_map.mp (pm.mem_iff.mp hv)
    obtain ⟨z, tk, h1, _⟩ := g e he
    exact ⟨z, tk, by rw [← q]; exact h1⟩
  have hS := strsAre_map vs hall
  have ps : (vs.map strOf).Perm l := by
    have q := pm.map strOf
    have e2 := (strsAre_txOf g).strs
    rw [e2] at q
    exact q.trans p
  refine wpAny_bind (wpAny_newList ?_ (by rw [hvl, sizeLine_eq]; omega))
  have hoL : (s1.heap.push (seqObj "list" vs.toArray 0)).get? s1.heap.objs.size = some (seqObj "list" vs.toArray 0) := Heap.get?_push_size _ rfl
  refine wpAny_bind (wpAny_holding (wpAny_call_entry slot_list_sort ⟨_, hoL, rfl⟩ entry_list_sort
    (list_sort_treeK strKind_oneLt hoL hS.keysOf (fun v₁ v₂ rest e => keyKind_strs (by rw [← e]; exact hS)) (by rw [hvl]; exact h64) fun st' hp hs => ⟨_, rfl, ?_⟩) (args_list_sort _)))
  obtain ⟨ys, a1, a2, a3⟩ := sorted_out_str hS hp hs
  obtain ⟨c, hc⟩ := sortedHeap_at (vs := vs) (out := (arrOf st').map (·.2)) hoL
  refine wpAny_pure ⟨_, rfl, hQ _ s1.heap.objs.size _ c ys (fun b u e => ?_) g1 o1 hz hc a1 (a2.trans ps) a3⟩
  have q := k1 b u e
  have hlt := Heap.lt_size q
  show (sortedHeap (s1.heap.push (seqObj "list" vs.toArray 0)) s1.heap.objs.size vs _).get? b = some u
  rw [sortedHeap_old (Nat.ne_of_lt hlt) (by rw [size_push']; exact Nat.lt_succ_of_lt hlt)]
  exact Heap.get?_push_of_some _ q
end

/-! ## over the layer -/
def SetO (w : World) (a : Addr) (l : List Str) : HO := .ext fun h => SetT w h a l
section
variable {X : Cx} {pins : List (Addr × Obj)} {σ : L2.St} {H : Hp} {s : Shared}
theorem setO_ok {P : Program} {w : World} {h : Heap} {a : Addr} {l : List Str} (R : SetT w h a l) : ObjOk P w H h a (SetO w a l) := by
  have q := id R
  obtain ⟨o, es, ep, t, ho, r⟩ := q
  exact ⟨R, ⟨o, ho⟩, fun h1 h2 r1 k => SetT.kept r1 k⟩
/-- set(xs): a new set of the texts -/
def rSet (K : PySem.W.Frag) (w : World) : List V → Hp → VK → Prop := fun vs H Q => ∃ (a : Addr) (xs : List Str), vs = [V.ref a] ∧ SqL K H a (xs.map V.str) ∧ xs.length + 1 < scanBound ∧
  ∀ p, H p = none → Q (.ref p) (upd H p (SetO w p (metT xs)))
theorem cr_set (hc : X.calm = true) : CallR X (.type "set") (rSet X.K X.w) := by
  intro pins s σ H vs us Q I r h
  obtain ⟨a, xs, rfl, hs, hb, q⟩ := h
  obtain ⟨its, rv, hl, _⟩ := I.list hs
  rw [Vals.ref1 r]
  refine call_setT (I.ok.hd hc) hl.isList rv.strs hb fun h' tk hS hk => ?_
  have k : ∀ b o, s.heap.get? b = some o → h'.get? b = some o := fun b o e => hk b o (Heap.lt_size e) e
  exact ⟨.ref _, _, I.laid (t' := tk) (o := SetO X.w s.heap.objs.size (metT xs)) k (Nat.le_refl _) (setO_ok hS), rfl, q _ (I.hok.fresh (Nat.le_refl _))⟩
/-- sorted(a set of texts): a new list -/
def rSortedO (w : World) : List V → Hp → VK → Prop := fun vs H Q => ∃ (a : Addr) (l : List Str), vs = [V.ref a] ∧ H a = some (SetO w a l) ∧ l.length < 64 ∧
  ∀ (ys : List Str) (p : Addr), ys.Perm l → sortedS ys = true → H p = none → Q (.ref p) (upd H p (.lst (ys.map V.str)))
theorem cr_sortedO (hc : X.calm = true) : CallR X (.builtin "sorted") (rSortedO X.w) := by
  intro pins s σ H vs us Q I r h
  obtain ⟨a, l, rfl, ha, h64, q⟩ := h
  have R : SetT X.w s.heap a l := (I.hok a _ ha).1
  rw [Vals.ref1 r]
  refine sorted_setT R (I.ok.hd hc) h64 fun s' p out c ys k g o hp hgt hi pm hso => ?_
  have hlen : (ys.map V.str).length ≤ sizeLine := by
    rw [List.length_map, pm.length_eq, sizeLine_eq]
    omega
  have hn : H p = none := I.hok.fresh hp
  have J : Inv X pins σ (upd H p (.lst (ys.map V.str))) { s with heap := s'.heap, gens := s'.gens, drawn := s'.drawn, toks := s'.toks } :=
    I.call (ch := []) (Un.laid k hp hn) (I.hok.laid k hp ⟨hlen, out.toList, c, vals_of_strs hi, hgt⟩) (by rw [g]; exact I.bare) (fun _ z => nomatch z)
  have e : s' = { s with heap := s'.heap, gens := s'.gens, drawn := s'.drawn, toks := s'.toks } := by
    cases s'
    cases s
    cases o
    rfl
  rw [e]
  exact ⟨.ref p, _, J, rfl, q ys p pm hso hn⟩
end
end RB

/-! The layer's rules over texts as lists of codes; calls of defs that are told by their promise; loops and comprehensions by what is evaluated. -/
namespace RC
open PySem PySem.Spec PyProof.Rows L2 Evl TL

/-! ## texts by their codes -/
def S (l : List Nat) : Str := ⟨l.toArray⟩
abbrev T (l : List Nat) : V := .str (S l)
@[simp] theorem S_len (l : List Nat) : (S l).length = l.length := by simp [S, Str.length]
@[simp] theorem tl_S (l : List Nat) : tl (S l) = l := rfl
theorem S_tl (x : Str) : S (tl x) = x := mk_tl x
theorem S_inj {a b : List Nat} : S a = S b ↔ a = b := ⟨fun h => by have := congrArg tl h; simpa using this, fun h => by rw [h]⟩
theorem T_inj {a b : List Nat} : T a = T b ↔ a = b := ⟨fun h => S_inj.mp (by injection h), fun h => by rw [h]⟩
theorem S_append (a b : List Nat) : S a ++ S b = S (a ++ b) := ext_tl (by rw [tl_append, tl_S, tl_S, tl_S])
theorem S_cps (l : List Nat) : (S l).cps.toList = l := rfl
theorem dec_T (a b : List Nat) : decide (T a = T b) = decide (a = b) := by simp only [T_inj]
theorem big : sizeLine = 16777216 := sizeLine_eq

/-! ## defs, told by name -/
/-- at level k the name x holds a def of the parameters ps that keeps sp -/
def Has (P : Program) (w : World) (K : PySem.W.Frag) (mg : Str → Option Value) (base : Heap) (CX : CXT) (k : Nat) (x : Str) (ps : List Str) (sp : Sp) : Prop :=
  ∃ f fd, FnOk P w K mg base CX k f fd ps sp ∧ mg x = some (.ref f) ∧ PySem.W.keepIn K (.ref f) = true ∧ Binds K fd ps []
section
variable {P : Program} {w : World} {K : PySem.W.Frag} {mg : Str → Option Value} {base : Heap} {CX : CXT}
theorem Has.mono {j k : Nat} {x : Str} {ps : List Str} {sp : Sp} (h : Has P w K mg base CX j x ps sp) (l : j ≤ k) : Has P w K mg base CX k x ps sp := by
  obtain ⟨f, fd, h1, h2, h3, h4⟩ := h
  exact ⟨f, fd, h1.mono l, h2, h3, h4⟩
theorem Has.imp {k : Nat} {x : Str} {ps : List Str} {sp sp' : Sp} (h : Has P w K mg base CX k x ps sp) (l : ∀ vs H Q E, sp' vs H Q E → sp vs H Q E) : Has P w K mg base CX k x ps sp' := by
  obtain ⟨f, fd, h1, h2, h3, h4⟩ := h
  exact ⟨f, fd, h1.imp l, h2, h3, h4⟩
/-- how a def of the text stands behind the top -/
structure At (K : PySem.W.Frag) (mg : Str → Option Value) (x : Str) (st : Stmt) (ps : List Str) : Prop where
  ex : ∃ f fd, Fun K x x st f fd ∧ mg x = some (.ref f) ∧ Binds K fd ps []
theorem At.ok {x : Str} {st : Stmt} {N ps : List Str} {k : Nat} {sp : Sp} (F : At K mg x st ps) (S : FnScope N ps (defScope st)) (len : ∀ vs H Q E, sp vs H Q E → vs.length = ps.length)
    (hbody : ∀ (f : Addr) (cdv : Value) (A : Around) (outer : List Env) (s : Shared) (H : Hp) (vs : List V) (Q : VK) (E : XK), Room k (A.deeper (envOfC x (defScope st) s.heap.objs.size f cdv)) → sp vs H Q E →
      ∃ t, PSs (cxOf CX0 P w K mg base N x (defScope st) f cdv A outer s H E).nox (defBody st) t ∧ t { nx := fun _ H' => Q .non H', rt := Q } (start N vs) H) : Has P w K mg base CX0 (k + 1) x ps sp := by
  obtain ⟨f, fd, h1, h2, h3⟩ := F.ex
  exact ⟨f, fd, h1.ok S len (hbody f), h2, h1.kp, h3⟩
end
section
variable {X : Cx} {CX : CXT} {E : XK} {k : Nat} {x : Str} {ps : List Str} {sp : Sp} {t : TA} {e : Expr} {es : List Expr} {p pos : Pos}
theorem pe_has (h : Has X.prog X.w X.K X.mg X.base CX k x ps sp) (hr : Room k X.A) (hx : Passes CX X E) (ha : PA X (e :: es) t) (hg : Gl X x := by rfl) (hd : (x == ("__debug__" : Str)) = false := by decide)
    (hs : starEach (e :: es) X.env = (false, eval e X.env) :: starEach es X.env := by rfl) (hpl : (backTo pos (starEach es X.env)).any (·.1) = false := by rfl) :
    PE X (.Call (.Name x p) (e :: es) [] pos) (tCall sp [] E t) := by
  obtain ⟨f, fd, h1, h2, h3, h4⟩ := h
  exact pe_call h1 hr hg h2 h3 h4 .nil hx ha hd hs hpl
/-- a constant of the module that is a text, an int -/
theorem pe_gs {z : Str} (h : ∃ t, X.mg x = some (.str z t)) (hg : Gl X x := by rfl) (hd : (x == ("__debug__" : Str)) = false := by decide) : PE X (.Name x pos) (tC (.str z)) := by
  obtain ⟨t, h⟩ := h
  exact pe_glob hg h ⟨t, rfl⟩ hd
theorem pe_gi {z : Int} (h : ∃ t, X.mg x = some (.int z t)) (hg : Gl X x := by rfl) (hd : (x == ("__debug__" : Str)) = false := by decide) : PE X (.Name x pos) (tC (.int z)) := by
  obtain ⟨t, h⟩ := h
  exact pe_glob hg h ⟨t, rfl⟩ hd
end

/-! ## rules by codes -/
theorem opr_imp {X : Cx} {f : Value → Value → Sem Value} {r r' : R2} (h : OpR X f r) (i : ∀ x y H Q, r' x y H Q → r x y H Q) : OpR X f r' :=
  fun pins s σ H x y v u Q I rx ry q => h pins s σ H x y v u Q I rx ry (i x y H Q q)
theorem callr_imp {X : Cx} {f : Value} {r r' : List V → Hp → VK → Prop} (h : CallR X f r) (i : ∀ x H Q, r' x H Q → r x H Q) : CallR X f r' :=
  fun pins s σ H xs us Q I rx q => h pins s σ H xs us Q I rx (i xs H Q q)
def rAddT : R2 := fun x y H Q => ∃ a b, x = T a ∧ y = T b ∧ a.length + b.length ≤ 16777216 ∧ Q (T (a ++ b)) H
theorem op_addT {X : Cx} : OpR X (binaryOp .Add) rAddT := opr_imp op_add_str fun x y H Q ⟨a, b, ha, hb, hl, q⟩ =>
  ⟨S a, S b, ha, hb, by rw [S_len, S_len, big]; exact hl, by rw [S_append]; exact q⟩
def rInT : R2 := fun x y H Q => ∃ c l, x = T [c] ∧ y = T l ∧ Q (.bl (decide (c ∈ l))) H
theorem op_inT {X : Cx} : OpR X (compareOp .In) rInT := opr_imp op_in_sign fun x y H Q ⟨c, l, hx, hy, q⟩ => ⟨c, S l, hx, hy, q⟩
def rNotInT : R2 := fun x y H Q => ∃ c l, x = T [c] ∧ y = T l ∧ Q (.bl (!decide (c ∈ l))) H
theorem op_notInT {X : Cx} : OpR X (compareOp .NotIn) rNotInT := opr_imp op_notIn_sign fun x y H Q ⟨c, l, hx, hy, q⟩ => ⟨c, S l, hx, hy, q⟩
def rLenT : List V → Hp → VK → Prop := fun xs H Q => ∃ l, xs = [T l] ∧ l.length ≤ 16777216 ∧ Q (.int (l.length : Int)) H
theorem call_lenT {X : Cx} : CallR X (.builtin "len") rLenT := callr_imp call_len_str fun xs H Q ⟨l, hx, hl, q⟩ => ⟨S l, hx, by rw [S_len, big]; exact hl, by rw [S_len]; exact q⟩
/-- len of a list or tuple -/
def rLenL (K : PySem.W.Frag) : List V → Hp → VK → Prop := fun xs H Q => ∃ p ys, xs = [.ref p] ∧ (SqL K H p ys ∨ SqT K H p ys) ∧ Q (.int ys.length) H
theorem call_lenL {X : Cx} : CallR X (.builtin "len") (rLenL X.K) := call_len_seq
def rIxC : R2 := fun x y H Q => ∃ l i, x = T l ∧ y = .int i ∧ l.length ≤ 16777216 ∧ 0 ≤ i ∧ i < l.length ∧ Q (T [l.getD i.toNat 0]) H
theorem ix_C {X : Cx} : IxR X rIxC := by
  intro ve sl pins s σ H x y v u Q I rx ry h
  obtain ⟨l, i, hx, hy, hl, h0, h1, q⟩ := h
  refine ix_str ve sl pins s σ H x y v u Q I rx ry ⟨S l, i, l.getD i.toNat 0, hx, hy, by rw [S_len, big]; exact hl, ?_, q⟩
  have e : i = ((i.toNat : Nat) : Int) := by omega
  have hlt : i.toNat < l.length := by omega
  have a : atI l ((i.toNat : Nat) : Int) = some (l.getD i.toNat 0) := atI_nat (by simp [List.getD, hlt])
  rw [← e] at a
  exact a
/-- text * int -/
def repT (l : List Nat) (k : Nat) : List Nat := (List.replicate k l).flatten
def rRepT : R2 := fun x y H Q => ∃ l k, x = T l ∧ y = .int k ∧ -(2 ^ 63) ≤ k ∧ k < 2 ^ 63 ∧ l.length * k.toNat ≤ 16777216 ∧ Q (T (repT l k.toNat)) H
theorem foldl_cps (z : Array Nat) : ∀ (k : Nat) (acc : Array Nat), ((List.replicate k z).foldl (· ++ ·) acc).toList = acc.toList ++ (List.replicate k z.toList).flatten := by
  intro k
  induction k with
  | zero => intro acc; simp
  | succ k ih =>
    intro acc
    rw [List.replicate_succ, List.foldl_cons, ih, List.replicate_succ, List.flatten_cons]
    simp
theorem op_repT {X : Cx} : OpR X (binaryOp .Mult) rRepT := by
  intro pins s σ H x y v u Q I rx ry h
  obtain ⟨l, k, rfl, rfl, h1, h2, hl, q⟩ := h
  obtain ⟨t, rfl⟩ := rx
  obtain ⟨t', rfl⟩ := ry
  have e63 : (2 : Int) ^ 63 = 9223372036854775808 := by decide
  rw [e63] at h1 h2
  refine PySem.P.mul_str (by simp; omega) (fun a b => ?_) (fun a b => ?_) ?_
  · have hn : 1 ≤ k := by omega
    have hz : (S l).length ≠ 0 := by
      intro z
      rw [z] at b
      simp at b
    rw [S_len] at hz ⊢
    intro c
    have c2 : (9223372036854775807 : Int) / k < (l.length : Int) := by simpa [e63] using c
    have c3 := (Int.ediv_lt_iff_lt_mul (by omega : 0 < k)).mp c2
    have c4 : (l.length : Int) * k = ((l.length * k.toNat : Nat) : Int) := by
      rw [Int.natCast_mul]
      congr 1
      omega
    omega
  · unfold Builtin.Str.tooLong
    rw [S_len, big]
    simp
    omega
  · have e1 : (⟨(List.replicate k.toNat (S l).cps).foldl (· ++ ·) #[]⟩ : Str) = S (repT l k.toNat) := by
      refine ext_tl ?_
      show ((List.replicate k.toNat (S l).cps).foldl (· ++ ·) #[]).toList = repT l k.toNat
      rw [foldl_cps]
      simp [repT, S]
    have hlen : (repT l k.toNat).length ≤ 16777216 := by
      unfold repT
      rw [List.length_flatten]
      simp
      rw [Nat.mul_comm]
      exact hl
    by_cases c1 : k < 1
    · rw [if_pos c1]
      have e0 : k.toNat = 0 := by omega
      rw [e0] at q
      exact ⟨by decide, .str _, H, I.tok _, ⟨_, rfl⟩, q⟩
    · rw [if_neg c1]
      by_cases c2 : (k == 1 || (S l).length == 0) = true
      · rw [if_pos c2]
        have e2 : repT l k.toNat = l := by
          rcases (Bool.or_eq_true _ _).mp c2 with z | z
          · have z' : k = 1 := by simpa using z
            subst z'
            simp [repT]
          · have z' : l = [] := by simpa using z
            subst z'
            simp [repT]
        rw [e2] at q
        exact ⟨.str (S l), H, I, ⟨t, rfl⟩, q⟩
      · rw [if_neg c2, e1]
        exact ⟨by rw [S_len, big]; exact hlen, .str _, H, I.tok _, ⟨_, rfl⟩, q⟩
end RC

/-! What expressions over texts evaluate to; loops and comprehensions over texts. -/
namespace RD
open PySem PySem.Spec PyProof.Rows L2 Evl TL RC RA
section
variable {K : PySem.W.Frag} {σ : L2.St} {H H' : Hp} {ta tb te tx : TE} {t u : TT} {x y z v : V} {r : R2} {a b l : List Nat} {i j : Int}
theorem ev_s {x : Str} (l : List Nat) (h : x = S l) : Ev (tC (.str x)) σ H (T l) := by
  subst h
  exact ev_c
theorem ev_addT (ha : Ev ta σ H (T a)) (hb : Ev tb σ H (T b)) (hl : a.length + b.length ≤ 16777216) : Ev (tOp rAddT ta tb) σ H (T (a ++ b)) :=
  ev_op ha hb fun H1 _ Q q => ⟨a, b, rfl, rfl, hl, q H1 (Ex.refl H1)⟩
theorem ev_inT {c : Nat} (ha : Ev ta σ H (T [c])) (hb : Ev tb σ H (T b)) : Ev (tOp rInT ta tb) σ H (.bl (decide (c ∈ b))) :=
  ev_op ha hb fun H1 _ Q q => ⟨c, b, rfl, rfl, q H1 (Ex.refl H1)⟩
theorem ev_notInT {c : Nat} (ha : Ev ta σ H (T [c])) (hb : Ev tb σ H (T b)) : Ev (tOp rNotInT ta tb) σ H (.bl (!decide (c ∈ b))) :=
  ev_op ha hb fun H1 _ Q q => ⟨c, b, rfl, rfl, q H1 (Ex.refl H1)⟩
theorem ev_lenT (ha : Ev ta σ H (T a)) (hl : a.length ≤ 16777216) : Ev (tCB rLenT (tCons ta tNil)) σ H (.int (a.length : Int)) :=
  ev_cb (ea_cons ha ea_nil) fun H1 _ Q q => ⟨a, rfl, hl, q H1 (Ex.refl H1)⟩
theorem ev_lenL {p : Addr} {xs : List V} (ha : Ev ta σ H (.ref p)) (h : SqL K H p xs) : Ev (tCB (rLenL K) (tCons ta tNil)) σ H (.int (xs.length : Int)) :=
  ev_cb (ea_cons ha ea_nil) fun H1 e Q q => ⟨p, xs, rfl, .inl (ex_l e h), q H1 (Ex.refl H1)⟩
theorem ev_ixC (ha : Ev ta σ H (T a)) (hb : Ev tb σ H (.int i)) (hl : a.length ≤ 16777216) (h0 : 0 ≤ i) (h1 : i < a.length) : Ev (tOp rIxC ta tb) σ H (T [a.getD i.toNat 0]) :=
  ev_op ha hb fun H1 _ Q q => ⟨a, i, rfl, rfl, hl, h0, h1, q H1 (Ex.refl H1)⟩
theorem ev_repT (ha : Ev ta σ H (T a)) (hb : Ev tb σ H (.int i)) (h0 : 0 ≤ i) (h1 : i ≤ 16777216) (hl : a.length * i.toNat ≤ 16777216) : Ev (tOp rRepT ta tb) σ H (T (repT a i.toNat)) :=
  ev_op ha hb fun H1 _ Q q => ⟨a, i, rfl, rfl, by omega, by omega, hl, q H1 (Ex.refl H1)⟩
theorem ev_eqT (ha : Ev ta σ H (T a)) (hb : Ev tb σ H (T b)) : Ev (tOp rEq ta tb) σ H (.bl (decide (a = b))) := by
  rw [← dec_T]
  exact ev_op ha hb (rv_eq rfl)
theorem ev_neT (ha : Ev ta σ H (T a)) (hb : Ev tb σ H (T b)) : Ev (tOp rNe ta tb) σ H (.bl (!decide (a = b))) := by
  rw [← dec_T]
  exact ev_op ha hb (rv_ne rfl)
theorem ev_eqI (ha : Ev ta σ H (.int i)) (hb : Ev tb σ H (.int j)) : Ev (tOp rEq ta tb) σ H (.bl (decide (i = j))) := by
  have e : decide (V.int i = V.int j) = decide (i = j) := by simp
  rw [← e]
  exact ev_op ha hb (rv_eq rfl)
theorem ev_neI (ha : Ev ta σ H (.int i)) (hb : Ev tb σ H (.int j)) : Ev (tOp rNe ta tb) σ H (.bl (!decide (i = j))) := by
  have e : decide (V.int i = V.int j) = decide (i = j) := by simp
  rw [← e]
  exact ev_op ha hb (rv_ne rfl)
theorem ev_mul (ha : Ev ta σ H (.int i)) (hb : Ev tb σ H (.int j)) (h : CMul i j) : Ev (tOp (rI CMul fun i j => .int (i * j)) ta tb) σ H (.int (i * j)) := ev_op ha hb (rv_I h)
theorem ev_mod (ha : Ev ta σ H (.int i)) (hb : Ev tb σ H (.int j)) (h : 0 < j) : Ev (tOp (rI (fun _ j => 0 < j) fun i j => .int (i % j)) ta tb) σ H (.int (i % j)) := ev_op ha hb (rv_I h)
theorem ev_fdiv (ha : Ev ta σ H (.int i)) (hb : Ev tb σ H (.int j)) (h : CDiv i j) : Ev (tOp (rI CDiv fun i j => .int (i / j)) ta tb) σ H (.int (i / j)) := ev_op ha hb (rv_I h)
theorem ev_i0 {g : Int → Int → V} (ha : Ev ta σ H (.int i)) (hb : Ev tb σ H (.int j)) : Ev (tOp (rI0 g) ta tb) σ H (g i j) := ev_op ha hb rv_I0
/-- x is None -/
theorem ev_isN (ha : Ev ta σ H x) (hb : Ev tb σ H .non) : Ev (tOp (fun x y H Q => y = .non ∧ Q (.bl (decide (x = .non))) H) ta tb) σ H (.bl (decide (x = .non))) :=
  ev_op ha hb fun H1 _ Q q => ⟨rfl, q H1 (Ex.refl H1)⟩
theorem ev_notN (ha : Ev ta σ H x) (hb : Ev tb σ H .non) : Ev (tOp (fun x y H Q => y = .non ∧ Q (.bl (!decide (x = .non))) H) ta tb) σ H (.bl (!decide (x = .non))) :=
  ev_op ha hb fun H1 _ Q q => ⟨rfl, q H1 (Ex.refl H1)⟩
/-- a slice of a text -/
theorem ev_slT {tl th : TO} {lo hi : Option Int} (ha : Ev ta σ H (T a)) (h1 : EvO tl σ H lo) (h2 : EvO th σ H hi) (hl : a.length ≤ 16777216) : Ev (tSl rSlS ta tl th) σ H (.str (cutS (S a) lo hi)) := fun H1 e _ q =>
  ha H1 e _ fun H2 e2 => h1 H2 (e.trans e2) _ fun H3 e3 => h2 H3 ((e.trans e2).trans e3) _ fun H4 e4 =>
    ⟨S a, rfl, by rw [S_len, big]; exact hl, q H4 ((e2.trans e3).trans e4)⟩
theorem ev_slS {tl th : TO} {ts : TE} {lo hi : Option Int} {k : Int} (ha : Ev ta σ H (T a)) (h1 : EvO tl σ H lo) (h2 : EvO th σ H hi) (h3 : Ev ts σ H (.int k)) (hk : k ≠ 0) (hl : (stepS (S a) lo hi k).length ≤ 16777216) :
    Ev (tSlS ta tl th ts) σ H (.str (stepS (S a) lo hi k)) := fun H1 e _ q =>
  ha H1 e _ fun H2 e2 => h1 H2 (e.trans e2) _ fun H3 e3 => h2 H3 ((e.trans e2).trans e3) _ fun H4 e4 => h3 H4 (((e.trans e2).trans e3).trans e4) _ fun H5 e5 =>
    ⟨S a, k, rfl, rfl, hk, by rw [big]; exact hl, q H5 (((e2.trans e3).trans e4).trans e5)⟩

/-! ## loops -/
variable {D : Ends} {tu tz : TS} {g : TG}
theorem s_forStr {jx : Nat} (h : Ev te σ H (T l)) (Pv : Nat → L2.St → Hp → Prop) (h0 : ∀ H1, Ex H H1 → Pv 0 σ H1)
    (hs : ∀ (i : Nat) σ' H' (hi : i < l.length), Pv i σ' H' → tu { D with nx := Pv (i + 1), ct := Pv (i + 1), bk := D.nx } (σ'.set jx (some (T [l[i]]))) H')
    (hd : ∀ σ' H', Pv l.length σ' H' → D.nx σ' H') : (tFor (iStr te) (gName jx) tu) D σ H :=
  h H (Ex.refl H) _ fun H1 e => ⟨S l, rfl, for_it (walk_str (z := S l)) Pv (h0 H1 e) (fun _ _ _ _ _ => trivial) (fun i x σ' H2 H3 hi p y => by
    obtain ⟨rfl, c, hc, rfl⟩ := y
    have hi' : i < l.length := by simpa [S] using hi
    have e1 : c = l[i] := by
      have q : l[i]? = some c := by simpa [S] using hc
      rw [List.getElem?_eq_getElem hi'] at q
      exact (Option.some.inj q).symm
    subst e1
    exact hs i σ' _ hi' p) (fun σ' H2 p => hd σ' H2 (by simpa [S] using p))⟩
theorem q_forStr {jx : Nat} (h : Ev te σ H (T l)) (Pv : Nat → L2.St → Hp → Prop) (h0 : ∀ H1, Ex H H1 → Pv 0 σ H1)
    (hs : ∀ (i : Nat) σ' H' (hi : i < l.length), Pv i σ' H' → tu { D with nx := Pv (i + 1), ct := Pv (i + 1), bk := tz D } (σ'.set jx (some (T [l[i]]))) H')
    (hd : ∀ σ' H', Pv l.length σ' H' → tz D σ' H') : tSeq (tFor (iStr te) (gName jx) tu) tz D σ H :=
  s_forStr (D := { D with nx := tz D }) h Pv h0 hs hd
theorem walk_enumS {x : Str} : Walk (ItES x) x.cps.size (fun _ => True)
    (fun i H v H' => ∃ T c, v = .ref T ∧ H T = none ∧ H' = upd H T (.tup [.int (i : Nat), .str ⟨#[c]⟩]) ∧ x.cps[i]? = some c) where
  goes := fun i H h _ => h
  stops := fun H _ => Nat.le_refl _
  yields := fun i H v H' _ _ y => y
theorem s_forEnumS {jx jy : Nat} {ta : TA} (h : EvA ta σ H [T l]) (Pv : Nat → L2.St → Hp → Prop) (h0 : ∀ H1, Ex H H1 → Pv 0 σ H1)
    (hs : ∀ (i : Nat) σ' H' H2 (hi : i < l.length), Pv i σ' H' → Ex H' H2 → tu { D with nx := Pv (i + 1), ct := Pv (i + 1), bk := D.nx } ((σ'.set jx (some (.int (i : Int)))).set jy (some (T [l[i]]))) H2)
    (hd : ∀ σ' H', Pv l.length σ' H' → D.nx σ' H') : (tFor (iEnumS ta) (gTup K 2 (gCons (gName jx) (gCons (gName jy) gNil))) tu) D σ H :=
  h H (Ex.refl H) _ fun H1 e => ⟨S l, rfl, for_it (walk_enumS (x := S l)) Pv (h0 H1 e) (fun _ _ _ _ _ => trivial) (fun i x σ' H2 H3 hi p y => by
    obtain ⟨A, c, rfl, hn, rfl, hc⟩ := y
    have hi' : i < l.length := by simpa [S] using hi
    have e1 : c = l[i] := by
      have q : l[i]? = some c := by simpa [S] using hc
      rw [List.getElem?_eq_getElem hi'] at q
      exact (Option.some.inj q).symm
    subst e1
    exact ⟨A, _, rfl, SqT.of upd_same, rfl, _, _, rfl, _, _, rfl, rfl, hs i σ' H2 _ hi' p (Ex.new hn)⟩) (fun σ' H2 p => hd σ' H2 (by simpa [S] using p))⟩
theorem q_forEnumS {jx jy : Nat} {ta : TA} (h : EvA ta σ H [T l]) (Pv : Nat → L2.St → Hp → Prop) (h0 : ∀ H1, Ex H H1 → Pv 0 σ H1)
    (hs : ∀ (i : Nat) σ' H' H2 (hi : i < l.length), Pv i σ' H' → Ex H' H2 → tu { D with nx := Pv (i + 1), ct := Pv (i + 1), bk := tz D } ((σ'.set jx (some (.int (i : Int)))).set jy (some (T [l[i]]))) H2)
    (hd : ∀ σ' H', Pv l.length σ' H' → tz D σ' H') : tSeq (tFor (iEnumS ta) (gTup K 2 (gCons (gName jx) (gCons (gName jy) gNil))) tu) tz D σ H :=
  s_forEnumS (D := { D with nx := tz D }) h Pv h0 hs hd
/-- how many turns range(lo, hi, c) has, c positive -/
def rgN (i j c : Int) : Nat := if i < j then ((j - i - 1) / c + 1).toNat else 0
theorem rgC_pos {i j c : Int} (hi : 0 ≤ i) (hi' : i ≤ 16777216) (hj : 0 ≤ j) (hj' : j ≤ 16777216) (hc : 0 < c) (hc' : c ≤ 16777216) : RgC i j c (rgN i j c) := by
  have hq0 : i < j → 0 ≤ (j - i - 1) / c := fun h => Int.ediv_nonneg (by omega) (by omega)
  have hq1 : i < j → (j - i - 1) / c ≤ 16777216 := fun h => Int.le_trans (Int.ediv_le_self _ (by omega)) (by omega)
  refine ⟨by omega, by omega, ?_, ?_⟩
  · have e : Builtin.Range.rangeSize i j c = ((rgN i j c : Nat) : Int) := by
      unfold Builtin.Range.rangeSize rgN
      by_cases h : i < j
      · have := hq0 h
        rw [if_pos hc, if_pos h, if_pos h]
        omega
      · rw [if_pos hc, if_neg h, if_neg h]
        rfl
    have hn : (rgN i j c : Int) ≤ 16777217 := by
      unfold rgN
      by_cases h : i < j
      · have := hq0 h
        have := hq1 h
        rw [if_pos h]
        omega
      · rw [if_neg h]
        omega
    unfold Builtin.Range.small
    rw [e, if_pos hc]
    simp only [Builtin.Range.rangeFitsLong, Bool.and_eq_true, Bool.or_eq_true, decide_eq_true_eq, beq_iff_eq]
    omega
  · unfold Builtin.Range.rangeSize rgN
    by_cases h : i < j
    · have := hq0 h
      rw [if_pos hc, if_pos h, if_pos h]
      omega
    · rw [if_pos hc, if_neg h, if_neg h]
      rfl

theorem s_forR3 {jx : Nat} {ta : TA} {lo hi c : Int} (h : EvA ta σ H [.int lo, .int hi, .int c]) (b0 : 0 ≤ lo) (b1 : lo ≤ 16777216) (b2 : 0 ≤ hi) (b3 : hi ≤ 16777216) (b4 : 0 < c) (b5 : c ≤ 16777216)
    (Pv : Nat → L2.St → Hp → Prop) (h0 : ∀ H1, Ex H H1 → Pv 0 σ H1)
    (hs : ∀ (i : Nat) σ' H', i < rgN lo hi c → Pv i σ' H' → tu { D with nx := Pv (i + 1), ct := Pv (i + 1), bk := D.nx } (σ'.set jx (some (.int (lo + (i : Int) * c)))) H')
    (hd : ∀ σ' H', Pv (rgN lo hi c) σ' H' → D.nx σ' H') : tFor (iRng3 ta) (gName jx) tu D σ H :=
  h H (Ex.refl H) _ fun H1 e => ⟨lo, hi, c, rgN lo hi c, rfl, rgC_pos b0 b1 b2 b3 b4 b5, for_it walk_rangeC Pv (h0 H1 e) (fun _ _ _ _ _ => trivial) (fun i x σ' H2 H3 hi p y => by
    obtain ⟨rfl, rfl⟩ := y
    exact hs i σ' _ hi p) hd⟩
theorem q_forR3 {jx : Nat} {ta : TA} {lo hi c : Int} (h : EvA ta σ H [.int lo, .int hi, .int c]) (b0 : 0 ≤ lo) (b1 : lo ≤ 16777216) (b2 : 0 ≤ hi) (b3 : hi ≤ 16777216) (b4 : 0 < c) (b5 : c ≤ 16777216)
    (Pv : Nat → L2.St → Hp → Prop) (h0 : ∀ H1, Ex H H1 → Pv 0 σ H1)
    (hs : ∀ (i : Nat) σ' H', i < rgN lo hi c → Pv i σ' H' → tu { D with nx := Pv (i + 1), ct := Pv (i + 1), bk := tz D } (σ'.set jx (some (.int (lo + (i : Int) * c)))) H')
    (hd : ∀ σ' H', Pv (rgN lo hi c) σ' H' → tz D σ' H') : tSeq (tFor (iRng3 ta) (gName jx) tu) tz D σ H :=
  s_forR3 (D := { D with nx := tz D }) h b0 b1 b2 b3 b4 b5 Pv h0 hs hd

/-! ## comprehensions -/
theorem given_map {α : Type} (xs : List α) (d : α) (p : α → Bool) (f : α → V) : given xs.length (fun i => p (xs.getD i d)) (fun i => f (xs.getD i d)) = (xs.filter p).map f := by
  unfold given
  have e : xs = (List.range xs.length).map (fun i => xs.getD i d) := by
    apply List.ext_getElem
    · simp
    · intro i h1 h2
      simp [List.getD, h1]
  have q : (xs.filter p).map f = (((List.range xs.length).map (fun i => xs.getD i d)).filter p).map f := by rw [← e]
  rw [q, List.filter_map, List.map_map]
  rfl
variable {vs : List Nat} {tt : TT}
theorem el_lcStr {jx : Nat} (p : Nat → Bool) (f : Nat → V) (h : Ev te σ H (T l)) (hz : l.length ≤ 40000) (hw : ∀ x, wipe ((wipe σ vs).set jx (some x)) vs = wipe σ vs)
    (ht : ∀ c H1, Ex H H1 → c ∈ l → EvT tt ((wipe σ vs).set jx (some (T [c]))) H1 (p c)) (he : ∀ c H1, Ex H H1 → c ∈ l → p c = true → Ev tx ((wipe σ vs).set jx (some (T [c]))) H1 (f c)) :
    EvL (tLc (iStr te) (gName jx) tt tx vs) σ H ((l.filter p).map f) := by
  rw [← given_map l 0 p f]
  exact fun H0 e Q q => h H0 e _ fun H1 ee => ⟨S l, rfl, fun Dl hD => lc_it (walk_str (z := S l)) (Cw H1 (fun i => p (l.getD i 0)) (fun i => f (l.getD i 0)) Dl) ⟨hD, Ex.new hD, upd_same⟩ (fun _ _ _ _ => trivial)
    (fun i x H2 H3 hi pv y => by
      obtain ⟨rfl, c, hc, rfl⟩ := y
      have hi' : i < l.length := by simpa [S] using hi
      have e1 : l.getD i 0 = c := by
        have q : l[i]? = some c := by simpa [S] using hc
        simp [List.getD, q]
      have hm : c ∈ l := by
        have q : l[i]? = some c := by simpa [S] using hc
        exact List.mem_of_getElem? q
      refine ⟨hw _, cw_turn pv (by omega) ?_ ?_⟩
      · show EvT tt _ H1 (p (l.getD i 0))
        rw [e1]
        exact ht c H1 (e.trans ee) hm
      · intro hp
        show Ev tx _ H1 (f (l.getD i 0))
        rw [e1] at hp ⊢
        exact he c H1 (e.trans ee) hm hp) (fun H2 pv => q Dl H2 (fresh_back ee pv.1) (ee.trans pv.2.1) (by have := pv.2.2; simpa [S] using this))⟩
theorem el_lcEnumS {jx jy : Nat} {ta : TA} (p : Nat → Nat → Bool) (f : Nat → Nat → V) (h : EvA ta σ H [T l]) (hz : l.length ≤ 40000)
    (hw : ∀ x y, wipe (((wipe σ vs).set jx (some x)).set jy (some y)) vs = wipe σ vs)
    (ht : ∀ (i : Nat) c H1, Ex H H1 → l[i]? = some c → EvT tt (((wipe σ vs).set jx (some (.int (i : Int)))).set jy (some (T [c]))) H1 (p i c))
    (he : ∀ (i : Nat) c H1, Ex H H1 → l[i]? = some c → p i c = true → Ev tx (((wipe σ vs).set jx (some (.int (i : Int)))).set jy (some (T [c]))) H1 (f i c)) :
    EvL (tLc (iEnumS ta) (gTup K 2 (gCons (gName jx) (gCons (gName jy) gNil))) tt tx vs) σ H (given l.length (fun i => p i (l.getD i 0)) (fun i => f i (l.getD i 0))) := by
  exact fun H0 e Q q => h H0 e _ fun H1 ee => ⟨S l, rfl, fun Dl hD => lc_it (walk_enumS (x := S l)) (Cw H1 (fun i => p i (l.getD i 0)) (fun i => f i (l.getD i 0)) Dl) ⟨hD, Ex.new hD, upd_same⟩ (fun _ _ _ _ => trivial)
    (fun i x H2 H3 hi pv y => by
      obtain ⟨A, c, rfl, hn, rfl, hc⟩ := y
      have hi' : i < l.length := by simpa [S] using hi
      have hc' : l[i]? = some c := by simpa [S] using hc
      have e1 : l.getD i 0 = c := by simp [List.getD, hc']
      have hAD : Dl ≠ A := ne_of_none pv.2.2 hn
      have pv' : Cw H1 (fun i => p i (l.getD i 0)) (fun i => f i (l.getD i 0)) Dl i (upd H2 A (.tup [.int (i : Nat), .str ⟨#[c]⟩])) := ⟨pv.1, pv.2.1.trans (Ex.new hn), by rw [upd_ne hAD]; exact pv.2.2⟩
      refine ⟨A, _, rfl, SqT.of upd_same, rfl, _, _, rfl, _, _, rfl, rfl, hw _ _, cw_turn pv' (by omega) ?_ ?_⟩
      · show EvT tt _ H1 (p i (l.getD i 0))
        rw [e1]
        exact ht i c H1 (e.trans ee) hc'
      · intro hp
        show Ev tx _ H1 (f i (l.getD i 0))
        rw [e1] at hp ⊢
        exact he i c H1 (e.trans ee) hc' hp) (fun H2 pv => q Dl H2 (fresh_back ee pv.1) (ee.trans pv.2.1) (by have := pv.2.2; simpa [S] using this))⟩
/-- over a list of known items -/
theorem el_lcV {a : Addr} {xs : List V} {jx : Nat} (p : V → Bool) (f : V → V) (h : Ev te σ H (.ref a)) (hx : SqL K H a xs) (hz : xs.length ≤ 40000) (hw : ∀ x, wipe ((wipe σ vs).set jx (some x)) vs = wipe σ vs)
    (ht : ∀ x H1, Ex H H1 → x ∈ xs → EvT tt ((wipe σ vs).set jx (some x)) H1 (p x)) (he : ∀ x H1, Ex H H1 → x ∈ xs → p x = true → Ev tx ((wipe σ vs).set jx (some x)) H1 (f x)) :
    EvL (tLc (iList K te) (gName jx) tt tx vs) σ H ((xs.filter p).map f) := by
  rw [← given_map xs .non p f]
  refine el_lcL _ _ h hx hz hw (fun i x H1 e hi => ?_) (fun i x H1 e hi hp => ?_)
  · have e1 : xs.getD i .non = x := by simp [List.getD, hi]
    rw [e1]
    exact ht x H1 e (List.mem_of_getElem? hi)
  · have e1 : xs.getD i .non = x := by simp [List.getD, hi]
    rw [e1] at hp ⊢
    exact he x H1 e (List.mem_of_getElem? hi) hp
/-- over a new list -/
theorem el_lcVN {xs : List V} {jx : Nat} (p : V → Bool) (f : V → V) (h : EvL te σ H xs) (hz : xs.length ≤ 40000) (hw : ∀ x, wipe ((wipe σ vs).set jx (some x)) vs = wipe σ vs)
    (ht : ∀ x H1, Ex H H1 → x ∈ xs → EvT tt ((wipe σ vs).set jx (some x)) H1 (p x)) (he : ∀ x H1, Ex H H1 → x ∈ xs → p x = true → Ev tx ((wipe σ vs).set jx (some x)) H1 (f x)) :
    EvL (tLc (iList K te) (gName jx) tt tx vs) σ H ((xs.filter p).map f) := by
  rw [← given_map xs .non p f]
  refine el_lcNL _ _ h hz hw (fun i x H1 e hi => ?_) (fun i x H1 e hi hp => ?_)
  · have e1 : xs.getD i .non = x := by simp [List.getD, hi]
    rw [e1]
    exact ht x H1 e (List.mem_of_getElem? hi)
  · have e1 : xs.getD i .non = x := by simp [List.getD, hi]
    rw [e1] at hp ⊢
    exact he x H1 e (List.mem_of_getElem? hi) hp
/-- over range(lo, hi) -/
theorem el_lcR2 {ta : TA} {jx : Nat} {lo hi : Int} (p : Nat → Bool) (f : Nat → V) (h : EvA ta σ H [.int lo, .int hi]) (b0 : 0 ≤ lo) (b1 : lo ≤ 16777216) (b2 : 0 ≤ hi) (b3 : hi ≤ 16777216) (hn : hi - lo ≤ 40000) (hw : ∀ x, wipe ((wipe σ vs).set jx (some x)) vs = wipe σ vs)
    (ht : ∀ (i : Nat) H1, Ex H H1 → lo + (i : Int) < hi → EvT tt ((wipe σ vs).set jx (some (.int (lo + (i : Int))))) H1 (p i))
    (he : ∀ (i : Nat) H1, Ex H H1 → lo + (i : Int) < hi → p i = true → Ev tx ((wipe σ vs).set jx (some (.int (lo + (i : Int))))) H1 (f i)) :
    EvL (tLc (iRng2 ta) (gName jx) tt tx vs) σ H (given (hi - lo).toNat p f) := fun H0 e Q q => h H0 e _ fun H1 e1 => ⟨lo, hi, rfl, ⟨by omega, by omega, by omega, by omega⟩, fun Dl hD =>
  lc_range (lo := lo) (n := (hi - lo).toNat) (Cw H1 p f Dl) ⟨hD, Ex.new hD, upd_same⟩ (fun i H' hi' pv =>
    ⟨hw _, cw_turn pv (by omega) (ht i H1 (e.trans e1) (by omega)) (fun hf => he i H1 (e.trans e1) (by omega) hf)⟩) (fun H' pv => q Dl H' (fresh_back e1 pv.1) (e1.trans pv.2.1) pv.2.2)⟩
theorem et_yes : EvT tYes σ H true := fun H1 _ _ q => q H1 (Ex.refl H1)
end
end RD

/-! Built-ins by name; kinds; lists compared, joined, put together; sorted(set(..)). -/
namespace RE
open PySem PySem.Spec PyProof.Rows L2 Evl TL RC RA RD

theorem bt_len : bootBuiltins "len" = some (.builtin "len") := by decide +kernel
theorem bt_isinstance : bootBuiltins "isinstance" = some (.builtin "isinstance") := by decide +kernel
theorem bt_min : bootBuiltins "min" = some (.builtin "min") := by decide +kernel
theorem bt_max : bootBuiltins "max" = some (.builtin "max") := by decide +kernel
theorem bt_sum : bootBuiltins "sum" = some (.builtin "sum") := by decide +kernel
theorem bt_all : bootBuiltins "all" = some (.builtin "all") := by decide +kernel
theorem bt_any : bootBuiltins "any" = some (.builtin "any") := by decide +kernel
theorem bt_abs : bootBuiltins "abs" = some (.builtin "abs") := by decide +kernel
theorem bt_repr : bootBuiltins "repr" = some (.builtin "repr") := by decide +kernel
theorem bt_sorted : bootBuiltins "sorted" = some (.builtin "sorted") := by decide +kernel
theorem bt_divmod : bootBuiltins "divmod" = some (.builtin "divmod") := by decide +kernel
theorem bt_set : bootBuiltins "set" = some (.type "set") := by decide +kernel
theorem bt_list : bootBuiltins "list" = some (.type "list") := by decide +kernel
theorem bt_tuple : bootBuiltins "tuple" = some (.type "tuple") := by decide +kernel
theorem bt_dict : bootBuiltins "dict" = some (.type "dict") := by decide +kernel
theorem bt_str : bootBuiltins "str" = some (.type "str") := by decide +kernel
theorem bt_int : bootBuiltins "int" = some (.type "int") := by decide +kernel
theorem bt_bool : bootBuiltins "bool" = some (.type "bool") := by decide +kernel
theorem bt_range : bootBuiltins "range" = some (.type "range") := by decide +kernel

section
variable {X : Cx}
theorem ip_addT : PIp X .Add rAddT := fun pins s σ H x y v u Q I rx ry h => by
  obtain ⟨a, b, ha, hb, hl, q⟩ := h
  exact iop_add_str pins s σ H x y v u Q I rx ry ⟨S a, S b, ha, hb, by rw [S_len, S_len, big]; exact hl, by rw [S_append]; exact q⟩
end

section
variable {K : PySem.W.Frag} {σ : L2.St} {H H' : Hp} {ta tb te tx : TE} {t u : TT} {x y z v : V} {r : R2} {a b l : List Nat} {i j : Int} {D : Ends} {tu tz : TS}
theorem s_augT {k : Nat} (hx : σ[k]? = some (some (T a))) (h : Ev te σ H (T b)) (hl : a.length + b.length ≤ 16777216) (kk : ∀ H1, Ex H H1 → D.nx (σ.set k (some (T (a ++ b)))) H1) : tAug k te rAddT D σ H :=
  ⟨T a, hx, h H (Ex.refl H) _ fun H1 e => ⟨a, b, rfl, rfl, hl, kk H1 e⟩⟩
theorem q_augT {k : Nat} (hx : σ[k]? = some (some (T a))) (h : Ev te σ H (T b)) (hl : a.length + b.length ≤ 16777216) (kk : ∀ H1, Ex H H1 → tz D (σ.set k (some (T (a ++ b)))) H1) : tSeq (tAug k te rAddT) tz D σ H :=
  s_augT (D := { D with nx := tz D }) hx h hl kk

/-! ### isinstance(x, C), C built in -/
theorem ev_isi {t : Value} {n : String} {c : Bool} (ha : Ev te σ H x) (ht : ∀ H1, Ex H H1 → TyX K H1 x t) (hk : PySem.W.kitOne K t (.type n) = some c) :
    Ev (tCB (rIsi K) (tCons te (tCons (tC (.ty n)) tNil))) σ H (.bl c) :=
  ev_cb (ea_cons ha (ea_cons ev_c ea_nil)) fun H1 e Q q => ⟨x, .ty n, t, .type n, c, rfl, .ty n, ht H1 e, hk, q H1 (Ex.refl H1)⟩
theorem ev_isiT (ha : Ev te σ H (T l)) : Ev (tCB (rIsi K) (tCons te (tCons (tC (.ty "str")) tNil))) σ H (.bl true) := ev_isi ha (fun _ _ => .base (.str _)) (L2.kit_ty (by decide +kernel))
theorem ev_isiI (ha : Ev te σ H (.int i)) : Ev (tCB (rIsi K) (tCons te (tCons (tC (.ty "int")) tNil))) σ H (.bl true) := ev_isi ha (fun _ _ => .base (.int _)) (L2.kit_ty (by decide +kernel))
theorem ev_isiIb (ha : Ev te σ H (.int i)) : Ev (tCB (rIsi K) (tCons te (tCons (tC (.ty "bool")) tNil))) σ H (.bl false) := ev_isi ha (fun _ _ => .base (.int _)) (L2.kit_ty (by decide +kernel))
theorem ev_isiL {p : Addr} {xs : List V} (ha : Ev te σ H (.ref p)) (hp : H p = some (.lst xs)) : Ev (tCB (rIsi K) (tCons te (tCons (tC (.ty "list")) tNil))) σ H (.bl true) :=
  ev_isi ha (fun H1 e => .base (.lst (e p _ hp))) (L2.kit_ty (by decide +kernel))

/-! ### lists of data compared -/
theorem dpAll_strs {H : Hp} : ∀ xs : List Str, DpAll K H (xs.map V.str) (xs.map PyData.str)
  | [] => .nil
  | x :: r => .cons (.str x) (dpAll_strs r)
theorem canLay_strs : ∀ xs : List Str, (∀ x ∈ xs, PyData.strOk x = true) → PyData.canLayAll0 (xs.map PyData.str) = true
  | [], _ => rfl
  | x :: r, h => by
    have h1 := canLay_strs r fun y hy => h y (List.mem_cons_of_mem _ hy)
    have h2 := h x List.mem_cons_self
    simp [PyData.canLayAll0, PyData.canLay0, h1, h2]
theorem depth_strs : ∀ xs : List Str, PyData.depthAll (xs.map PyData.str) ≤ 1
  | [] => by simp [PyData.depthAll]
  | x :: r => by
    have := depth_strs r
    simp [PyData.depthAll, PyData.depth]
    omega
theorem shaped_strs {xs : List Str} (h : ∀ x ∈ xs, PyData.strOk x = true) : SeqAt.shaped (.list (xs.map PyData.str)) = true := by
  unfold SeqAt.shaped
  rw [Bool.and_eq_true]
  refine ⟨by simp [PyData.canLay0, canLay_strs xs h], decide_eq_true ?_⟩
  have := depth_strs xs
  simp [PyData.depth]
  omega
theorem eqv_strs : ∀ xs ys : List Str, PyData.eqvAll (xs.map PyData.str) (ys.map PyData.str) = decide (xs = ys)
  | [], [] => by simp [PyData.eqvAll]
  | [], _ :: _ => by simp [PyData.eqvAll]
  | _ :: _, [] => by simp [PyData.eqvAll]
  | x :: r, y :: t => by
    simp only [List.map_cons, PyData.eqvAll, PyData.eqv, eqv_strs r t, List.cons.injEq]
    by_cases e : x = y <;> simp [e]
theorem strOk_S {l : List Nat} (h : ∀ c ∈ l, c < 1114112) : PyData.strOk (S l) = true := by
  unfold PyData.strOk S
  rw [List.all_toArray, List.all_eq_true]
  exact fun c hc => decide_eq_true (h c hc)
/-- two lists of texts -/
theorem rv_eqD {p q : Addr} {xs ys : List Str} (hp : SqL K H p (xs.map V.str)) (hq : SqL K H q (ys.map V.str)) (h1 : ∀ x ∈ xs, PyData.strOk x = true) (h2 : ∀ x ∈ ys, PyData.strOk x = true) :
    RV (rEqD K) (.ref p) (.ref q) H (.bl (decide (xs = ys))) := fun H1 e Q k =>
  ⟨_, _, .lst (ex_l e hp) (dpAll_strs xs), .lst (ex_l e hq) (dpAll_strs ys), shaped_strs h1, shaped_strs h2, by
    have e2 : PyData.eqv (.list (xs.map PyData.str)) (.list (ys.map PyData.str)) = decide (xs = ys) := by
      rw [PyData.eqv]
      exact eqv_strs xs ys
    rw [e2]
    exact k H1 (Ex.refl H1)⟩
theorem rv_neD {p q : Addr} {xs ys : List Str} (hp : SqL K H p (xs.map V.str)) (hq : SqL K H q (ys.map V.str)) (h1 : ∀ x ∈ xs, PyData.strOk x = true) (h2 : ∀ x ∈ ys, PyData.strOk x = true) :
    RV (rNeD K) (.ref p) (.ref q) H (.bl (!decide (xs = ys))) := fun H1 e Q k =>
  ⟨_, _, .lst (ex_l e hp) (dpAll_strs xs), .lst (ex_l e hq) (dpAll_strs ys), shaped_strs h1, shaped_strs h2, by
    have e2 : PyData.eqv (.list (xs.map PyData.str)) (.list (ys.map PyData.str)) = decide (xs = ys) := by
      rw [PyData.eqv]
      exact eqv_strs xs ys
    rw [e2]
    exact k H1 (Ex.refl H1)⟩
/-- a known list held against a new one -/
theorem ev_opKL {p : Addr} {ys : List V} (ha : Ev ta σ H (.ref p)) (hb : EvL tb σ H ys) (hr : ∀ q H1, H1 q = some (.lst ys) → Ex H H1 → RV r (.ref p) (.ref q) H1 z) : Ev (tOp r ta tb) σ H z := ev_opL ha hb hr
theorem el_nil : EvL (tLst tNil) σ H [] := el_lst ea_nil (Nat.zero_le _)

/-! ### "".join(xs) -/
def rJoin (K : PySem.W.Frag) : V → List V → Hp → VK → Prop := fun x xs H Q => ∃ a p, ∃ ys : List Str, x = .str a ∧ xs = [.ref p] ∧ (SqL K H p (ys.map V.str) ∨ SqT K H p (ys.map V.str)) ∧
    (ys.map (·.length)).sum + ys.length * a.length ≤ 16777216 ∧ Q (.str (Txt.join a ys)) H
theorem joinL_nil : ∀ ys : List (List Nat), joinL [] ys = ys.flatten
  | [] => rfl
  | [p] => by simp [joinL]
  | p :: q :: r => by
    have := joinL_nil (q :: r)
    simp only [joinL, List.nil_append, this, List.flatten_cons]
theorem join_nil (ys : List (List Nat)) : Txt.join (S []) (ys.map S) = S ys.flatten := by
  rw [join_eq]
  refine ext_tl ?_
  rw [tl_join, List.map_map]
  have e : List.map (tl ∘ S) ys = ys := by
    induction ys with
    | nil => rfl
    | cons p r ih => rw [List.map_cons, ih]; rfl
  rw [e]
  exact joinL_nil ys
theorem sum_lens (ys : List (List Nat)) : ((ys.map S).map (·.length)).sum = ys.flatten.length := by
  rw [List.length_flatten, List.map_map]
  congr 1
theorem ev_join {x0 : Str} {ys : List (List Nat)} (hx : x0 = S []) (h : EvL te σ H (ys.map T)) (hl : ys.flatten.length ≤ 16777216) : Ev (tM1 (rJoin K) (tC (.str x0)) te) σ H (T ys.flatten) := by
  subst hx
  exact fun H1 e Q q => ⟨⟨_, rfl⟩, h H1 e _ fun p H2 _ e2 hp => ⟨S [], p, ys.map S, rfl, rfl, .inl (SqL.of (by rw [hp, List.map_map]; rfl)), by rw [sum_lens, S_len, List.length_nil, Nat.mul_zero]; exact hl, by rw [join_nil]; exact q H2 e2⟩⟩
theorem ev_joinL {x0 : Str} {p : Addr} {ys : List (List Nat)} (hx : x0 = S []) (h : Ev te σ H (.ref p)) (hp : SqL K H p (ys.map T)) (hl : ys.flatten.length ≤ 16777216) : Ev (tM1 (rJoin K) (tC (.str x0)) te) σ H (T ys.flatten) := by
  subst hx
  exact fun H1 e Q q => ⟨⟨_, rfl⟩, h H1 e _ fun H2 e2 => ⟨S [], p, ys.map S, rfl, rfl, .inl (by rw [List.map_map]; exact ex_l (e.trans e2) hp), by rw [sum_lens, S_len, List.length_nil, Nat.mul_zero]; exact hl, by rw [join_nil]; exact q H2 e2⟩⟩
/-! ### xs * k, xs + ys -/
theorem el_rep {xs : List V} (h : EvL ta σ H xs) (hb : ∀ H1, Ex H H1 → Ev tb σ H1 (.int i)) (h0 : 0 ≤ i) (h1 : i ≤ 16777216) (hl : xs.length * i.toNat ≤ 16777216) : EvL (tOp rRep ta tb) σ H (List.replicate i.toNat xs).flatten := fun H1 e Q q =>
  h H1 e _ fun p H2 _ e2 hp => hb H2 (e.trans e2) H2 (Ex.refl H2) _ fun H3 e3 => ⟨p, i, xs, rfl, rfl, e3 p _ hp, by omega, by omega, by rw [big]; exact hl, fun m hm => q m _ (fresh_back (e2.trans e3) hm) ((e2.trans e3).trans (Ex.new hm)) upd_same⟩
theorem el_cat {xs ys : List V} (h : EvL ta σ H xs) (hb : EvL tb σ H ys) (hl : xs.length + ys.length ≤ 16777216) : EvL (tOp rCat ta tb) σ H (xs ++ ys) := fun H1 e Q q =>
  h H1 e _ fun p H2 _ e2 hp => hb H2 (e.trans e2) _ fun m H3 _ e3 hm => ⟨p, m, xs, ys, rfl, rfl, e3 p _ hp, hm, by rw [big]; exact hl, fun n hn => q n _ (fresh_back (e2.trans e3) hn) ((e2.trans e3).trans (Ex.new hn)) upd_same⟩
/-! ### sorted(set(xs)) -/
/-- a new list of those texts, each once, sorted -/
def EvSet (te : TE) (σ : L2.St) (H : Hp) (xs : List Str) : Prop := ∀ H1, Ex H H1 → ∀ Q : VK, (∀ (ys : List Str) p H2, ys.Perm (RB.metT xs) → sortedS ys = true → H1 p = none → Ex H1 H2 → H2 p = some (.lst (ys.map V.str)) → Q (.ref p) H2) → te σ H1 Q
theorem es_sortedSet {w : World} {xs : List Str} (h : EvL te σ H (xs.map V.str)) (h1 : xs.length < 4000) (h2 : (RB.metT xs).length < 64) : EvSet (tCB (RB.rSortedO w) (tCons (tCB (RB.rSet K w) (tCons te tNil)) tNil)) σ H xs := fun H1 e Q q =>
  h H1 e _ fun p H2 _ e2 hp => ⟨p, xs, rfl, SqL.of hp, by unfold scanBound; omega, fun s hs => ⟨s, RB.metT xs, rfl, upd_same, h2, fun ys m pm so hm => by
    have ha : Ex H1 (upd H2 s (RB.SetO w s (RB.metT xs))) := e2.trans (Ex.new hs)
    exact q ys m _ pm so (fresh_back ha hm) (ha.trans (Ex.new hm)) upd_same⟩⟩
/-! ### repr of an int, as a text -/
theorem ev_reprI (ha : Ev te σ H (.int i)) (hi : i.natAbs.log2 < 1920) : Ev (tCB (fun xs H Q => ∃ i, xs = [.int i] ∧ i.natAbs.log2 < 1920 ∧ Q (.str (toString i)) H) (tCons te tNil)) σ H (.str (toString i)) :=
  ev_cb (ea_cons ha ea_nil) fun H1 _ Q q => ⟨i, rfl, hi, q H1 (Ex.refl H1)⟩

/-! ### lists of texts, by codes -/
theorem el_to {xs ys : List V} (h : EvL te σ H xs) (e : xs = ys) : EvL te σ H ys := e ▸ h
theorem map_T (ys : List (List Nat)) : ys.map T = (ys.map S).map V.str := by
  rw [List.map_map]
  rfl
theorem map_S_inj : ∀ {ys zs : List (List Nat)}, ys.map S = zs.map S → ys = zs
  | [], [], _ => rfl
  | [], _ :: _, h => by cases h
  | _ :: _, [], h => by cases h
  | y :: r, z :: t, h => by
    rw [List.map_cons, List.map_cons, List.cons.injEq] at h
    rw [S_inj.mp h.1, map_S_inj h.2]
theorem dec_mapS (ys zs : List (List Nat)) : decide (ys.map S = zs.map S) = decide (ys = zs) := by
  by_cases e : ys = zs
  · subst e
    simp
  · rw [decide_eq_false e, decide_eq_false fun q => e (map_S_inj q)]
theorem rv_neDT {p q : Addr} {ys zs : List (List Nat)} (hp : SqL K H p (ys.map T)) (hq : SqL K H q (zs.map T)) (h1 : ∀ y ∈ ys, ∀ c ∈ y, c < 1114112) (h2 : ∀ y ∈ zs, ∀ c ∈ y, c < 1114112) :
    RV (rNeD K) (.ref p) (.ref q) H (.bl (!decide (ys = zs))) := by
  rw [← dec_mapS]
  rw [map_T] at hp hq
  refine rv_neD hp hq (fun x hx => ?_) (fun x hx => ?_)
  · obtain ⟨y, hy, rfl⟩ := List.mem_map.mp hx
    exact strOk_S (h1 y hy)
  · obtain ⟨y, hy, rfl⟩ := List.mem_map.mp hx
    exact strOk_S (h2 y hy)
theorem rv_eqDT {p q : Addr} {ys zs : List (List Nat)} (hp : SqL K H p (ys.map T)) (hq : SqL K H q (zs.map T)) (h1 : ∀ y ∈ ys, ∀ c ∈ y, c < 1114112) (h2 : ∀ y ∈ zs, ∀ c ∈ y, c < 1114112) :
    RV (rEqD K) (.ref p) (.ref q) H (.bl (decide (ys = zs))) := by
  rw [← dec_mapS]
  rw [map_T] at hp hq
  refine rv_eqD hp hq (fun x hx => ?_) (fun x hx => ?_)
  · obtain ⟨y, hy, rfl⟩ := List.mem_map.mp hx
    exact strOk_S (h1 y hy)
  · obtain ⟨y, hy, rfl⟩ := List.mem_map.mp hx
    exact strOk_S (h2 y hy)
theorem ev_neLL {ys zs : List (List Nat)} (ha : EvL ta σ H (ys.map T)) (hb : EvL tb σ H (zs.map T)) (h1 : ∀ y ∈ ys, ∀ c ∈ y, c < 1114112) (h2 : ∀ y ∈ zs, ∀ c ∈ y, c < 1114112) :
    Ev (tOp (rNeD K) ta tb) σ H (.bl (!decide (ys = zs))) := ev_opLL ha hb fun p q H1 hp hq _ => rv_neDT (SqL.of hp) (SqL.of hq) h1 h2
theorem ev_neKL {p : Addr} {ys zs : List (List Nat)} (ha : Ev ta σ H (.ref p)) (hp : SqL K H p (ys.map T)) (hb : EvL tb σ H (zs.map T)) (h1 : ∀ y ∈ ys, ∀ c ∈ y, c < 1114112) (h2 : ∀ y ∈ zs, ∀ c ∈ y, c < 1114112) :
    Ev (tOp (rNeD K) ta tb) σ H (.bl (!decide (ys = zs))) := ev_opL ha hb fun q H1 hq e => rv_neDT (ex_l e hp) (SqL.of hq) h1 h2
theorem ev_eqKL {p : Addr} {ys zs : List (List Nat)} (ha : Ev ta σ H (.ref p)) (hp : SqL K H p (ys.map T)) (hb : EvL tb σ H (zs.map T)) (h1 : ∀ y ∈ ys, ∀ c ∈ y, c < 1114112) (h2 : ∀ y ∈ zs, ∀ c ∈ y, c < 1114112) :
    Ev (tOp (rEqD K) ta tb) σ H (.bl (decide (ys = zs))) := ev_opL ha hb fun q H1 hq e => rv_eqDT (ex_l e hp) (SqL.of hq) h1 h2
/-! ### slices with a step -/
def stepL (l : List Nat) (p k : Nat) : List Nat := (List.range (rgN p l.length k)).map fun j => l.getD (p + j * k) 0
theorem rgN_lt {p n k j : Nat} (hk : 0 < k) (hj : j < rgN p n k) : p + j * k < n := by
  unfold rgN at hj
  by_cases h : (p : Int) < (n : Int)
  · rw [if_pos h] at hj
    have h1 : (j : Int) ≤ ((n : Int) - p - 1) / k := by omega
    have h2 := (Int.le_ediv_iff_mul_le (by omega : (0 : Int) < (k : Int))).mp h1
    have h3 : ((j * k : Nat) : Int) = (j : Int) * (k : Int) := Int.natCast_mul j k
    omega
  · rw [if_neg h] at hj
    omega
theorem rgN_ge {p n k j : Nat} (hk : 0 < k) (h : p + j * k < n) : j < rgN p n k := by
  unfold rgN
  have hp : (p : Int) < (n : Int) := by
    have : 0 ≤ j * k := Nat.zero_le _
    omega
  rw [if_pos hp]
  have h3 : ((j * k : Nat) : Int) = (j : Int) * (k : Int) := Int.natCast_mul j k
  have h1 : (j : Int) ≤ ((n : Int) - p - 1) / k := (Int.le_ediv_iff_mul_le (by omega : (0 : Int) < (k : Int))).mpr (by omega)
  omega

theorem ev_chain {r' : R2} {tc : TE} {b1 b2 : Bool} (ha : Ev ta σ H x) (hb : Ev tb σ H y) (hr : RV r x y H (.bl b1)) (hc : b1 = true → Ev tc σ H z) (hr' : b1 = true → RV r' y z H (.bl b2)) : Ev (tChain r r' ta tb tc) σ H (.bl (b1 && b2)) := fun H1 e Q q =>
  ha H1 e _ fun H2 e2 => hb H2 (e.trans e2) _ fun H3 e3 => hr H3 ((e.trans e2).trans e3) _ fun H4 e4 => ⟨b1, rfl, by
    cases b1 with
    | true =>
      show tc σ H4 fun w' H5 => r' y w' H5 Q
      exact hc rfl H4 (((e.trans e2).trans e3).trans e4) _ fun H5 e5 => hr' rfl H5 ((((e.trans e2).trans e3).trans e4).trans e5) _ fun H6 e6 => q H6 ((((e2.trans e3).trans e4).trans e5).trans e6)
    | false =>
      show Q (.bl false) H4
      exact q H4 ((e2.trans e3).trans e4)⟩
end
end RE

/-! Seen pieces: columns, rims. -/
namespace RF
open PySem PySem.Spec PyProof.Rows L2 Evl TL RC RA RD RE

theorem stepS_eq (l : List Nat) (p k : Nat) (hk : 0 < k) : stepS (S l) (some (p : Int)) none (k : Int) = S (stepL l p k) := by
  have hidx : Builtin.Str.strSliceIndices (some (p : Int)) none (k : Int) (S l).length = (List.range (rgN p l.length k)).map (fun j => p + j * k) := by
    rw [S_len]
    unfold Builtin.Str.strSliceIndices sliceRange
    have hk' : (k : Int) > 0 := by omega
    have hp0 : ¬ ((p : Int) < 0) := by omega
    simp only [if_pos hk', if_neg hp0]
    by_cases h : (p : Int) < (l.length : Int)
    · have hmin : max 0 (min (p : Int) (l.length : Int)) = (p : Int) := by omega
      rw [hmin, if_pos h]
      have hc : (((l.length : Int) - p + k - 1) / k).toNat = rgN p l.length k := by
        unfold rgN
        rw [if_pos h]
        have e : ((l.length : Int) - p + k - 1) / k = ((l.length : Int) - p - 1) / k + 1 := by
          have e1 : (l.length : Int) - p + k - 1 = ((l.length : Int) - p - 1) + k * 1 := by omega
          rw [e1, Int.add_mul_ediv_left _ _ (by omega : (k : Int) ≠ 0)]
        rw [e]
      rw [hc]
      apply List.map_congr_left
      intro j _
      have e2 : (p : Int) + (k : Int) * (j : Int) = ((p + j * k : Nat) : Int) := by
        rw [Int.natCast_add, Int.natCast_mul, Int.mul_comm]
      rw [e2, Int.toNat_natCast]
    · have hmin : max 0 (min (p : Int) (l.length : Int)) = (l.length : Int) := by omega
      have h0 : rgN p l.length k = 0 := by
        unfold rgN
        rw [if_neg h]
      rw [hmin, h0, if_neg (by omega)]
      rfl
  have hpick : ((Builtin.Str.strSliceIndices (some (p : Int)) none (k : Int) (S l).length).filterMap ((S l).cps[·]?)) = stepL l p k := by
    rw [hidx]
    unfold stepL
    rw [List.filterMap_map]
    have : ∀ n, n ≤ rgN p l.length k → List.filterMap ((fun x => (S l).cps[x]?) ∘ fun j => p + j * k) (List.range n) = (List.range n).map fun j => l.getD (p + j * k) 0 := by
      intro n
      induction n with
      | zero => intro _; rfl
      | succ n ih =>
        intro hn
        have hlt := rgN_lt hk (show n < rgN p l.length k by omega)
        rw [List.range_succ, List.filterMap_append, List.map_append, ih (by omega)]
        congr 1
        have e : (S l).cps[p + n * k]? = some (l.getD (p + n * k) 0) := by
          show l.toArray[p + n * k]? = _
          simp [List.getD, hlt]
        simp [List.filterMap_cons, e]
    exact this _ (Nat.le_refl _)
  unfold stepS
  by_cases c : (((k : Int) == 1) && (Builtin.Str.strSliceIndices (some (p : Int)) none (k : Int) (S l).length).length == (S l).length) = true
  · rw [if_pos c]
    have hk1 : k = 1 := by
      have := ((Bool.and_eq_true _ _).mp c).1
      have : (k : Int) = 1 := by simpa using this
      omega
    have hlen : rgN p l.length k = l.length := by
      have := ((Bool.and_eq_true _ _).mp c).2
      rw [hidx, S_len] at this
      simpa using this
    subst hk1
    rw [S_inj]
    unfold stepL
    rw [hlen]
    apply List.ext_getElem
    · simp
    · intro i h1 h2
      have hp := rgN_lt (p := p) (n := l.length) (k := 1) (j := l.length - 1) (by omega) (by omega)
      have hp0 : p = 0 := by omega
      subst hp0
      simp [List.getD, h1]
  · rw [if_neg c, hpick]
    rfl

/-! ## columns -/
/-- the signs of the text from the blank-less list of marks, none, unseen -/
def SIGNS : List Nat := [97,98,99,100,101,102,103,104,105,106,107,108,109,110,111,112,113,114,115,116,117,118,119,120,121,122,46,63]
def Seen (l : List Nat) : Prop := l ≠ [] ∧ l.length ≤ 30000 ∧ ∀ c ∈ l, c ∈ SIGNS
theorem signs_lt {c : Nat} (h : c ∈ SIGNS) : c < 128 := by
  have : ∀ c ∈ SIGNS, c < 128 := by decide
  exact this c h
/-- what is seen at the places that are p behind a multiple of k -/
def col (l : List Nat) (k p : Nat) : List Nat := (stepL l p k).filter fun c => !decide (c = 63)
theorem mem_col {l : List Nat} {k p c : Nat} (hk : 0 < k) : c ∈ col l k p ↔ c ≠ 63 ∧ ∃ j, p + j * k < l.length ∧ l[p + j * k]? = some c := by
  unfold col stepL
  rw [List.mem_filter, List.mem_map]
  constructor
  · rintro ⟨⟨j, hj, rfl⟩, h2⟩
    have hlt := rgN_lt hk (List.mem_range.mp hj)
    exact ⟨by simpa using h2, j, hlt, by simp [List.getD, hlt]⟩
  · rintro ⟨h1, j, hlt, h3⟩
    exact ⟨⟨j, List.mem_range.mpr (rgN_ge hk hlt), by simp [List.getD, h3]⟩, by simpa using h1⟩
/-- the rim of length k that can have printed it: at each place the one sign that is seen there, ? for none -/
def rimAt (l : List Nat) (k p : Nat) : Nat := (col l k p).headD 63
def oneSign (l : List Nat) (k p : Nat) : Prop := ∀ a ∈ col l k p, ∀ b ∈ col l k p, a = b
instance (l : List Nat) (k p : Nat) : Decidable (oneSign l k p) := inferInstanceAs (Decidable (∀ a ∈ col l k p, ∀ b ∈ col l k p, a = b))
def fitsOne (l : List Nat) (k : Nat) : Prop := ∀ p, p < k → oneSign l k p
instance (l : List Nat) (k : Nat) : Decidable (fitsOne l k) := inferInstanceAs (Decidable (∀ p, p < k → oneSign l k p))
def rimL (l : List Nat) (k : Nat) : List Nat := (List.range k).map (rimAt l k)
/-- a text, or None -/
def optT : Option (List Nat) → V
  | none => .non
  | some l => T l
def rimOf (l : List Nat) (k : Nat) : Option (List Nat) := if fitsOne l k then some (rimL l k) else none
theorem stepL_len (l : List Nat) (p k : Nat) (hk : 0 < k) : (stepL l p k).length ≤ l.length := by
  unfold stepL
  rw [List.length_map, List.length_range]
  by_cases h : rgN p l.length k = 0
  · omega
  · have := rgN_lt hk (show rgN p l.length k - 1 < rgN p l.length k by omega)
    have h2 : (rgN p l.length k - 1) * 1 ≤ (rgN p l.length k - 1) * k := Nat.mul_le_mul_left _ hk
    omega
theorem col_len (l : List Nat) (p k : Nat) (hk : 0 < k) : (col l k p).length ≤ l.length := Nat.le_trans (List.length_filter_le _ _) (stepL_len l p k hk)
theorem stepL_mem {l : List Nat} {p k c : Nat} (hk : 0 < k) (h : c ∈ stepL l p k) : c ∈ l := by
  unfold stepL at h
  obtain ⟨j, hj, rfl⟩ := List.mem_map.mp h
  have hlt := rgN_lt hk (List.mem_range.mp hj)
  have e : l[p + j * k]? = some (l.getD (p + j * k) 0) := by simp [List.getD, hlt]
  exact List.mem_of_getElem? e
theorem col_signs {l : List Nat} {p k c : Nat} (hk : 0 < k) (hl : ∀ c ∈ l, c ∈ SIGNS) (h : c ∈ col l k p) : c ∈ SIGNS := hl c (stepL_mem hk (List.mem_filter.mp h).1)
theorem col_ne {l : List Nat} {p k c : Nat} (h : c ∈ col l k p) : c ≠ 63 := by simpa using (List.mem_filter.mp h).2
/-! ### the texts met in a column -/
theorem nodup_len_le : ∀ (xs ys : List Nat), xs.Nodup → (∀ x ∈ xs, x ∈ ys) → xs.length ≤ ys.length
  | [], _, _, _ => Nat.zero_le _
  | x :: r, ys, nd, h => by
    have hx := h x List.mem_cons_self
    have nd' := List.nodup_cons.mp nd
    have := nodup_len_le r (ys.erase x) nd'.2 fun y hy => (List.mem_erase_of_ne (fun e : y = x => nd'.1 (by rw [← e]; exact hy))).mpr (h y (List.mem_cons_of_mem _ hy))
    rw [List.length_erase_of_mem hx] at this
    have hpos := List.length_pos_of_mem hx
    rw [List.length_cons]
    omega
theorem met_lt {xs : List Nat} (h : ∀ c ∈ xs, c ∈ SIGNS) : (RB.metT (xs.map fun c => S [c])).length < 64 := by
  have hm : ∀ z ∈ RB.metT (xs.map fun c => S [c]), ∃ c ∈ SIGNS, z = S [c] := fun z hz => by
    obtain ⟨c, hc, rfl⟩ := List.mem_map.mp (RB.metT_mem.mp hz)
    exact ⟨c, h c hc, rfl⟩
  have nd := RB.metT_nodup (xs.map fun c => S [c])
  revert hm nd
  generalize RB.metT (xs.map fun c => S [c]) = ms
  intro hm nd
  have h1 : (ms.map fun z => (tl z).headD 0).Nodup := by
    refine List.Pairwise.map _ (fun a b hab => hab) ?_
    refine List.Pairwise.imp_of_mem (fun {a b} ha hb hne => ?_) nd
    obtain ⟨c, _, rfl⟩ := hm a ha
    obtain ⟨d, _, rfl⟩ := hm b hb
    intro e
    apply hne
    have e' : c = d := by simpa using e
    rw [e']
  have := nodup_len_le _ SIGNS h1 fun x hx => by
    obtain ⟨z, hz, rfl⟩ := List.mem_map.mp hx
    obtain ⟨c, hc, rfl⟩ := hm z hz
    simpa using hc
  rw [List.length_map] at this
  exact Nat.lt_of_le_of_lt this (by decide)
end RF

/-! Draws: what stays while numbers are drawn. -/
namespace RG
open PySem PySem.Spec PyProof.Rows L2 Evl TL RC RA RD RE
/-- all but the thing at b is as it was -/
def But (b : Addr) (H H' : Hp) : Prop := ∀ a o, a ≠ b → H a = some o → H' a = some o
theorem But.refl (b : Addr) (H : Hp) : But b H H := fun _ _ _ h => h
theorem But.trans {b : Addr} {H H1 H2 : Hp} (x : But b H H1) (y : But b H1 H2) : But b H H2 := fun a o n h => y a o n (x a o n h)
theorem But.ex {b : Addr} {H H1 : Hp} (e : Ex H H1) : But b H H1 := fun a o _ h => e a o h
theorem But.put {b : Addr} {H H1 : Hp} {o : HO} (x : But b H H1) : But b H (upd H1 b o) := fun a u n h => by
  rw [upd_ne n]
  exact x a u n h
theorem But.new {b p : Addr} {H : Hp} {o : HO} (h : H p = none) : But b H (upd H p o) := But.ex (Ex.new h)
theorem But.seq {K : PySem.W.Frag} {b a : Addr} {H H1 : Hp} {xs : List V} (x : But b H H1) (h : SqL K H a xs) (n : a ≠ b) : SqL K H1 a xs := by
  rcases h with (h | ⟨o, h⟩) | h
  · exact .inl (.inl (x a _ n h))
  · exact .inl (.inr ⟨o, x a _ n h⟩)
  · exact .inr h
/-- a thing that is new since H, changed: for H nothing -/
theorem But.own {b : Addr} {H0 H H' : Hp} (e : Ex H0 H) (h0 : H0 b = none) (x : But b H H') : Ex H0 H' := fun a o h => x a o (ne_of_none h h0) (e a o h)
abbrev M61 : Int := 2305843009213693951
/-- the bag at b: the script's copy (at q), where it is read on, what is left of a cell, how many draws, all cells mixed; n draws at most so far -/
def Bag (H : Hp) (b q : Addr) (n : Nat) : Prop := ∃ (ns : List Int) (i j c t : Int), H b = some (.lst [.ref q, .int i, .int j, .int c, .int t]) ∧ H q = some (.lst (ns.map V.int)) ∧
  0 ≤ i ∧ i ≤ ns.length ∧ 0 ≤ c ∧ c ≤ n
theorem Bag.mono {H : Hp} {b q : Addr} {n m : Nat} (h : Bag H b q n) (l : n ≤ m) : Bag H b q m := by
  obtain ⟨ns, i, j, c, t, h1, h2, h3, h4, h5, h6⟩ := h
  exact ⟨ns, i, j, c, t, h1, h2, h3, h4, h5, by omega⟩
theorem Bag.ex {H H1 : Hp} {b q : Addr} {n : Nat} (h : Bag H b q n) (e : Ex H H1) : Bag H1 b q n := by
  obtain ⟨ns, i, j, c, t, h1, h2, h3⟩ := h
  exact ⟨ns, i, j, c, t, e _ _ h1, e _ _ h2, h3⟩
theorem Bag.new {H : Hp} {b q p : Addr} {n : Nat} {o : HO} (h : Bag H b q n) (hp : H p = none) : Bag (upd H p o) b q n := h.ex (Ex.new hp)
theorem Bag.ne {H : Hp} {b q p : Addr} {n : Nat} (h : Bag H b q n) (hp : H p = none) : p ≠ b ∧ p ≠ q := by
  obtain ⟨ns, i, j, c, t, h1, h2, h3⟩ := h
  exact ⟨(ne_of_none h1 hp).symm, (ne_of_none h2 hp).symm⟩
theorem Bag.put {H : Hp} {b q p : Addr} {n : Nat} {o : HO} (h : Bag H b q n) (h1 : p ≠ b) (h2 : p ≠ q) : Bag (upd H p o) b q n := by
  obtain ⟨ns, i, j, c, t, e1, e2, h3⟩ := h
  exact ⟨ns, i, j, c, t, by rw [upd_ne h1.symm]; exact e1, by rw [upd_ne h2.symm]; exact e2, h3⟩
theorem But.at {b p : Addr} {H H1 : Hp} {o : HO} (x : But b H H1) (n : p ≠ b) (h : H p = some o) : H1 p = some o := x p o n h
def stirF (number place : Int) : Int :=
  let one := (number * 998244353 + place * 1000000007 + 5) % 2305843009213693951
  let two := one * one % 2305843009213693951
  (two * 2860486313 + place * place * 48271 + one / 3) % 2305843009213693921 / 1024

/-! ## lists made by draws -/
structure Res (R : Hp → Nat → Prop) (b : Addr) (own : Addr → Prop) : Prop where
  ex : ∀ {H H1 n}, R H n → Ex H H1 → R H1 n
  mono : ∀ {H n m}, R H n → n ≤ m → R H m
  ne : ∀ {H n p}, R H n → H p = none → ¬ own p
  put : ∀ {H n p o}, R H n → ¬ own p → R (upd H p o) n
  self : own b
theorem bagRes (b q : Addr) : Res (fun H n => Bag H b q n) b (fun p => p = b ∨ p = q) :=
  ⟨fun h e => h.ex e, fun h l => h.mono l, fun h hp z => z.elim (h.ne hp).1 (h.ne hp).2, fun h z => h.put (fun e => z (.inl e)) fun e => z (.inr e), .inl rfl⟩
section
variable {R : Hp → Nat → Prop} {b : Addr} {own : Addr → Prop} {K : PySem.W.Frag} {σ : L2.St} {H : Hp} {vs : List Nat} {tel te : TE} {ta : TA} {j size n dn : Nat} {Q : VK}
theorem lcB (Rs : Res R b own) (G : V → Prop) (hR : R H n) (h : EvA ta σ H [.int (size : Int)]) (hz : size ≤ 100000) (hw : ∀ x, wipe ((wipe σ vs).set j (some x)) vs = wipe σ vs)
    (hel : ∀ (i : Nat) H1, i < size → But b H H1 → R H1 (n + i * dn) → ∀ Q', (∀ v H2, G v → But b H1 H2 → R H2 (n + i * dn + dn) → Q' v H2) → tel ((wipe σ vs).set j (some (.int (i : Int)))) H1 Q')
    (hQ : ∀ xs p H2, xs.length = size → (∀ x ∈ xs, G x) → H p = none → But b H H2 → R H2 (n + size * dn) → H2 p = some (.lst xs) → Q (.ref p) H2) :
    tLc (iRng1 ta) (gName j) tYes tel vs σ H Q :=
  h H (Ex.refl H) _ fun H0 e0 => ⟨(size : Int), rfl, by omega, by omega, fun Dl hD => by
    have hDo : ¬ own Dl := Rs.ne (Rs.ex hR e0) hD
    have hDb : Dl ≠ b := fun z => hDo (by rw [z]; exact Rs.self)
    have hsz : ((size : Int)).toNat = size := by omega
    rw [hsz]
    refine lc_range (lo := 0) (n := size) (fun i H' => ∃ xs : List V, xs.length = i ∧ (∀ x ∈ xs, G x) ∧ H' Dl = some (.lst xs) ∧ But b H H' ∧ R H' (n + i * dn))
      ⟨[], rfl, fun x hx => (by cases hx), upd_same, But.ex (e0.trans (Ex.new hD)), by rw [Nat.zero_mul]; exact Rs.ex hR (e0.trans (Ex.new hD))⟩ (fun i H' hi hp => ?_) (fun H' hp => ?_)
    · obtain ⟨xs, h1, h2, h3, h4, h5⟩ := hp
      have ei : (0 : Int) + (i : Int) = (i : Int) := Int.zero_add _
      rw [ei]
      refine ⟨hw _, ?_⟩
      show (if true = true then tel ((wipe σ vs).set j (some (.int (i : Int)))) H' (fun y H4 => ∃ acc, H4 Dl = some (.lst acc) ∧ acc.length < sizeLine ∧ ∃ xs : List V, xs.length = i + 1 ∧ (∀ x ∈ xs, G x) ∧
          (upd H4 Dl (.lst (acc ++ [y]))) Dl = some (.lst xs) ∧ But b H (upd H4 Dl (.lst (acc ++ [y]))) ∧ R (upd H4 Dl (.lst (acc ++ [y]))) (n + (i + 1) * dn))
        else ∃ xs : List V, xs.length = i + 1 ∧ (∀ x ∈ xs, G x) ∧ H' Dl = some (.lst xs) ∧ But b H H' ∧ R H' (n + (i + 1) * dn))
      rw [if_pos rfl]
      refine hel i H' hi h4 h5 _ fun v H2 gv u2 r2 => ⟨xs, u2 Dl _ hDb h3, by rw [h1, big]; omega, xs ++ [v], by rw [List.length_append, h1]; rfl, fun x hx => ?_, upd_same, ?_, ?_⟩
      · rcases List.mem_append.mp hx with z | z
        · exact h2 x z
        · rw [List.mem_singleton.mp z]
          exact gv
      · intro a o na ha
        have hne : a ≠ Dl := ne_of_none (e0 a o ha) hD
        rw [upd_ne hne]
        exact (h4.trans u2) a o na ha
      · have e1 : n + (i + 1) * dn = n + i * dn + dn := by rw [Nat.succ_mul, Nat.add_assoc]
        rw [e1]
        exact Rs.put r2 hDo
    · obtain ⟨xs, h1, h2, h3, h4, h5⟩ := hp
      exact hQ xs Dl H' h1 h2 (fresh_back e0 hD) h4 h5 h3⟩
end
theorem cutS_eq (l : List Nat) (lo hi : Option Int) : cutS (S l) lo hi = S ((l.drop (HT.sIx l.length 0 lo)).take (HT.sIx l.length l.length hi - HT.sIx l.length 0 lo)) := by
  refine ext_tl ?_
  unfold cutS
  simp
end RG
namespace RG
open PySem PySem.Spec PyProof.Rows L2 Evl TL RC RA RD RE
theorem cutS_take (l : List Nat) (k : Nat) : cutS (S l) none (some (k : Int)) = S (l.take k) := by
  rw [cutS_eq, HT.sIx_none, HT.sIx_nat, S_inj, List.drop_zero, Nat.sub_zero]
  by_cases h : k ≤ l.length
  · rw [Nat.min_eq_left h]
  · rw [Nat.min_eq_right (by omega), List.take_of_length_le (Nat.le_refl _)]
    exact (List.take_of_length_le (by omega)).symm
/-- marks, and none -/
def MARKS : List Nat := [97,98,99,100,101,102,103,104,105,106,107,108,109,110,111,112,113,114,115,116,117,118,119,120,121,122,46]
def RimOk (most : Nat) (z : List Nat) : Prop := 1 ≤ z.length ∧ z.length ≤ most ∧ ∀ c ∈ z, c ∈ MARKS
theorem repT_one (c k : Nat) : repT [c] k = List.replicate k c := by
  unfold repT
  induction k with
  | zero => rfl
  | succ k ih => rw [List.replicate_succ, List.flatten_cons, ih, List.replicate_succ]; rfl
theorem repT_len (l : List Nat) (k : Nat) : (repT l k).length = k * l.length := by
  unfold repT
  simp
theorem repT_mem {l : List Nat} {k c : Nat} (h : c ∈ repT l k) : c ∈ l := by
  unfold repT at h
  obtain ⟨m, hm, hc⟩ := List.mem_flatten.mp h
  rw [List.eq_of_mem_replicate hm] at hc
  exact hc
theorem cs {x : Str} (l : List Nat) (h : x = S l) : V.str x = T l := by rw [h]
theorem getD_mem {l : List Nat} {i : Nat} (h : i < l.length) : l.getD i 0 ∈ l := by
  have e : l.getD i 0 = l[i] := by simp [List.getD, h]
  rw [e]
  exact List.getElem_mem h
theorem texts_of {xs : List V} {P : List Nat → Prop} (h : ∀ x ∈ xs, ∃ l, x = T l ∧ P l) : ∃ ys : List (List Nat), xs = ys.map T ∧ ∀ y ∈ ys, P y := by
  induction xs with
  | nil => exact ⟨[], rfl, fun y hy => by cases hy⟩
  | cons x r ih =>
    obtain ⟨l, rfl, hl⟩ := h x List.mem_cons_self
    obtain ⟨ys, rfl, hys⟩ := ih fun y hy => h y (List.mem_cons_of_mem _ hy)
    exact ⟨l :: ys, rfl, fun y hy => (List.mem_cons.mp hy).elim (fun e => by rw [e]; exact hl) (hys y)⟩
theorem flat_one {ys : List (List Nat)} (h : ∀ y ∈ ys, y.length = 1) : ys.flatten.length = ys.length := by
  induction ys with
  | nil => rfl
  | cons y r ih => rw [List.flatten_cons, List.length_append, h y List.mem_cons_self, ih fun z hz => h z (List.mem_cons_of_mem _ hz), List.length_cons]; omega
end RG

/-! A wheel fits a seen piece: by its columns, by pairs of places. -/
namespace RH
open PySem PySem.Spec PyProof.Rows L2 Evl TL RC RA RD RE RF RG
def pairOk (l : List Nat) (k i : Nat) : Prop := l.getD i 0 ≠ 63 → ∀ m, i + (m + 1) * k < l.length → l.getD (i + (m + 1) * k) 0 ≠ 63 → l.getD (i + (m + 1) * k) 0 = l.getD i 0
theorem get_getD {l : List Nat} {i : Nat} (h : i < l.length) : l[i]? = some (l.getD i 0) := by simp [List.getD, h]
theorem fits_iff {l : List Nat} {k : Nat} (hk : 0 < k) : fitsOne l k ↔ ∀ i, i < l.length → pairOk l k i := by
  constructor
  · intro h i hi h1 m hm h2
    have hp : i % k < k := Nat.mod_lt _ hk
    have hd : i % k + (i / k) * k = i := by
      rw [Nat.mul_comm]
      exact Nat.mod_add_div i k
    have e2 : i % k + (i / k + (m + 1)) * k = i + (m + 1) * k := by
      rw [Nat.add_mul]
      omega
    refine h (i % k) hp _ ((mem_col hk).mpr ⟨h2, i / k + (m + 1), by rw [e2]; exact hm, by rw [e2]; exact get_getD hm⟩) _ ((mem_col hk).mpr ⟨h1, i / k, by rw [hd]; exact hi, by rw [hd]; exact get_getD hi⟩)
  · intro h p hp a ha b hb
    obtain ⟨a1, i, hi, ai⟩ := (mem_col hk).mp ha
    obtain ⟨b1, j, hj, bj⟩ := (mem_col hk).mp hb
    rw [get_getD hi] at ai
    rw [get_getD hj] at bj
    have ea := Option.some.inj ai
    have eb := Option.some.inj bj
    have key : ∀ i j, i < j → p + j * k < l.length → l.getD (p + i * k) 0 ≠ 63 → l.getD (p + j * k) 0 ≠ 63 → l.getD (p + j * k) 0 = l.getD (p + i * k) 0 := fun i j hij hj n1 n2 => by
      have e : p + i * k + (j - i - 1 + 1) * k = p + j * k := by
        rw [Nat.add_assoc, ← Nat.add_mul]
        congr 2
        omega
      have hi : p + i * k < l.length := by
        have : i * k ≤ j * k := Nat.mul_le_mul_right _ (by omega)
        omega
      have := h (p + i * k) hi n1 (j - i - 1)
      rw [e] at this
      exact this hj n2
    rw [← ea] at a1
    rw [← eb] at b1
    rw [← ea, ← eb]
    rcases Nat.lt_trichotomy i j with z | z | z
    · exact (key i j z hj a1 b1).symm
    · rw [z]
    · exact key j i z hi b1 a1
/-- a list of signs that agrees with each column is the rim -/
theorem rim_of_signs {l cs : List Nat} {k : Nat} (hk : 0 < k) (hf : fitsOne l k) (hc : cs.length = k)
    (h : ∀ r, r < k → (cs.getD r 0 = 63 ∧ ∀ j, j < l.length → j % k = r → l.getD j 0 = 63) ∨ cs.getD r 0 ∈ col l k r) : cs = rimL l k := by
  apply List.ext_getElem
  · simp [rimL, hc]
  · intro r h1 h2
    have hr : r < k := by omega
    have e1 : cs[r] = cs.getD r 0 := by simp [List.getD, h1]
    have e2 : (rimL l k)[r] = rimAt l k r := by simp [rimL]
    rw [e1, e2]
    unfold rimAt
    rcases h r hr with ⟨q1, q2⟩ | q
    · rw [q1]
      cases hcol : col l k r with
      | nil => rfl
      | cons c t =>
        have hm : c ∈ col l k r := by
          rw [hcol]
          exact List.mem_cons_self
        obtain ⟨n1, j, hj, cj⟩ := (mem_col hk).mp hm
        have := q2 (r + j * k) hj (by rw [Nat.add_mul_mod_self_right]; exact Nat.mod_eq_of_lt hr)
        rw [get_getD hj, this] at cj
        exact absurd (Option.some.inj cj).symm n1
    · cases hcol : col l k r with
      | nil =>
        rw [hcol] at q
        cases q
      | cons c t =>
        have hm : c ∈ col l k r := by
          rw [hcol]
          exact List.mem_cons_self
        exact hf r hr _ q _ hm
theorem code_lt (s : String) : ∀ c ∈ tl (Str.ofString s), c < 1114112 := fun c hc => by
  rw [tl_ofString] at hc
  obtain ⟨x, _, rfl⟩ := List.mem_map.mp hc
  have := x.valid
  show x.val.toNat < 1114112
  rcases this with h | h
  · exact Nat.lt_trans h (by decide)
  · exact h.2
theorem flat_T (cs : List Nat) : (cs.map fun c => [c]).flatten = cs := by
  induction cs with
  | nil => rfl
  | cons c r ih => rw [List.map_cons, List.flatten_cons, ih]; rfl
end RH

/-! What the laws' own bodies need. -/
namespace RI
open PySem PySem.Spec PyProof.Rows L2 Evl TL RC RA RD RE RF RG RH
section
variable {K : PySem.W.Frag} {σ : L2.St} {H H' : Hp} {ta tb te tx : TE} {i j : Int} {z : V}
theorem ev_min2 (ha : Ev ta σ H (.int i)) (hb : Ev tb σ H (.int j)) : Ev (tCB (fun xs H Q => ∃ i j, xs = [.int i, .int j] ∧ Q (.int (if j < i then j else i)) H) (tCons ta (tCons tb tNil))) σ H (.int (if j < i then j else i)) :=
  ev_cb (ea_cons ha (ea_cons hb ea_nil)) fun H1 _ Q q => ⟨i, j, rfl, q H1 (Ex.refl H1)⟩
def rpr (i : Int) : List Nat := tl (toString i : Str)
theorem rpr_S (i : Int) : (.str (toString i) : V) = T (rpr i) := (congrArg V.str (S_tl _)).symm
theorem rpr_lt (i : Int) : ∀ c ∈ rpr i, c < 1114112 := code_lt _
abbrev rRepr : List V → Hp → VK → Prop := fun xs H Q => ∃ i, xs = [.int i] ∧ i.natAbs.log2 < 1920 ∧ Q (.str (toString i)) H
/-- [repr(x) for x in numbers] -/
theorem el_reprs {p : Addr} {ns : List Int} {jx : Nat} {vs : List Nat} (h : Ev te σ H (.ref p)) (hp : SqL K H p (ns.map V.int)) (hn : ns.length ≤ 40000) (hl : ∀ i ∈ ns, i.natAbs.log2 < 1920)
    (hw : ∀ x, wipe ((wipe σ vs).set jx (some x)) vs = wipe σ vs) (hj : ∀ x, ((wipe σ vs).set jx (some x))[jx]? = some (some x)) :
    EvL (tLc (iList K te) (gName jx) tYes (tCB rRepr (tCons (tVar jx) tNil)) vs) σ H ((ns.map rpr).map T) := by
  refine el_to (el_lcV (fun _ => true) (fun x => match x with | .int i => .str (toString i) | _ => .non) h hp (by rw [List.length_map]; exact hn) hw (fun x H1 _ _ => et_yes) (fun x H1 _ hx _ => ?_)) ?_
  · obtain ⟨i, hi, rfl⟩ := List.mem_map.mp hx
    exact ev_reprI (ev_var (hj _)) (hl i hi)
  · rw [List.filter_eq_self.mpr (fun _ _ => rfl), List.map_map, List.map_map]
    exact List.map_congr_left fun i _ => rpr_S i
theorem small_log {i : Int} (h0 : 0 ≤ i) (h1 : i ≤ 1000000000) : i.natAbs.log2 < 1920 := by
  have : i.natAbs < 2 ^ 1920 := Nat.lt_of_lt_of_le (show i.natAbs < 2 ^ 30 by omega) (Nat.pow_le_pow_right (by decide) (by decide))
  by_cases hz : i.natAbs = 0
  · rw [hz]
    decide
  · exact (Nat.log2_lt hz).mpr this
theorem ev_all {bs : List Bool} (h : EvL te σ H (bs.map V.bl)) : Ev (tCB (rAll K) (tCons te tNil)) σ H (.bl (bs.all id)) := fun H1 e Q q => h H1 e _ fun p H2 hp e2 h2 => ⟨p, bs, rfl, SqL.of h2, q H2 e2⟩
theorem ev_any {bs : List Bool} (h : EvL te σ H (bs.map V.bl)) : Ev (tCB (rAny K) (tCons te tNil)) σ H (.bl (bs.any id)) := fun H1 e Q q => h H1 e _ fun p H2 hp e2 h2 => ⟨p, bs, rfl, SqL.of h2, q H2 e2⟩
theorem eqV_T (a b : List Nat) : eqV (T a) (T b) = decide (a = b) := by
  show (S a == S b) = decide (a = b)
  rw [Bool.eq_iff_iff, beq_iff_eq, decide_eq_true_iff, S_inj]
/-- a text among two -/
theorem inV_T2 (x a b : List Nat) : inV (T x) [T a, T b] = (decide (a = x) || decide (b = x)) := by
  show (eqV (T a) (T x) || (eqV (T b) (T x) || false)) = _
  rw [eqV_T, eqV_T, Bool.or_false]
theorem ev_inT2 {a b x : List Nat} {tc : TE} (hx : Ev tc σ H (T x)) (ha : Ev ta σ H (T a)) (hb : Ev tb σ H (T b)) : Ev (tOp (rIn K false) tc (tTup (tCons ta (tCons tb tNil)))) σ H (.bl (decide (a = x) || decide (b = x))) := by
  rw [← inV_T2]
  exact ev_inU hx (eu_tup (ea_cons ha (ea_cons hb ea_nil)) (by show 2 ≤ 100000; decide)) rfl rfl
theorem ev_niT2 {a b x : List Nat} {tc : TE} (hx : Ev tc σ H (T x)) (ha : Ev ta σ H (T a)) (hb : Ev tb σ H (T b)) : Ev (tOp (rIn K true) tc (tTup (tCons ta (tCons tb tNil)))) σ H (.bl (!(decide (a = x) || decide (b = x)))) := by
  rw [← inV_T2]
  exact ev_niU hx (eu_tup (ea_cons ha (ea_cons hb ea_nil)) (by show 2 ≤ 100000; decide)) rfl rfl
theorem scal_opt (o o' : Option (List Nat)) : scal (optT o) (optT o') = true := by cases o <;> cases o' <;> rfl
end
end RI

/-! text.replace of written texts within a loop; what replacing one sign gives. -/
namespace RJ
open PySem PySem.Spec PyProof.Rows L2 Evl TL RC RA RD RE RF RG RH RI
def subst (c : Nat) (z : List Nat) (l : List Nat) : List Nat := l.flatMap fun k => if k = c then z else [k]
theorem subst_free {c : Nat} {z : List Nat} : ∀ {l : List Nat}, c ∉ l → subst c z l = l
  | [], _ => rfl
  | k :: r, h => by
    have h1 : ¬ k = c := fun e => h (e ▸ List.mem_cons_self)
    have ih := subst_free (z := z) (l := r) fun m => h (List.mem_cons_of_mem _ m)
    unfold subst at ih ⊢
    rw [List.flatMap_cons, if_neg h1, ih]
    rfl
theorem subst_append {c : Nat} {z a b : List Nat} : subst c z (a ++ b) = subst c z a ++ subst c z b := List.flatMap_append
theorem subst_join (c : Nat) (z : List Nat) : ∀ ps : List Str, (∀ p ∈ ps, c ∉ p.cps.toList) → subst c z (Str.join ⟨#[c]⟩ ps).cps.toList = (Str.join (S z) ps).cps.toList
  | [], _ => rfl
  | [p], h => subst_free (h p (List.mem_singleton.mpr rfl))
  | p :: q :: r, h => by
    have ih := subst_join c z (q :: r) fun a ha => h a (List.mem_cons_of_mem _ ha)
    show subst c z (p ++ ⟨#[c]⟩ ++ Str.join ⟨#[c]⟩ (q :: r)).cps.toList = (p ++ S z ++ Str.join (S z) (q :: r)).cps.toList
    simp only [Str.cps_append, Array.toList_append]
    rw [subst_append, subst_append, ih, subst_free (h p List.mem_cons_self)]
    congr 2
    show subst c z [c] = z
    unfold subst
    simp
theorem repl_S (l z : List Nat) (c : Nat) : Txt.replace (S l) (S [c]) (S z) = S (subst c z l) := by
  refine ext_tl ?_
  show (Txt.replace (S l) ⟨#[c]⟩ (S z)).cps.toList = subst c z l
  rw [StrLaws.replace_one, ← subst_join c z _ (StrLaws.split_free _ c), StrLaws.join_split]
  rfl
theorem subst_nil (c : Nat) (l : List Nat) : subst c [] l = l.filter fun k => !decide (k = c) := by
  unfold subst
  induction l with
  | nil => rfl
  | cons k r ih =>
    rw [List.flatMap_cons, ih]
    by_cases h : k = c
    · rw [if_pos h, List.filter_cons_of_neg (by simp [h])]
      rfl
    · rw [if_neg h, List.filter_cons_of_pos (by simp [h])]
      rfl
theorem ev_replC {to : TE} {σ : L2.St} {H : Hp} {y z : Str} {c : Nat} {z' a : List Nat} (hy : y = S [c]) (hz : z = S z') (h : Ev to σ H (T a)) (hb : a.length + (a.length + 1) * z'.length ≤ 16777216) : Ev (CwR.tReplC to y z) σ H (T (subst c z' a)) := fun H1 e Q q =>
  h H1 e _ fun H2 e2 => ⟨S a, rfl, by rw [S_len, hz, S_len]; exact hb, by
    rw [hy, hz, repl_S]
    exact q H2 e2⟩
section
variable {X : Cx} {st : Stmt} {rest : List Stmt} {t u : TS}
/-- a value whose making wants a token, stored -/
theorem pst_set {i : Nat} {x : Str} {e : Expr} {te : TE} {pos' pos : Pos} (hN : X.N.Nodup) (hi : X.N[i]? = some x) (hx : Loc X.env.scope x) (he : PET X e te) (hs : swapsWith e (some (.Name x pos')) pos.line X.env = pure false := by rfl)
    (hf : X.fn x = true ∨ X.env.scope.names.lookup x = some .local := by first | exact .inl rfl | exact .inr rfl | assumption) : PST X (.Assign [.Name x pos'] e pos) (tAsg te (gName i)) := by
  intro pins s σ H D h0 I h
  refine wpAny_Assign_Name (wpAny_mono (he pins s σ H _ h0 I h) (fun v s1 q => ?_) fun _ _ z => z) hs
  obtain ⟨y, H1, I1, r1, q1⟩ := q
  exact store_ok I1 hN hi hx r1 (fun s2 I2 => ⟨_, H1, I2, q1⟩) hf
/-- a loop within which a token is out: the walk of the kit's for, and that tokens grow -/
theorem pst_forT {tg iter : Expr} {body : List Stmt} {wi : TI} {g : TG} {tb : TS} {pos : Pos} (hp : PassesOwn (model X.prog X.w) X.A X.env X.xe) (hc : X.calm = true) (hi : PI X tg iter wi) (hg : PG X tg g) (hb : PSsT X body tb)
    (hs : ∀ x, foldedSetIterable iter X.env x = pure x := by intro _; rfl) : PST X (.For tg iter body [] pos) (tFor wi g tb) := by
  intro pins s σ H D h0 I h
  have grows : ∀ {α : Type} {m : Sem α} {Q : α → Shared → Prop} {E : Value → Shared → Prop} {z : Shared}, 1 ≤ z.toks → wpAny (model X.prog X.w) X.A m Q E z → wpAny (model X.prog X.w) X.A m (fun a z' => 1 ≤ z'.toks ∧ Q a z') E z :=
    fun hz hw => wpAny_mono (PySem.wpAny_toks hw) (fun _ _ q => ⟨Nat.le_trans hz q.1, q.2⟩) fun _ _ q => q.2
  refine wpAny_For (wpAny_mono (grows h0 (hi.run pins s σ H _ I h)) (fun v s1 h1 => wpAny_mono (grows h1.1 h1.2) (fun itv s2 h2 => ?_) fun _ _ z => z) fun _ _ z => z) hs
  obtain ⟨k2, it, fp, tn, J, H2, e, I2, Tn, st2, f2, W, ⟨m0, w0⟩, turn⟩ := h2
  subst e
  have stat : ∀ {H' : Hp}, (∀ b ∈ fp, H' b = none) → ∀ b ∈ fp, FpOk X pins H' b := fun hn b hb => ⟨hn b hb, (f2 b hb).2⟩
  refine codeAny_forLoop_any (fun n z => 1 ≤ z.toks ∧ ∃ i σ' H', Inv X pins σ' H' z ∧ tn i z.heap ∧ (∀ b ∈ fp, H' b = none) ∧ W i n σ' H') ?_ m0 ⟨k2, 0, σ, H2, I2, st2, fun b hb => (f2 b hb).1, w0⟩
  rintro n s3 ⟨k3, i, σ3, H3, I3, st3, fr3, w3⟩
  rcases turn i n σ3 H3 w3 with ⟨stop, qn⟩ | ⟨go, Nx, hN, step⟩
  · refine wpAny_passesOwn hp (thn (Tn.done X rfl rfl rfl hc i pins s3 σ3 H3 X.xe I3 (stat fr3) st3 stop) fun r s4 ⟨hr, I4⟩ => ?_)
    subst hr
    exact wpAny_execs_nil ⟨σ3, H3, I4, qn⟩
  · refine wpAny_passesOwn hp (thn (grows k3 (Tn.item X rfl rfl rfl hc i pins s3 σ3 H3 X.xe I3 (stat fr3) st3 go)) fun r s4 ⟨k4, v, hr, h4⟩ => ?_)
    subst hr
    refine wpAny_passesOwn hp (thn (grows k4 h4) fun _ s5 ⟨k5, x, H5, I5, r5, y5, st5, fr5⟩ => ?_)
    have I5' := I5.pinned (stat fr5) (Tn.obj _ _ st5)
    refine wpAny_passesOwn hp (thn (grows k5 (hg.run _ s5 σ3 H5 x v _ I5' r5 (step x H5 y5))) fun _ s6 ⟨k6, σ6, H6, I6, q6⟩ => ?_)
    refine wpAny_passesOwn hp (thn (grows k6 (hb _ s6 σ6 H6 _ k6 I6 q6)) fun f s7 ⟨k7, q7⟩ => ?_)
    have again : ∀ {σ7 : L2.St} {H7 : Hp}, Inv X (pins ++ pinsAt fp s5.heap) σ7 H7 s7 → Nx σ7 H7 → ∃ m, m < n ∧ 1 ≤ s7.toks ∧ ∃ i σ' H', Inv X pins σ' H' s7 ∧ tn i s7.heap ∧ (∀ b ∈ fp, H' b = none) ∧ W i m σ' H' := fun {σ7 H7} I7 n7 => by
      obtain ⟨m', hm, w7⟩ := hN σ7 H7 n7
      refine ⟨m', hm, k7, i + 1, σ7, H7, I7.unpinned, Tn.keep _ _ _ st5 fun b hb o e => (I7.pin (b, o) (List.mem_append_right _ (List.mem_append_right _ (mem_pinsAt hb e)))).1, fun b hb => ?_, w7⟩
      obtain ⟨o, e, d⟩ := Tn.obj _ _ st5 b hb
      exact (I7.pin (b, o) (List.mem_append_right _ (List.mem_append_right _ (mem_pinsAt hb e)))).2.1
    cases f with
    | next => obtain ⟨σ7, H7, I7, n7⟩ := q7; exact again I7 n7
    | cont => obtain ⟨σ7, H7, I7, n7⟩ := q7; exact again I7 n7
    | brk => obtain ⟨σ7, H7, I7, q7⟩ := q7; exact ⟨σ7, H7, I7.unpinned, q7⟩
    | ret v => obtain ⟨x7, σ7, H7, I7, r7, q7⟩ := q7; exact ⟨x7, σ7, H7, I7.unpinned, r7, q7⟩
end
end RJ

/-! What is left beneath a wheel: the plain law. -/
namespace RL
open PySem PySem.Spec PyProof.Rows L2 Evl TL RC RA RD RE RF RG RH RI
/-- the rim's mark at a place -/
def rimM (rim : List Nat) (i : Nat) : Nat := rim.getD (i % rim.length) 0
def benL (l rim : List Nat) : List Nat := (List.range l.length).map fun i => if rimM rim i = 46 then l.getD i 0 else 63
def benP (l rim : List Nat) (i : Nat) : Prop := rimM rim i = 46 ∨ l.getD i 0 = rimM rim i ∨ l.getD i 0 = 63
def benOk (l rim : List Nat) : Prop := ∀ i, i < l.length → benP l rim i
instance (l rim : List Nat) (i : Nat) : Decidable (benP l rim i) := inferInstanceAs (Decidable (_ ∨ _))
instance (l rim : List Nat) : Decidable (benOk l rim) := inferInstanceAs (Decidable (∀ i, i < l.length → benP l rim i))
def benOf (l rim : List Nat) : Option (List Nat) := if benOk l rim then some (benL l rim) else none
theorem benL_len (l rim : List Nat) : (benL l rim).length = l.length := by simp [benL]
theorem benL_at {l rim : List Nat} {i : Nat} (h : i < l.length) : (benL l rim).getD i 0 = if rimM rim i = 46 then l.getD i 0 else 63 := by
  unfold benL
  rw [List.getD, List.getElem?_map, List.getElem?_range h]
  rfl
theorem benL_mem {l rim : List Nat} {c : Nat} (h : c ∈ benL l rim) : c ∈ l ∨ c = 63 := by
  unfold benL at h
  obtain ⟨i, hi, rfl⟩ := List.mem_map.mp h
  have hi' := List.mem_range.mp hi
  by_cases e : rimM rim i = 46
  · rw [if_pos e]
    exact .inl (getD_mem hi')
  · rw [if_neg e]
    exact .inr rfl
theorem benL_seen {l rim : List Nat} (h : RF.Seen l) : RF.Seen (benL l rim) :=
  ⟨fun e => h.1 (by have := congrArg List.length e; rw [benL_len] at this; exact List.eq_nil_of_length_eq_zero this), by rw [benL_len]; exact h.2.1, fun c hc => (benL_mem hc).elim (h.2.2 c) fun e => by rw [e]; decide⟩
theorem ext_getD {a b : List Nat} (h : a.length = b.length) (h2 : ∀ i, i < a.length → a.getD i 0 = b.getD i 0) : a = b := by
  apply List.ext_getElem h
  intro i h3 h4
  have := h2 i h3
  simpa [List.getD, h3, h4] using this
/-- beneath what is beneath: the same -/
theorem benOf_again (l rim : List Nat) : benOf (benL l rim) rim = some (benL l rim) := by
  have hok : benOk (benL l rim) rim := fun i hi => by
    rw [benL_len] at hi
    by_cases e : rimM rim i = 46
    · exact .inl e
    · refine .inr (.inr ?_)
      rw [benL_at hi, if_neg e]
  unfold benOf
  rw [if_pos hok]
  congr 1
  refine ext_getD (benL_len _ _) fun i hi => ?_
  rw [benL_len, benL_len] at hi
  rw [benL_at (by rw [benL_len]; exact hi), benL_at hi]
  by_cases e : rimM rim i = 46
  · rw [if_pos e, if_pos e]
  · rw [if_neg e, if_neg e]
/-- beneath a wheel without marks: the piece -/
theorem benOf_none {l rim : List Nat} (h : ∀ c ∈ rim, c = 46) (hr : 0 < rim.length) : benOf l rim = some l := by
  have hm : ∀ i, rimM rim i = 46 := fun i => h _ (getD_mem (Nat.mod_lt _ hr))
  have hok : benOk l rim := fun i _ => .inl (hm i)
  unfold benOf
  rw [if_pos hok]
  congr 1
  refine ext_getD (benL_len _ _) fun i hi => ?_
  rw [benL_len] at hi
  rw [benL_at hi, if_pos (hm i)]
def LET : List Nat := [97,98,99,100,101,102,103,104,105,106,107,108,109,110,111,112,113,114,115,116,117,118,119,120,121,122]
theorem marks_of : ∀ c ∈ MARKS, (decide (c ∈ LET) || decide (c = 46)) = true := by decide
theorem marks_signs : ∀ c ∈ MARKS, c ∈ SIGNS := by decide
theorem marks_ne : ∀ c ∈ MARKS, c ≠ 63 := by decide
theorem signs_marks : ∀ c ∈ SIGNS, c ≠ 63 → c ∈ MARKS := by decide
end RL

namespace X
open PySem PySem.Spec PyProof.Rows L2 Evl TL RC RA RD RE RF RG RH RI
def top (i : Nat) : Stmt := PySem.Challenge.pw_rimprints_k57_what_stands_beneath.main.body.getD i (.Pass ⟨0, 0, 0, 0⟩)
abbrev s_law_bag : Stmt := top 18
theorem sc_law_bag : FnScope ["script", "total", "cell"] ["script"] (defScope s_law_bag) := ⟨rfl, rfl, rfl, by decide +kernel, rfl, by decide +kernel, by decide +kernel⟩
abbrev s_law_stir : Stmt := top 19
theorem sc_law_stir : FnScope ["number", "place", "one", "two"] ["number", "place"] (defScope s_law_stir) := ⟨rfl, rfl, rfl, by decide +kernel, rfl, by decide +kernel, by decide +kernel⟩
abbrev s_law_draw : Stmt := top 20
theorem sc_law_draw : FnScope ["bag", "many", "cell", "found"] ["bag", "many"] (defScope s_law_draw) := ⟨rfl, rfl, rfl, by decide +kernel, rfl, by decide +kernel, by decide +kernel⟩
abbrev s_law_rim : Stmt := top 22
theorem sc_law_rim : FnScope ["bag", "most", "size", "kind", "at", "signs", "k"] ["bag", "most"] (defScope s_law_rim) := ⟨rfl, rfl, rfl, by decide +kernel, rfl, by decide +kernel, by decide +kernel⟩
abbrev s_law_seen_two : Stmt := top 23
theorem sc_law_seen_two : FnScope ["bag", "most", "size", "lower", "upper", "hidden", "spoilt", "any_signs", "found", "place", "sign"] ["bag", "most"] (defScope s_law_seen_two) := ⟨rfl, rfl, rfl, by decide +kernel, rfl, by decide +kernel, by decide +kernel⟩
abbrev s_law_near : Stmt := top 25
theorem sc_law_near : FnScope ["bag", "seen", "size", "rim", "at", "some"] ["bag", "seen", "size"] (defScope s_law_near) := ⟨rfl, rfl, rfl, by decide +kernel, rfl, by decide +kernel, by decide +kernel⟩
abbrev s_law_due : Stmt := top 24
theorem sc_law_due : FnScope ["seen", "rim", "found", "place", "sign", "mark"] ["seen", "rim"] (defScope s_law_due) := ⟨rfl, rfl, rfl, by decide +kernel, rfl, by decide +kernel, by decide +kernel⟩
abbrev s_need_seen : Stmt := top 7
theorem sc_need_seen : FnScope ["thing", "sign"] ["thing"] (defScope s_need_seen) := ⟨rfl, rfl, rfl, by decide +kernel, rfl, by decide +kernel, by decide +kernel⟩
abbrev s_is_letter : Stmt := top 11
theorem sc_is_letter : FnScope ["thing"] ["thing"] (defScope s_is_letter) := ⟨rfl, rfl, rfl, by decide +kernel, rfl, by decide +kernel, by decide +kernel⟩
abbrev s_is_sign : Stmt := top 12
theorem sc_is_sign : FnScope ["thing"] ["thing"] (defScope s_is_sign) := ⟨rfl, rfl, rfl, by decide +kernel, rfl, by decide +kernel, by decide +kernel⟩
abbrev s_is_rim : Stmt := top 13
theorem sc_is_rim : FnScope ["thing", "one"] ["thing"] (defScope s_is_rim) := ⟨rfl, rfl, rfl, by decide +kernel, rfl, by decide +kernel, by decide +kernel⟩
abbrev s_left_beneath : Stmt := top 15
theorem sc_left_beneath : FnScope ["seen", "rim", "signs", "place", "sign"] ["seen", "rim"] (defScope s_left_beneath) := ⟨rfl, rfl, rfl, by decide +kernel, rfl, by decide +kernel, by decide +kernel⟩
abbrev s_beneath : Stmt := top 16
theorem sc_beneath : FnScope ["seen", "rim", "place", "sign", "over"] ["seen", "rim"] (defScope s_beneath) := ⟨rfl, rfl, rfl, by decide +kernel, rfl, by decide +kernel, by decide +kernel⟩
abbrev s_law : Stmt := top 26
theorem sc_law : FnScope ["script", "bag", "turn", "seen", "rim", "due", "found"] ["script"] (defScope s_law) := ⟨rfl, rfl, rfl, by decide +kernel, rfl, by decide +kernel, by decide +kernel⟩
/-- what the top leaves -/
structure Txt (K : PySem.W.Frag) (mg : Str → Option Value) : Prop where
  a_law_bag : At K mg "_law_bag" s_law_bag ["script"]
  a_law_stir : At K mg "_law_stir" s_law_stir ["number", "place"]
  a_law_draw : At K mg "_law_draw" s_law_draw ["bag", "many"]
  a_law_rim : At K mg "_law_rim" s_law_rim ["bag", "most"]
  a_law_seen_two : At K mg "_law_seen_two" s_law_seen_two ["bag", "most"]
  a_law_near : At K mg "_law_near" s_law_near ["bag", "seen", "size"]
  a_law_due : At K mg "_law_due" s_law_due ["seen", "rim"]
  a_need_seen : At K mg "need_seen" s_need_seen ["thing"]
  a_is_letter : At K mg "is_letter" s_is_letter ["thing"]
  a_is_sign : At K mg "is_sign" s_is_sign ["thing"]
  a_is_rim : At K mg "is_rim" s_is_rim ["thing"]
  a_left_beneath : At K mg "left_beneath" s_left_beneath ["seen", "rim"]
  a_beneath : At K mg "beneath" s_beneath ["seen", "rim"]
  c_LETTERS : ∃ t, mg "LETTERS" = some (.str "abcdefghijklmnopqrstuvwxyz" t)
  c_NO_MARK : ∃ t, mg "NO_MARK" = some (.str "." t)
  c_SEEN_SIGNS : ∃ t, mg "SEEN_SIGNS" = some (.str "abcdefghijklmnopqrstuvwxyz.?" t)
  c_UNSEEN : ∃ t, mg "UNSEEN" = some (.str "?" t)
  n_all : mg "all" = none
  n_enumerate : mg "enumerate" = none
  n_isinstance : mg "isinstance" = none
  n_len : mg "len" = none
  n_list : mg "list" = none
  n_min : mg "min" = none
  n_range : mg "range" = none
  n_str : mg "str" = none
end X

namespace X
open PySem PySem.Spec PyProof.Rows L2 Evl TL RC RA RD RE RF RG RH RI RJ RL
section
variable {P : Program} {w : World} {K : PySem.W.Frag} {mg : Str → Option Value} {base : Heap}
/-! ### need_seen, need_length -/
def sp_need_seen (K : PySem.W.Frag) : Sp := fun vs H Q _ => ∃ l, vs = [T l] ∧ Seen l ∧ RetV .non H Q
theorem ok_need_seen (TX : Txt K mg) : Has P w K mg base CX0 1 "need_seen" ["thing"] (sp_need_seen K) := by
  refine TX.a_need_seen.ok sc_need_seen (fun vs H Q E h => ?_) (fun f cdv A outer s H vs Q E hr h => ?_)
  · obtain ⟨l, rfl, _⟩ := h
    rfl
  obtain ⟨l, rfl, h⟩ := h
  refine ⟨_, (pss_one (ps_if (PW.pt (pw_or (pt_not (pt_val (pe_callB call_isi (by rfl) TX.n_isinstance bt_isinstance (pa_cons (pv 0) (pa_cons (pe_bltn (v := .ty "str") (by rfl) TX.n_str bt_str rfl) pa_nil))))) (pw_or (pt_cmpR op_eq (pv 0) pe_str (nomark _)) (pw_or1 (pt_cmpR (op_neD hr.units) (pe_lc (own := [("sign", 1)]) (by rfl) sc_need_seen.nd (pi_str (pv 0)) (blkOk_by (N := ["thing", "sign"]) (sc := defScope s_need_seen) (by decide +kernel)) (fun _ _ _ _ _ => (pg_name (i := 1) sc_need_seen.nd rfl (Or.inl rfl))) (fun _ _ _ _ _ => (pts_one (pt_cmpR op_notInT (pv 1) (pe_gs TX.c_SEEN_SIGNS) rfl))) (fun _ _ _ _ _ => (pv 1))) (pe_lst pa_nil) (nomark _)))))) (pss_one ps_never) pss_nil)), ?_⟩
  obtain ⟨⟨h1, h2, h3⟩, h⟩ := h
  have e3 : l.filter (fun c => !decide (c ∈ SIGNS)) = [] := List.filter_eq_nil_iff.mpr fun c hc => by simp [h3 c hc]
  refine s_when (et_or (et_not (et_B (ev_isiT (ev_var rfl)))) fun _ => et_or (et_test (ev_eqT (ev_var rfl) (ev_s [] (by decide +kernel)))) fun _ => et_test
    (ev_neLL (zs := []) (el_to (el_lcStr (fun c => !decide (c ∈ SIGNS)) (fun c => T [c]) (ev_var rfl) (by omega) (fun _ => rfl) (fun c H1 _ _ => et_test (ev_notInT (ev_var rfl) (ev_s SIGNS (by decide +kernel)))) (fun c H1 _ _ _ => ev_var rfl)) (by rw [e3]; rfl : _ = ([] : List (List Nat)).map T))
      el_nil (fun y hy => by simp at hy) (fun y hy => by simp at hy))) (fun hb H1 e1 => ?_) (fun hb H1 e1 => h.go e1)
  simp [h1] at hb

end
end X

namespace X
open PySem PySem.Spec PyProof.Rows L2 Evl TL RC RA RD RE RF RG RH RI RJ RL
section
variable {P : Program} {w : World} {K : PySem.W.Frag} {mg : Str → Option Value} {base : Heap}
def sp_law_bag (K : PySem.W.Frag) : Sp := fun vs H Q _ => ∃ (a : Addr) (ns : List Int), vs = [.ref a] ∧ (SqL K H a (ns.map V.int) ∧ ns.length ≤ 63) ∧ ∀ b q H', H b = none → Ex H H' → Bag H' b q 0 → Q (.ref b) H'
theorem ok_law_bag (TX : Txt K mg) : Has P w K mg base CX0 1 "_law_bag" ["script"] (sp_law_bag K) := by
  refine TX.a_law_bag.ok sc_law_bag (fun vs H Q E h => ?_) (fun f cdv A outer s H vs Q E hr h => ?_)
  · obtain ⟨a, ns, rfl, _⟩ := h
    rfl
  obtain ⟨a, ns, rfl, h⟩ := h
  refine ⟨_, (pss_cons (ps_set (i := 1) sc_law_bag.nd rfl (Or.inl rfl) pe_int)
        (pss_cons (ps_for PassesOwn.never rfl (pi_list (pv 0)) (pg_name (i := 2) sc_law_bag.nd rfl (Or.inl rfl)) (pss_one (ps_set (i := 1) sc_law_bag.nd rfl (Or.inl rfl) (pe_op op_mod (pe_op op_add (pe_op op_add (pe_op op_mul (pv 1) pe_int) (pe_op op_mod (pv 2) pe_int)) pe_int) pe_int))))
        (pss_one (ps_ret (pe_lst (pa_cons (pe_callTy call_list_of (by rfl) TX.n_list bt_list (pa_cons (pv 0) pa_nil)) (pa_cons pe_int (pa_cons pe_int (pa_cons pe_int (pa_cons (pv 1) pa_nil)))))))))), ?_⟩
  obtain ⟨⟨hs, hn⟩, h⟩ := h
  refine q_asg ev_c fun H1 e1 => ?_
  refine q_forLn (ev_var rfl) (ex_l e1 hs) (fun i σ' H' => ∃ (t : Int) (v : Option V), σ' = [some (.ref a), some (.int t), v] ∧ Ex H H' ∧ 0 ≤ t ∧ t < 2305843009213693951) (fun H2 e2 => ⟨_, _, rfl, e1.trans e2, by decide, by decide⟩)
    (fun i σ' H' _ hp => ?_) (fun i x σ' H' hi hp => ?_) (fun σ' H' hp => ?_)
  · obtain ⟨t, v, rfl, e2, _⟩ := hp
    exact ex_l e2 hs
  · obtain ⟨t, v, rfl, e2, t0, t1⟩ := hp
    obtain ⟨c, rfl⟩ : ∃ c, x = V.int c := by
      obtain ⟨c, _, rfl⟩ := List.mem_map.mp (List.mem_of_getElem? hi)
      exact ⟨c, rfl⟩
    refine s_asg (ev_mod (ev_i0 (ev_i0 (ev_mul (ev_var rfl) ev_c (.inr (by decide))) (ev_mod (ev_var rfl) ev_c (by decide))) ev_c) ev_c (by decide)) fun H3 e3 => ?_
    exact ⟨_, _, rfl, e2.trans e3, Int.emod_nonneg _ (by decide), Int.emod_lt_of_pos _ (by decide)⟩
  · obtain ⟨t, v, rfl, e2, t0, t1⟩ := hp
    refine ⟨_, rfl, a, _, rfl, .inl (ex_l e2 hs), fun q hq => ⟨_, rfl, by show 5 ≤ sizeLine; decide, fun b hb => ?_⟩⟩
    have hqb : q ≠ b := ne_of_none upd_same hb
    refine h b q _ (fresh_back (e2.trans (Ex.new hq)) hb) ((e2.trans (Ex.new hq)).trans (Ex.new hb)) ⟨ns, 0, 0, 0, t, upd_same, by rw [upd_ne hqb, upd_same], by decide, by omega, by decide, by decide⟩
def sp_law_stir (K : PySem.W.Frag) : Sp := fun vs H Q _ => ∃ (number place : Int), vs = [.int number, .int place] ∧ (0 ≤ place ∧ place < 2 ^ 62) ∧ RetV (.int (stirF number place)) H Q
theorem ok_law_stir (TX : Txt K mg) : Has P w K mg base CX0 1 "_law_stir" ["number", "place"] (sp_law_stir K) := by
  refine TX.a_law_stir.ok sc_law_stir (fun vs H Q E h => ?_) (fun f cdv A outer s H vs Q E hr h => ?_)
  · obtain ⟨number, place, rfl, _⟩ := h
    rfl
  obtain ⟨number, place, rfl, h⟩ := h
  refine ⟨_, (pss_cons (ps_set (i := 2) sc_law_stir.nd rfl (Or.inl rfl) (pe_op op_mod (pe_op op_add (pe_op op_add (pe_op op_mul (pv 0) pe_int) (pe_op op_mul (pv 1) pe_int)) pe_int) pe_int))
        (pss_cons (ps_set (i := 3) sc_law_stir.nd rfl (Or.inl rfl) (pe_op op_mod (pe_op op_mul (pv 2) (pv 2)) pe_int))
        (pss_one (ps_ret (pe_op op_fdiv (pe_op op_mod (pe_op op_add (pe_op op_add (pe_op op_mul (pv 3) pe_int) (pe_op op_mul (pe_op op_mul (pv 1) (pv 1)) pe_int)) (pe_op op_fdiv (pv 2) pe_int)) pe_int) pe_int))))), ?_⟩
  obtain ⟨⟨p0, p1⟩, h⟩ := h
  have e62 : (2 : Int) ^ 62 = 4611686018427387904 := by decide
  have e64 : (2 : Int) ^ 64 = 18446744073709551616 := by decide
  rw [e62] at p1
  have o1 : 0 ≤ (number * 998244353 + place * 1000000007 + 5) % 2305843009213693951 := Int.emod_nonneg _ (by decide)
  have o2 : (number * 998244353 + place * 1000000007 + 5) % 2305843009213693951 < 2305843009213693951 := Int.emod_lt_of_pos _ (by decide)
  refine q_asg (ev_mod (ev_i0 (ev_i0 (ev_mul (ev_var rfl) ev_c (.inr (by decide))) (ev_mul (ev_var rfl) ev_c (.inr (by decide)))) ev_c) ev_c (by decide)) fun H1 e1 => ?_
  refine q_asg (ev_mod (ev_mul (ev_var rfl) (ev_var rfl) (.inl (by rw [e64]; omega))) ev_c (by decide)) fun H2 e2 => ?_
  refine s_ret (ev_fdiv (ev_mod (ev_i0 (ev_i0 (ev_mul (ev_var rfl) ev_c (.inr (by decide))) (ev_mul (ev_mul (ev_var rfl) (ev_var rfl) (.inl (by rw [e64]; omega))) ev_c (.inr (by decide)))) (ev_fdiv (ev_var rfl) ev_c ⟨by decide, by decide⟩)) ev_c (by decide)) ev_c ⟨by decide, by decide⟩) fun H3 e3 => ?_
  exact h.go ((e1.trans e2).trans e3)
def sp_law_draw (K : PySem.W.Frag) : Sp := fun vs H Q _ => ∃ (b q : Addr) (k : Int) (n : Nat), vs = [.ref b, .int k] ∧ (Bag H b q n ∧ n < 2 ^ 60 ∧ 1 ≤ k ∧ k < 1073741824) ∧
  ∀ (d : Int) H', 0 ≤ d → d < k → But b H H' → Bag H' b q (n + 1) → Q (.int d) H'
theorem ok_law_draw (TX : Txt K mg) : Has P w K mg base CX0 2 "_law_draw" ["bag", "many"] (sp_law_draw K) := by
  have h_law_stir := ok_law_stir (P := P) (w := w) (base := base) TX
  refine TX.a_law_draw.ok sc_law_draw (fun vs H Q E h => ?_) (fun f cdv A outer s H vs Q E hr h => ?_)
  · obtain ⟨b, q, k, n, rfl, _⟩ := h
    rfl
  obtain ⟨b, q, k, n, rfl, h⟩ := h
  refine ⟨_, (pss_cons (ps_if (pt_cmpR op_eq (pv 1) pe_int (nomark _)) (pss_one (ps_ret pe_int)) pss_nil)
        (pss_cons (ps_asg (pe_op op_add (pe_ix ix_list (pv 0) pe_int (fun _ _ => rfl)) pe_int) (pg_sub (pv 0) pe_int set_list))
        (pss_cons (ps_if (PW.pt (pw_and (pt_cmpR op_lt (pe_ix ix_list (pv 0) pe_int (fun _ _ => rfl)) pe_int (nomark _)) (pw_and1 (pt_cmpR op_eq (pe_ix ix_list (pv 0) pe_int (fun _ _ => rfl)) (pe_callB call_lenL (by rfl) TX.n_len bt_len (pa_cons (pe_ix ix_list (pv 0) pe_int (fun _ _ => rfl)) pa_nil)) (nomark _))))) (pss_one (ps_ret (pe_op op_mod (pe_has h_law_stir (hr.mono (by decide)) pass0 (pa_cons (pe_ix ix_list (pv 0) pe_int (fun _ _ => rfl)) (pa_cons (pe_ix ix_list (pv 0) pe_int (fun _ _ => rfl)) pa_nil))) (pv 1)))) pss_nil)
        (pss_cons (ps_if (pt_cmpR op_lt (pe_ix ix_list (pv 0) pe_int (fun _ _ => rfl)) pe_int (nomark _)) (pss_cons (ps_set (i := 2) sc_law_draw.nd rfl (Or.inl rfl) (pe_ix ix_list (pe_ix ix_list (pv 0) pe_int (fun _ _ => rfl)) (pe_ix ix_list (pv 0) pe_int (fun _ _ => rfl)) (fun _ _ => rfl)))
        (pss_cons (ps_asg (pe_op op_add (pe_ix ix_list (pv 0) pe_int (fun _ _ => rfl)) pe_int) (pg_sub (pv 0) pe_int set_list))
        (pss_cons (ps_if (pt_cmpR op_lt (pv 2) (pe_op op_pow pe_int pe_int) (nomark _)) (pss_one (ps_ret (pe_op op_mod (pe_has h_law_stir (hr.mono (by decide)) pass0 (pa_cons (pe_op op_mod (pv 2) pe_int) (pa_cons (pe_ix ix_list (pv 0) pe_int (fun _ _ => rfl)) pa_nil))) (pv 1)))) pss_nil)
        (pss_one (ps_asg (pe_op op_sub (pv 2) (pe_op op_pow pe_int pe_int)) (pg_sub (pv 0) pe_int set_list)))))) pss_nil)
        (pss_cons (ps_set (i := 3) sc_law_draw.nd rfl (Or.inl rfl) (pe_op op_mod (pe_ix ix_list (pv 0) pe_int (fun _ _ => rfl)) (pv 1)))
        (pss_cons (ps_asg (pe_op op_fdiv (pe_ix ix_list (pv 0) pe_int (fun _ _ => rfl)) (pv 1)) (pg_sub (pv 0) pe_int set_list))
        (pss_one (ps_ret (pv 3))))))))), ?_⟩
  obtain ⟨⟨hb, hn, k1, k2⟩, h⟩ := h
  have e60 : (2 : Nat) ^ 60 = 1152921504606846976 := by decide
  have e62 : (2 : Int) ^ 62 = 4611686018427387904 := by decide
  rw [e60] at hn
  have stir : ∀ (x y : Int) H1, 0 ≤ y → y ≤ n + 1 → SpV (sp_law_stir K) [.int x, .int y] H1 (.int (stirF x y)) := fun x y H1 y0 y1 H2 e Q q E => ⟨x, y, rfl, ⟨y0, by rw [e62]; omega⟩, q⟩
  refine q_when (et_test (ev_eqI (ev_var rfl) ev_c)) (fun hk H1 e1 => ?_) (fun hk H1 e1 => ?_)
  · refine s_ret ev_c fun H2 e2 => h 0 H2 (by decide) (by omega) (But.ex (e1.trans e2)) ((hb.ex (e1.trans e2)).mono (by omega))
  have hb1 := hb.ex e1
  obtain ⟨ns, i, j, c, t, h1, h2, i0, i1, c0, c1⟩ := hb1
  have hqb : q ≠ b := fun z => by
    rw [z, h1] at h2
    cases ns with
    | nil => cases h2
    | cons x r => cases h2
  refine q_setL (j := 3) h1 (ev_i0 (ev_op (ev_var rfl) ev_c (rv_ixL (SqL.of h1) (i := 3) rfl)) ev_c) (ev_var rfl) ev_c (by show 3 < 5; decide) fun H2 e2 => ?_
  have u2 : But b H (upd H2 b (.lst [.ref q, .int i, .int j, .int (c + 1), .int t])) := (But.ex (e1.trans e2)).put
  have hq2 : (upd H2 b (.lst [.ref q, .int i, .int j, .int (c + 1), .int t])) q = some (.lst (ns.map V.int)) := by
    rw [upd_ne hqb]
    exact e2 _ _ h2
  have hb2 : (upd H2 b (.lst [.ref q, .int i, .int j, .int (c + 1), .int t])) b = some (.lst [.ref q, .int i, .int j, .int (c + 1), .int t]) := upd_same
  clear e2 h1 h2 e1
  revert u2 hq2 hb2
  show But b H (upd H2 b (.lst [.ref q, .int i, .int j, .int (c + 1), .int t])) → _ → _ → _
  intro u2 hq2 hb2
  have g2 : ∃ H3, H3 = upd H2 b (.lst [.ref q, .int i, .int j, .int (c + 1), .int t]) := ⟨_, rfl⟩
  obtain ⟨H3, eH3⟩ := g2
  show tSeq _ _ _ _ (upd H2 b (.lst [.ref q, .int i, .int j, .int (c + 1), .int t]))
  rw [← eH3] at u2 hq2 hb2 ⊢
  have fin : ∀ (x : Int) H4, Ex H3 H4 → Q (.int (stirF x (c + 1) % k)) H4 := fun x H4 e4 =>
    h _ H4 (Int.emod_nonneg _ (by omega)) (Int.emod_lt_of_pos _ (by omega)) (u2.trans (But.ex e4)) ⟨ns, i, j, c + 1, t, e4 _ _ hb2, e4 _ _ hq2, i0, i1, by omega, by omega⟩
  -- nothing left: all cells mixed
  refine q_when (et_and (et_test (ev_i0 (ev_op (ev_var rfl) ev_c (rv_ixL (SqL.of hb2) (i := 2) rfl)) ev_c)) fun _ => et_test (ev_eqI (ev_op (ev_var rfl) ev_c (rv_ixL (SqL.of hb2) (i := 1) rfl))
    (ev_lenL (ev_op (ev_var rfl) ev_c (rv_ixL (SqL.of hb2) (i := 0) rfl)) (SqL.of hq2)))) (fun hc H4 e4 => ?_) (fun hc H4 e4 => ?_)
  · refine s_ret (ev_mod (ev_call (ea_cons (ev_op (ev_var rfl) ev_c (rv_ixL (SqL.of (e4 _ _ hb2)) (i := 4) rfl)) (ea_cons (ev_op (ev_var rfl) ev_c (rv_ixL (SqL.of (e4 _ _ hb2)) (i := 3) rfl)) ea_nil)) (stir _ _ _ (by omega) (by omega))) (ev_var rfl) (by omega)) fun H5 e5 => fin _ H5 (e4.trans e5)
  have hb4 := e4 _ _ hb2
  have hq4 := e4 _ _ hq2
  have u4 := u2.trans (But.ex (b := b) e4)
  have fin4 : ∀ (x : Int) H5, Ex H4 H5 → Q (.int (stirF x (c + 1) % k)) H5 := fun x H5 e5 => fin x H5 (e4.trans e5)
  -- a digit of what is left
  have last : ∀ (j' i' : Int) (σ' : L2.St) (H5 : Hp), But b H H5 → H5 b = some (.lst [.ref q, .int i', .int j', .int (c + 1), .int t]) → H5 q = some (.lst (ns.map V.int)) → 0 ≤ i' → i' ≤ ns.length →
      σ'[0]? = some (some (.ref b)) → σ'[1]? = some (some (.int k)) → σ'.length = 4 →
      tSeq (tAsg (tOp (rI (fun _ j => 0 < j) fun i j => .int (i % j)) (tOp (rIxL K) (tVar 0) (tC (.int 2))) (tVar 1)) (gName 3))
        (tSeq (tAsg (tOp (rI CDiv fun i j => .int (i / j)) (tOp (rIxL K) (tVar 0) (tC (.int 2))) (tVar 1)) (gSub (tVar 0) (tC (.int 2)) rSetL)) (tRet (tVar 3)))
        { nx := fun _ H' => Q .non H', rt := Q } σ' H5 := fun j' i' σ' H5 u5 hb5 hq5 a0 a1 s0 s1 sl => by
    have s0' : (σ'.set 3 (some (V.int (j' % k))))[0]? = some (some (.ref b)) := by rw [List.getElem?_set_ne (by decide)]; exact s0
    have s1' : (σ'.set 3 (some (V.int (j' % k))))[1]? = some (some (.int k)) := by rw [List.getElem?_set_ne (by decide)]; exact s1
    refine q_asg (ev_mod (ev_op (ev_var s0) ev_c (rv_ixL (SqL.of hb5) (i := 2) rfl)) (ev_var s1) (by omega)) fun H6 e6 => ?_
    refine q_setL (j := 2) (e6 _ _ hb5) (ev_fdiv (ev_op (ev_var s0') ev_c (rv_ixL (SqL.of (e6 _ _ hb5)) (i := 2) rfl)) (ev_var s1') ⟨by omega, by omega⟩) (ev_var s0') ev_c (by show 2 < 5; decide) fun H7 e7 => ?_
    refine s_ret (ev_var (v := .int (j' % k)) (by rw [List.getElem?_set_self (by omega)])) fun H8 e8 => ?_
    refine h _ H8 (Int.emod_nonneg _ (by omega)) (Int.emod_lt_of_pos _ (by omega)) ((u5.trans (But.ex (e6.trans e7))).put.trans (But.ex e8)) ⟨ns, i', j' / k, c + 1, t, e8 _ _ upd_same, e8 _ _ ?_, a0, a1, by omega, by omega⟩
    rw [upd_ne hqb]
    exact e7 _ _ (e6 _ _ hq5)
  refine q_when (et_test (ev_i0 (ev_op (ev_var rfl) ev_c (rv_ixL (SqL.of hb4) (i := 2) rfl)) ev_c)) (fun hj H5 e5 => ?_) (fun hj H5 e5 => ?_)
  · have hj2 : j < 2 := of_decide_eq_true hj
    have hi : i < ns.length := by
      have hne : ¬ i = (ns.length : Int) := fun z => by
        simp [hj2, z] at hc
      omega
    have hcell : ∃ x, ns[i.toNat]? = some x := ⟨_, List.getElem?_eq_getElem (by omega)⟩
    obtain ⟨x, hx⟩ := hcell
    have hxv : atI (ns.map V.int) i = some (.int x) := at_of (j := i.toNat) (by omega) (by rw [List.getElem?_map, hx]; rfl)
    refine q_asg (ev_op (ev_op (ev_var rfl) ev_c (rv_ixL (SqL.of (e5 _ _ hb4)) (i := 0) rfl)) (ev_op (ev_var rfl) ev_c (rv_ixL (SqL.of (e5 _ _ hb4)) (i := 1) rfl)) (rv_ixL (SqL.of (e5 _ _ hq4)) hxv)) fun H6 e6 => ?_
    have hb6 := (e5.trans e6) _ _ hb4
    refine q_setL (j := 1) hb6 (ev_i0 (ev_op (ev_var rfl) ev_c (rv_ixL (SqL.of hb6) (i := 1) rfl)) ev_c) (ev_var rfl) ev_c (by show 1 < 5; decide) fun H7 e7 => ?_
    have u7 : But b H (upd H7 b (.lst [.ref q, .int (i + 1), .int j, .int (c + 1), .int t])) := (u4.trans (But.ex ((e5.trans e6).trans e7))).put
    have hq7 : (upd H7 b (.lst [.ref q, .int (i + 1), .int j, .int (c + 1), .int t])) q = some (.lst (ns.map V.int)) := by
      rw [upd_ne hqb]
      exact e7 _ _ ((e5.trans e6) _ _ hq4)
    refine q_when (et_test (ev_i0 (ev_var rfl) (ev_op ev_c ev_c (rv_I (C := CPow) ⟨by decide, by decide, by decide⟩)))) (fun hs H8 e8 => ?_) (fun hs H8 e8 => ?_)
    · refine s_ret (ev_mod (ev_call (ea_cons (ev_mod (ev_var rfl) ev_c (by decide)) (ea_cons (ev_op (ev_var rfl) ev_c (rv_ixL (SqL.of (e8 _ _ upd_same)) (i := 3) rfl)) ea_nil)) (stir _ _ _ (by omega) (by omega))) (ev_var rfl) (by omega)) fun H9 e9 => ?_
      exact h _ H9 (Int.emod_nonneg _ (by omega)) (Int.emod_lt_of_pos _ (by omega)) (u7.trans (But.ex (e8.trans e9))) ⟨ns, i + 1, j, c + 1, t, (e8.trans e9) _ _ upd_same, (e8.trans e9) _ _ hq7, by omega, by omega, by omega, by omega⟩
    · refine s_setL (j := 2) (e8 _ _ upd_same) (ev_i0 (ev_var rfl) (ev_op ev_c ev_c (rv_I (C := CPow) ⟨by decide, by decide, by decide⟩))) (ev_var rfl) ev_c (by show 2 < 5; decide) fun H9 e9 => ?_
      refine last _ (i + 1) _ _ ((u7.trans (But.ex (e8.trans e9))).put) upd_same ?_ (by omega) (by omega) rfl rfl rfl
      rw [upd_ne hqb]
      exact (e8.trans e9) _ _ hq7
  · exact last j i _ H5 (u4.trans (But.ex e5)) (e5 _ _ hb4) (e5 _ _ hq4) i0 i1 rfl rfl rfl
end
end X

namespace X
open PySem PySem.Spec PyProof.Rows L2 Evl TL RC RA RD RE RF RG RH RI RJ RL
section
variable {P : Program} {w : World} {K : PySem.W.Frag} {mg : Str → Option Value} {base : Heap}
def sp_law_rim (K : PySem.W.Frag) : Sp := fun vs H Q _ => ∃ (b q : Addr) (most n : Nat), vs = [.ref b, .int (most : Int)] ∧ (Bag H b q n ∧ n < 2 ^ 59 ∧ 1 ≤ most ∧ most ≤ 1000) ∧
  ∀ (z : List Nat) H', RimOk most z → But b H H' → Bag H' b q (n + most + 3) → Q (T z) H'
theorem ok_law_rim (TX : Txt K mg) : Has P w K mg base CX0 3 "_law_rim" ["bag", "most"] (sp_law_rim K) := by
  have h_law_draw := ok_law_draw (P := P) (w := w) (base := base) TX
  refine TX.a_law_rim.ok sc_law_rim (fun vs H Q E h => ?_) (fun f cdv A outer s H vs Q E hr h => ?_)
  · obtain ⟨b, q, most, n, rfl, _⟩ := h
    rfl
  obtain ⟨b, q, most, n, rfl, h⟩ := h
  refine ⟨_, (pss_cons (ps_set (i := 2) sc_law_rim.nd rfl (Or.inl rfl) (pe_op op_add pe_int (pe_has h_law_draw (hr.mono (by decide)) pass0 (pa_cons (pv 0) (pa_cons (pv 1) pa_nil)))))
        (pss_cons (ps_set (i := 3) sc_law_rim.nd rfl (Or.inl rfl) (pe_has h_law_draw (hr.mono (by decide)) pass0 (pa_cons (pv 0) (pa_cons pe_int pa_nil))))
        (pss_cons (ps_if (pt_cmpR op_eq (pv 3) pe_int (nomark _)) (pss_cons (ps_set (i := 4) sc_law_rim.nd rfl (Or.inl rfl) (pe_has h_law_draw (hr.mono (by decide)) pass0 (pa_cons (pv 0) (pa_cons (pv 2) pa_nil))))
        (pss_one (ps_ret (pe_op op_addT (pe_op op_addT (pe_op op_repT pe_str (pv 4)) (pe_ix ix_C pe_str (pe_has h_law_draw (hr.mono (by decide)) pass0 (pa_cons (pv 0) (pa_cons pe_int pa_nil))) (fun _ _ => rfl))) (pe_op op_repT pe_str (pe_op op_sub (pe_op op_sub (pv 2) (pv 4)) pe_int)))))) pss_nil)
        (pss_cons (ps_if (pt_cmpR op_eq (pv 3) pe_int (nomark _)) (pss_one (ps_ret (pe_slice sl_str (pe_op op_repT (pe_ix ix_list (pe_lst (pa_cons pe_str (pa_cons pe_str (pa_cons pe_str (pa_cons pe_str pa_nil))))) (pe_has h_law_draw (hr.mono (by decide)) pass0 (pa_cons (pv 0) (pa_cons pe_int pa_nil))) (fun _ _ => rfl)) (pv 2)) po_none (po_some (pv 2))))) pss_nil)
        (pss_cons (ps_set (i := 5) sc_law_rim.nd rfl (Or.inr rfl) (pe_ix ix_list (pe_lst (pa_cons pe_str (pa_cons pe_str (pa_cons pe_str (pa_cons pe_str pa_nil))))) (pv 3) (fun _ _ => rfl)))
        (pss_one (ps_ret (pe_join pe_str (pe_lc (own := [("k", 6)]) (by rfl) sc_law_rim.nd (pi_range1 (by rfl) TX.n_range (pa_cons (pv 2) pa_nil)) (blkOk_by (N := ["bag", "most", "size", "kind", "at", "signs", "k"]) (sc := defScope s_law_rim) (by decide +kernel)) (fun _ _ _ _ _ => (pg_name (i := 6) sc_law_rim.nd rfl (Or.inl rfl))) (fun _ _ _ _ _ => pts_nil) (fun _ _ _ _ _ => (pe_ix ix_C (pv 5) (pe_has h_law_draw (hr.mono (by decide)) pass0 (pa_cons (pv 0) (pa_cons (pe_callB call_lenT (by rfl) TX.n_len bt_len (pa_cons (pv 5) pa_nil)) pa_nil))) (fun _ _ => rfl)))))))))))), ?_⟩
  obtain ⟨⟨hb, hn, m1, m2⟩, h⟩ := h
  have e60 : (2 : Nat) ^ 60 = 1152921504606846976 := by decide
  have e59 : (2 : Nat) ^ 59 = 576460752303423488 := by decide
  rw [e59] at hn
  -- size = 1 + _law_draw(bag, most)
  refine ⟨_, rfl, _, rfl, b, q, _, n, rfl, ⟨hb, by rw [e60]; omega, by omega, by omega⟩, fun d H1 d0 d1 u1 B1 => ⟨_, _, rfl, rfl, ?_⟩⟩
  obtain ⟨dn, rfl⟩ : ∃ dn : Nat, d = (dn : Int) := ⟨d.toNat, by omega⟩
  have esz : (1 : Int) + (dn : Int) = ((dn + 1 : Nat) : Int) := by omega
  dsimp only
  rw [esz]
  have hdn : dn + 1 ≤ most := by omega
  -- kind = _law_draw(bag, 4)
  refine ⟨_, rfl, b, q, _, n + 1, rfl, ⟨B1, by rw [e60]; omega, by decide, by decide⟩, fun kd H2 k0 k1 u2 B2 => ?_⟩
  refine q_when (et_test (ev_eqI (ev_var rfl) ev_c)) (fun hk H3 e3 => ?_) (fun hk H3 e3 => ?_)
  · -- at = _law_draw(bag, size); dots, a mark, dots
    refine ⟨_, rfl, _, rfl, b, q, _, n + 2, rfl, ⟨B2.ex e3, by rw [e60]; omega, by omega, by omega⟩, fun at' H4 a0 a1 u4 B4 => ?_⟩
    refine ⟨_, rfl, [46], at', cs [46] (by decide +kernel), rfl, by omega, by omega, by simp; omega, ?_⟩
    refine ⟨_, rfl, b, q, _, n + 3, rfl, ⟨B4, by rw [e60]; omega, by decide, by decide⟩, fun e H5 x0 x1 u5 B5 => ?_⟩
    refine ⟨[97, 98, 122], e, cs _ (by decide +kernel), rfl, by decide, x0, x1, ?_⟩
    refine ⟨_, _, rfl, rfl, by rw [repT_len]; simp; omega, ?_⟩
    refine ⟨_, rfl, _, rfl, _, _, rfl, rfl, _, _, rfl, rfl, ?_⟩
    refine ⟨[46], _, cs [46] (by decide +kernel), rfl, by omega, by omega, by simp; omega, ?_⟩
    refine ⟨_, _, rfl, rfl, by rw [List.length_append, repT_len, repT_len]; simp; omega, ?_⟩
    refine h _ H5 ⟨?_, ?_, ?_⟩ ((((u1.trans u2).trans (But.ex e3)).trans u4).trans u5) (B5.mono (by omega))
    · simp [repT_len]
      omega
    · simp [repT_len]
      omega
    · intro c hc
      rw [List.mem_append, List.mem_append] at hc
      rcases hc with (z | z) | z
      · rw [List.mem_singleton.mp (repT_mem z)]
        decide
      · rw [List.mem_singleton.mp z]
        have hm := getD_mem (l := [97, 98, 122]) (i := e.toNat) (by simp; omega)
        have : ∀ c ∈ [97, 98, 122], c ∈ MARKS := by decide
        exact this _ hm
      · rw [List.mem_singleton.mp (repT_mem z)]
        decide
  refine q_when (et_test (ev_eqI (ev_var rfl) ev_c)) (fun hk2 H4 e4 => ?_) (fun hk2 H4 e4 => ?_)
  · -- (["a", "ab", ".", "a."][..] * size)[:size]
    refine ⟨by show 4 ≤ sizeLine; decide, fun p hp => ?_⟩
    have B4 := (B2.ex (e3.trans e4))
    refine ⟨_, rfl, b, q, _, n + 2, rfl, ⟨B4.new hp, by rw [e60]; omega, by decide, by decide⟩, fun e H5 x0 x1 u5 B5 => ?_⟩
    have hpl := u5 p _ (B4.ne hp).1 upd_same
    have hit : ∃ l : List Nat, atI ([V.str "a", V.str "ab", V.str ".", V.str "a."] : List V) e = some (T l) ∧ 1 ≤ l.length ∧ l.length ≤ 2 ∧ ∀ c ∈ l, c ∈ MARKS := by
      rcases (show e = 0 ∨ e = 1 ∨ e = 2 ∨ e = 3 by omega) with z | z | z | z <;> subst z
      · exact ⟨[97], by decide +kernel, by decide, by decide, by decide⟩
      · exact ⟨[97, 98], by decide +kernel, by decide, by decide, by decide⟩
      · exact ⟨[46], by decide +kernel, by decide, by decide, by decide⟩
      · exact ⟨[97, 46], by decide +kernel, by decide, by decide, by decide⟩
    obtain ⟨l, hl, l1, l2, lm⟩ := hit
    refine ⟨p, _, e, _, rfl, rfl, SqL.of hpl, hl, ?_⟩
    have hlen : l.length * (dn + 1) ≤ 2 * 1000 := Nat.mul_le_mul l2 (by omega)
    refine ⟨_, rfl, l, _, rfl, rfl, by omega, by omega, by rw [Int.toNat_natCast]; omega, ?_⟩
    rw [Int.toNat_natCast]
    have hrl : (repT l (dn + 1)).length = (dn + 1) * l.length := repT_len _ _
    have hge : dn + 1 ≤ (dn + 1) * l.length := Nat.le_mul_of_pos_right _ (by omega)
    refine ⟨_, rfl, _, rfl, S (repT l (dn + 1)), rfl, by rw [S_len, big, hrl, Nat.mul_comm]; omega, ?_⟩
    rw [cutS_take]
    refine h _ H5 ⟨?_, ?_, ?_⟩ ((((u1.trans u2).trans (But.ex (e3.trans e4))).trans (But.new hp)).trans u5) (B5.mono (by omega))
    · rw [List.length_take]
      omega
    · rw [List.length_take]
      omega
    · exact fun c hc => lm c (repT_mem (List.mem_of_mem_take hc))
  · -- signs = [..][kind]; joined
    have B4 := (B2.ex (e3.trans e4))
    have hkd : kd = 0 ∨ kd = 3 := by
      have h1 := of_decide_eq_false hk
      have h2 := of_decide_eq_false hk2
      omega
    refine ⟨by show 4 ≤ sizeLine; decide, fun p hp => ?_⟩
    have hit : ∃ l : List Nat, atI ([V.str "ab.", V.str "", V.str "", V.str "abcdefghijklmnopqrstuvwxyz."] : List V) kd = some (T l) ∧ 1 ≤ l.length ∧ l.length ≤ 27 ∧ ∀ c ∈ l, c ∈ MARKS := by
      rcases hkd with z | z <;> subst z
      · exact ⟨[97, 98, 46], by decide +kernel, by decide, by decide, by decide⟩
      · exact ⟨MARKS, by decide +kernel, by decide, by decide, by decide⟩
    obtain ⟨l, hl, l1, l2, lm⟩ := hit
    refine ⟨_, rfl, p, _, kd, _, rfl, rfl, SqL.of upd_same, hl, ?_⟩
    refine ⟨⟨_, rfl⟩, lcB (n := n + 2) (dn := 1) (size := dn + 1) (bagRes b q) (fun v => ∃ l, v = T l ∧ (l.length = 1 ∧ ∀ c ∈ l, c ∈ MARKS)) (B4.new hp) (ea_cons (ev_var rfl) ea_nil) (by omega) (fun _ => rfl)
      (fun i H5 hi u5 B5 Q' hQ => ?_) (fun xs p2 H5 hxl hxs hp2 u5 B5 hp3 => ?_)⟩
    · refine ⟨_, rfl, _, rfl, _, rfl, l, rfl, by omega, b, q, _, _, rfl, ⟨B5, by rw [e60]; omega, by omega, by omega⟩, fun e H6 x0 x1 u6 B6 => ?_⟩
      refine ⟨l, e, rfl, rfl, by omega, x0, x1, hQ _ H6 ⟨_, rfl, rfl, fun c hc => ?_⟩ u6 B6⟩
      rw [List.mem_singleton.mp hc]
      exact lm _ (getD_mem (by omega))
    · obtain ⟨ys, rfl, hys⟩ := texts_of hxs
      rw [List.length_map] at hxl
      have hfl : ys.flatten.length = ys.length := flat_one fun y hy => (hys y hy).1
      refine ⟨S [], p2, ys.map S, cs [] (by decide +kernel), rfl, .inl (SqL.of (by rw [hp3, List.map_map]; rfl)), by rw [sum_lens, S_len, List.length_nil, Nat.mul_zero, hfl]; omega, ?_⟩
      rw [RE.join_nil]
      refine h _ H5 ⟨?_, ?_, ?_⟩ ((((u1.trans u2).trans (But.ex (e3.trans e4))).trans (But.new hp)).trans u5) (B5.mono (by omega))
      · omega
      · omega
      · intro c hc
        obtain ⟨y, hy, hcy⟩ := List.mem_flatten.mp hc
        exact (hys y hy).2 c hcy
end
end X

namespace X
open PySem PySem.Spec PyProof.Rows L2 Evl TL RC RA RD RE RF RG RH RI RJ RL
section
variable {P : Program} {w : World} {K : PySem.W.Frag} {mg : Str → Option Value} {base : Heap}
def sp_is_letter (K : PySem.W.Frag) : Sp := fun vs H Q _ => ∃ (c : Nat), vs = [T [c]] ∧ RetV (.bl (decide (c ∈ LET))) H Q
theorem ok_is_letter (TX : Txt K mg) : Has P w K mg base CX0 1 "is_letter" ["thing"] (sp_is_letter K) := by
  refine TX.a_is_letter.ok sc_is_letter (fun vs H Q E h => ?_) (fun f cdv A outer s H vs Q E hr h => ?_)
  · obtain ⟨c, rfl, _⟩ := h
    rfl
  obtain ⟨c, rfl, h⟩ := h
  refine ⟨_, (pss_one (ps_ret (pe_and (pe_callB call_isi (by rfl) TX.n_isinstance bt_isinstance (pa_cons (pv 0) (pa_cons (pe_bltn (v := .ty "str") (by rfl) TX.n_str bt_str rfl) pa_nil))) (pe_and (pe_cmpR op_eq (pe_callB call_lenT (by rfl) TX.n_len bt_len (pa_cons (pv 0) pa_nil)) pe_int (nomark _)) (pe_one (pe_cmpR op_inT (pv 0) (pe_gs TX.c_LETTERS) rfl)))))), ?_⟩
  refine s_ret (ev_is (ev_andV (ev_isiT (ev_var rfl)) fun _ => ev_andV (ev_eqI (ev_lenT (ev_var rfl) (by show 1 ≤ 16777216; decide)) ev_c) fun _ => ev_inT (ev_var rfl) (ev_s LET (by decide +kernel))) (by simp)) h
def sp_is_sign (K : PySem.W.Frag) : Sp := fun vs H Q _ => ∃ (c : Nat), vs = [T [c]] ∧ RetV (.bl (decide (c ∈ LET) || decide (c = 46))) H Q
theorem ok_is_sign (TX : Txt K mg) : Has P w K mg base CX0 2 "is_sign" ["thing"] (sp_is_sign K) := by
  have h_is_letter := ok_is_letter (P := P) (w := w) (base := base) TX
  refine TX.a_is_sign.ok sc_is_sign (fun vs H Q E h => ?_) (fun f cdv A outer s H vs Q E hr h => ?_)
  · obtain ⟨c, rfl, _⟩ := h
    rfl
  obtain ⟨c, rfl, h⟩ := h
  refine ⟨_, (pss_one (ps_ret (pe_or (pe_has h_is_letter (hr.mono (by decide)) pass0 (pa_cons (pv 0) pa_nil)) (pe_one (pe_and (pe_callB call_isi (by rfl) TX.n_isinstance bt_isinstance (pa_cons (pv 0) (pa_cons (pe_bltn (v := .ty "str") (by rfl) TX.n_str bt_str rfl) pa_nil))) (pe_one (pe_cmpR op_eq (pv 0) (pe_gs TX.c_NO_MARK) (nomark _)))))))), ?_⟩
  refine s_ret (ev_is (ev_orV (ev_call (z := .bl (decide (c ∈ LET))) (ea_cons (ev_var rfl) ea_nil) fun H1 _ Q q E => ⟨c, rfl, q⟩) fun _ => ev_andV (ev_isiT (ev_var rfl)) fun _ => ev_eqT (ev_var rfl) (ev_s [46] (by decide +kernel))) (by simp)) h
def sp_is_rim (K : PySem.W.Frag) : Sp := fun vs H Q _ => ∃ (l : List Nat), vs = [T l] ∧ (l ≠ [] ∧ l.length ≤ 30000 ∧ ∀ c ∈ l, c ∈ MARKS) ∧ RetV (.bl true) H Q
theorem ok_is_rim (TX : Txt K mg) : Has P w K mg base CX0 3 "is_rim" ["thing"] (sp_is_rim K) := by
  have h_is_sign := ok_is_sign (P := P) (w := w) (base := base) TX
  refine TX.a_is_rim.ok sc_is_rim (fun vs H Q E h => ?_) (fun f cdv A outer s H vs Q E hr h => ?_)
  · obtain ⟨l, rfl, _⟩ := h
    rfl
  obtain ⟨l, rfl, h⟩ := h
  refine ⟨_, (pss_one (ps_ret (pe_and (pe_callB call_isi (by rfl) TX.n_isinstance bt_isinstance (pa_cons (pv 0) (pa_cons (pe_bltn (v := .ty "str") (by rfl) TX.n_str bt_str rfl) pa_nil))) (pe_and (pe_cmpR op_gt (pe_callB call_lenT (by rfl) TX.n_len bt_len (pa_cons (pv 0) pa_nil)) pe_int (nomark _)) (pe_one (pe_callB (cr_all rfl) (by rfl) TX.n_all bt_all (pa_cons (pe_lc (own := [("one", 1)]) (by rfl) sc_is_rim.nd (pi_str (pv 0)) (blkOk_by (N := ["thing", "one"]) (sc := defScope s_is_rim) (by decide +kernel)) (fun _ _ _ _ _ => (pg_name (i := 1) sc_is_rim.nd rfl (Or.inl rfl))) (fun _ _ _ _ _ => pts_nil) (fun _ _ _ _ _ => (pe_has h_is_sign (hr.mono (by decide)) pass0 (pa_cons (pv 1) pa_nil)))) pa_nil))))))), ?_⟩
  obtain ⟨⟨h1, h2, h3⟩, h⟩ := h
  have hpos : 0 < l.length := List.length_pos_iff.mpr h1
  refine s_ret (ev_is (ev_andV (ev_isiT (ev_var rfl)) fun _ => ev_andV (ev_i0 (ev_lenT (ev_var rfl) (by omega)) ev_c) fun _ => ev_all (bs := l.map fun c => (decide (c ∈ LET) || decide (c = 46)))
    (el_to (el_lcStr (fun _ => true) (fun c => V.bl (decide (c ∈ LET) || decide (c = 46))) (ev_var rfl) (by omega) (fun _ => rfl) (fun c H1 _ _ => et_yes)
      (fun c H1 _ _ _ => ev_call (z := .bl (decide (c ∈ LET) || decide (c = 46))) (ea_cons (ev_var rfl) ea_nil) fun H1 _ Q q E => ⟨c, rfl, q⟩)) (by rw [List.filter_eq_self.mpr (fun _ _ => rfl), List.map_map]; rfl))) ?_) h
  have hall : (l.map fun c => (decide (c ∈ LET) || decide (c = 46))).all id = true := by
    rw [List.all_map, List.all_eq_true]
    exact fun c hc => marks_of c (h3 c hc)
  rw [hall]
  simp [hpos]
def sp_left_beneath (K : PySem.W.Frag) : Sp := fun vs H Q _ => ∃ (l rim : List Nat), vs = [T l, T rim] ∧ (l.length ≤ 30000 ∧ rim.length ≤ 30000 ∧ 0 < rim.length) ∧ RetV (T (benL l rim)) H Q
theorem ok_left_beneath (TX : Txt K mg) : Has P w K mg base CX0 1 "left_beneath" ["seen", "rim"] (sp_left_beneath K) := by
  refine TX.a_left_beneath.ok sc_left_beneath (fun vs H Q E h => ?_) (fun f cdv A outer s H vs Q E hr h => ?_)
  · obtain ⟨l, rim, rfl, _⟩ := h
    rfl
  obtain ⟨l, rim, rfl, h⟩ := h
  refine ⟨_, (pss_cons (ps_setLc (i := 2) (own := [("place", 3), ("sign", 4)]) (g := gTup K 2 (gCons (gName 3) (gCons (gName 4) gNil))) (by rfl) sc_left_beneath.nd rfl rfl (sw_true rfl rfl rfl (by decide +kernel)) (pi_enumS (by rfl) TX.n_enumerate (pa_cons (pv 0) pa_nil)) (blkOk_by (N := ["seen", "rim", "signs", "place", "sign"]) (sc := defScope s_left_beneath) (by decide +kernel)) (fun _ _ _ _ _ => (pg_tup rfl (pgs_cons (pg_name (i := 3) sc_left_beneath.nd rfl (Or.inl rfl) (hf := Or.inr rfl)) (pgs_cons (pg_name (i := 4) sc_left_beneath.nd rfl (Or.inl rfl) (hf := Or.inr rfl)) pgs_nil)))) (fun _ _ _ _ _ => pts_nil) (fun _ _ _ _ _ => (pe_ifExp (pt_cmpR op_eq (pe_ix ix_C (pv 1) (pe_op op_mod (pv 3) (pe_callB call_lenT (by rfl) TX.n_len bt_len (pa_cons (pv 1) pa_nil))) (fun _ _ => rfl)) (pe_gs TX.c_NO_MARK) (nomark _)) (pv 4) (pe_gs TX.c_UNSEEN))))
        (pss_one (ps_ret (pe_join pe_str (pv 2))))), ?_⟩
  obtain ⟨⟨h1, h2, h3⟩, h⟩ := h
  refine q_asgL (el_to (el_lcEnumS (fun _ _ => true) (fun i c => T [if rimM rim i = 46 then c else 63]) (ea_cons (ev_var rfl) ea_nil) (by omega) (fun _ _ => rfl) (fun i c H1 _ _ => et_yes) (fun i c H1 _ hc _ => ?_))
    (by unfold given benL; rw [List.filter_eq_self.mpr (fun _ _ => rfl), List.map_map, List.map_map]; rfl : _ = ((benL l rim).map fun c => [c]).map T)) fun p H1 hp e1 hl1 => ?_
  · have hmod : i % rim.length < rim.length := Nat.mod_lt _ h3
    refine ev_if (b := decide ([rimM rim i] = [46])) (et_test (ev_eqT (ev_is (ev_ixC (a := rim) (ev_var rfl) (ev_mod (ev_var rfl) (ev_lenT (ev_var rfl) (by omega)) (by omega)) (by omega) (Int.emod_nonneg _ (by omega)) (Int.emod_lt_of_pos _ (by omega))) (by
        have e : ((i : Int) % (rim.length : Int)).toNat = i % rim.length := by omega
        rw [e]
        rfl)) (ev_s [46] (by decide +kernel)))) (fun hb => ?_) (fun hb => ?_)
    · have e : rimM rim i = 46 := by simpa using hb
      rw [if_pos e]
      exact ev_var rfl
    · have e : ¬ rimM rim i = 46 := by simpa using hb
      rw [if_neg e]
      exact ev_s [63] (by decide +kernel)
  · refine s_ret (ev_joinL (ys := (benL l rim).map fun c => [c]) (x0 := "") (by decide +kernel) (ev_var rfl) (SqL.of hl1) (by rw [flat_T, benL_len]; omega)) fun H2 e2 => ?_
    rw [flat_T]
    exact h.go (e1.trans e2)
def sp_beneath (K : PySem.W.Frag) : Sp := fun vs H Q _ => ∃ (l rim : List Nat), vs = [T l, T rim] ∧ (Seen l ∧ rim ≠ [] ∧ rim.length ≤ 30000 ∧ ∀ c ∈ rim, c ∈ MARKS) ∧ RetV (optT (benOf l rim)) H Q
theorem ok_beneath (TX : Txt K mg) : Has P w K mg base CX0 4 "beneath" ["seen", "rim"] (sp_beneath K) := by
  have h_need_seen := ok_need_seen (P := P) (w := w) (base := base) TX
  have h_is_rim := ok_is_rim (P := P) (w := w) (base := base) TX
  have h_left_beneath := ok_left_beneath (P := P) (w := w) (base := base) TX
  refine TX.a_beneath.ok sc_beneath (fun vs H Q E h => ?_) (fun f cdv A outer s H vs Q E hr h => ?_)
  · obtain ⟨l, rim, rfl, _⟩ := h
    rfl
  obtain ⟨l, rim, rfl, h⟩ := h
  refine ⟨_, (pss_cons (ps_expr (pe_has h_need_seen (hr.mono (by decide)) pass0 (pa_cons (pv 0) pa_nil)))
        (pss_cons (ps_if (pt_not (pt_val (pe_has h_is_rim (hr.mono (by decide)) pass0 (pa_cons (pv 1) pa_nil)))) (pss_one ps_never) pss_nil)
        (pss_cons (ps_for PassesOwn.never rfl (pi_enumS (by rfl) TX.n_enumerate (pa_cons (pv 0) pa_nil)) (pg_tup rfl (pgs_cons (pg_name (i := 2) sc_beneath.nd rfl (Or.inl rfl)) (pgs_cons (pg_name (i := 3) sc_beneath.nd rfl (Or.inl rfl)) pgs_nil))) (pss_cons (ps_set (i := 4) sc_beneath.nd rfl (Or.inl rfl) (pe_ix ix_C (pv 1) (pe_op op_mod (pv 2) (pe_callB call_lenT (by rfl) TX.n_len bt_len (pa_cons (pv 1) pa_nil))) (fun _ _ => rfl)))
        (pss_one (ps_if (PW.pt (pw_and (pt_cmpR op_ne (pv 4) (pe_gs TX.c_NO_MARK) (nomark _)) (pw_and1 (pt_cmpR op_notIn_seq (pv 3) (pe_tup (pa_cons (pv 4) (pa_cons (pe_gs TX.c_UNSEEN) pa_nil))) rfl)))) (pss_one (ps_ret pe_non)) pss_nil))))
        (pss_one (ps_ret (pe_has h_left_beneath (hr.mono (by decide)) pass0 (pa_cons (pv 0) (pa_cons (pv 1) pa_nil)))))))), ?_⟩
  obtain ⟨⟨h1, h2, h3, h4⟩, h⟩ := h
  have hl := h1.2.1
  have hpos : 0 < rim.length := List.length_pos_iff.mpr h2
  refine q_drop (ev_call (ea_cons (ev_var rfl) ea_nil) fun H1 _ Q q E => ⟨l, rfl, h1, q⟩) fun H1 e1 => ?_
  refine q_when (et_not (et_B (ev_call (z := .bl true) (ea_cons (ev_var rfl) ea_nil) fun H1 _ Q q E => ⟨rim, rfl, ⟨h2, h3, h4⟩, q⟩))) (fun hb H2 e2 => by cases hb) (fun hb H2 e2 => ?_)
  refine q_forEnumS (ea_cons (ev_var rfl) ea_nil) (fun i σ' H' => ∃ v2 v3 v4, σ' = [some (T l), some (T rim), v2, v3, v4] ∧ Ex H H' ∧ ∀ j, j < i → benP l rim j)
    (fun H3 e3 => ⟨_, _, _, rfl, (e1.trans e2).trans e3, fun j hj => absurd hj (Nat.not_lt_zero _)⟩) (fun i σ' H' H3 hi hp e3 => ?_) (fun σ' H' hp => ?_)
  · obtain ⟨v2, v3, v4, rfl, e4, hok⟩ := hp
    have hgi : l.getD i 0 = l[i] := by simp [List.getD, hi]
    refine q_asg (v := T [rimM rim i]) (ev_is (ev_ixC (ev_var rfl) (ev_mod (ev_var rfl) (ev_lenT (ev_var rfl) (by omega)) (by omega)) (by omega) (Int.emod_nonneg _ (by omega)) (Int.emod_lt_of_pos _ (by omega))) (by
        have e : ((i : Int) % (rim.length : Int)).toNat = i % rim.length := by omega
        rw [e]
        rfl)) fun H4 e5 => ?_
    refine s_when (et_and (et_test (ev_neT (ev_var rfl) (ev_s [46] (by decide +kernel)))) fun _ => et_test (ev_niT2 (ev_var rfl) (ev_var rfl) (ev_s [63] (by decide +kernel)))) (fun hb H5 e6 => ?_) (fun hb H5 e6 => ⟨_, _, _, rfl, ((e4.trans e3).trans e5).trans e6, fun j hj => ?_⟩)
    · have hno : ¬ benOk l rim := fun hf => by
        rcases hf i hi with q | q | q
        · simp [q] at hb
        · rw [hgi] at q
          simp [q] at hb
        · rw [hgi] at q
          simp [q] at hb
      have hr : benOf l rim = none := if_neg hno
      rw [hr] at h
      exact s_ret ev_c fun H6 e7 => h.go ((((e4.trans e3).trans e5).trans e6).trans e7)
    · by_cases hji : j < i
      · exact hok j hji
      · have : j = i := by omega
        subst this
        by_cases q : rimM rim j = 46
        · exact .inl q
        · refine .inr ?_
          rw [hgi]
          simp [q] at hb
          exact (Classical.em (rimM rim j = l[j])).elim (fun x => .inl x.symm) fun x => .inr (hb x).symm
  · obtain ⟨v2, v3, v4, rfl, e4, hok⟩ := hp
    have hr : benOf l rim = some (benL l rim) := if_pos fun i hi => hok i hi
    rw [hr] at h
    exact s_ret (ev_call (z := T (benL l rim)) (ea_cons (ev_var rfl) (ea_cons (ev_var rfl) ea_nil)) fun H1 _ Q q E => ⟨l, rim, rfl, ⟨by omega, h3, hpos⟩, q⟩) fun H6 e7 => h.go (e4.trans e7)
end
end X

namespace X
open PySem PySem.Spec PyProof.Rows L2 Evl TL RC RA RD RE RF RG RH RI RJ RL
section
variable {P : Program} {w : World} {K : PySem.W.Frag} {mg : Str → Option Value} {base : Heap}
def sp_law_seen_two (K : PySem.W.Frag) : Sp := fun vs H Q _ => ∃ (b q : Addr) (most n : Nat), vs = [.ref b, .int (most : Int)] ∧ (Bag H b q n ∧ n < 2 ^ 58 ∧ 1 ≤ most ∧ most ≤ 2000) ∧
  ∀ (z : List Nat) H', z ≠ [] → z.length ≤ most → (∀ c ∈ z, c ∈ SIGNS) → But b H H' → Bag H' b q (n + 3 * most + 60) → Q (T z) H'
theorem ok_law_seen_two (TX : Txt K mg) : Has P w K mg base CX0 4 "_law_seen_two" ["bag", "most"] (sp_law_seen_two K) := by
  have h_law_draw := ok_law_draw (P := P) (w := w) (base := base) TX
  have h_law_rim := ok_law_rim (P := P) (w := w) (base := base) TX
  refine TX.a_law_seen_two.ok sc_law_seen_two (fun vs H Q E h => ?_) (fun f cdv A outer s H vs Q E hr h => ?_)
  · obtain ⟨b, q, most, n, rfl, _⟩ := h
    rfl
  obtain ⟨b, q, most, n, rfl, h⟩ := h
  refine ⟨_, (pss_cons (ps_set (i := 2) sc_law_seen_two.nd rfl (Or.inl rfl) (pe_op op_add pe_int (pe_has h_law_draw (hr.mono (by decide)) pass0 (pa_cons (pv 0) (pa_cons (pv 1) pa_nil)))))
        (pss_cons (ps_set (i := 3) sc_law_seen_two.nd rfl (Or.inl rfl) (pe_has h_law_rim (hr.mono (by decide)) pass0 (pa_cons (pv 0) (pa_cons pe_int pa_nil))))
        (pss_cons (ps_set (i := 4) sc_law_seen_two.nd rfl (Or.inl rfl) (pe_has h_law_rim (hr.mono (by decide)) pass0 (pa_cons (pv 0) (pa_cons pe_int pa_nil))))
        (pss_cons (ps_set (i := 5) sc_law_seen_two.nd rfl (Or.inl rfl) (pe_ix ix_list (pe_lst (pa_cons pe_int (pa_cons pe_int (pa_cons pe_int pa_nil)))) (pe_has h_law_draw (hr.mono (by decide)) pass0 (pa_cons (pv 0) (pa_cons pe_int pa_nil))) (fun _ _ => rfl)))
        (pss_cons (ps_set (i := 6) sc_law_seen_two.nd rfl (Or.inl rfl) (pe_ix ix_list (pe_lst (pa_cons pe_int (pa_cons pe_int (pa_cons pe_int pa_nil)))) (pe_has h_law_draw (hr.mono (by decide)) pass0 (pa_cons (pv 0) (pa_cons pe_int pa_nil))) (fun _ _ => rfl)))
        (pss_cons (ps_set (i := 7) sc_law_seen_two.nd rfl (Or.inl rfl) (pe_cmpR op_eq (pe_has h_law_draw (hr.mono (by decide)) pass0 (pa_cons (pv 0) (pa_cons pe_int pa_nil))) pe_int (nomark _)))
        (pss_cons (ps_set (i := 8) sc_law_seen_two.nd rfl (Or.inl rfl) pe_str)
        (pss_cons (ps_for PassesOwn.never rfl (pi_range1 (by rfl) TX.n_range (pa_cons (pv 2) pa_nil)) (pg_name (i := 9) sc_law_seen_two.nd rfl (Or.inl rfl)) (pss_cons (ps_set (i := 10) sc_law_seen_two.nd rfl (Or.inl rfl) (pe_ix ix_C (pv 4) (pe_op op_mod (pv 9) (pe_callB call_lenT (by rfl) TX.n_len bt_len (pa_cons (pv 4) pa_nil))) (fun _ _ => rfl)))
        (pss_cons (ps_set (i := 10) sc_law_seen_two.nd rfl (Or.inl rfl) (pe_ifExp (pt_cmpR op_eq (pv 10) pe_str (nomark _)) (pe_ix ix_C (pv 3) (pe_op op_mod (pv 9) (pe_callB call_lenT (by rfl) TX.n_len bt_len (pa_cons (pv 3) pa_nil))) (fun _ _ => rfl)) (pv 10)))
        (pss_cut (ps_if (PW.pt (pw_or (pt_val (pv 7)) (pw_or1 (PW.pt (pw_and (pt_cmpR op_gt (pv 6) pe_int (nomark _)) (pw_and1 (pt_cmpR op_eq (pe_has h_law_draw (hr.mono (by decide)) pass0 (pa_cons (pv 0) (pa_cons (pv 6) pa_nil))) pe_int (nomark _)))))))) (pss_one (ps_set (i := 10) sc_law_seen_two.nd rfl (Or.inl rfl) (pe_ix ix_C pe_str (pe_has h_law_draw (hr.mono (by decide)) pass0 (pa_cons (pv 0) (pa_cons pe_int pa_nil))) (fun _ _ => rfl)))) pss_nil)
        (pss_one (ps_set (i := 8) sc_law_seen_two.nd rfl (Or.inl rfl) (pe_op op_addT (pv 8) (pe_ifExp (pt_cmpR op_gt (pe_has h_law_draw (hr.mono (by decide)) pass0 (pa_cons (pv 0) (pa_cons (pe_op op_add (pv 5) pe_int) pa_nil))) pe_int (nomark _)) (pv 10) pe_str))))))))
        (pss_one (ps_ret (pv 8))))))))))), ?_⟩
  obtain ⟨⟨hb, hn, m1, m2⟩, h⟩ := h
  have e60 : (2 : Nat) ^ 60 = 1152921504606846976 := by decide
  have e59 : (2 : Nat) ^ 59 = 576460752303423488 := by decide
  have e58 : (2 : Nat) ^ 58 = 288230376151711744 := by decide
  rw [e58] at hn
  have marks : ∀ c ∈ MARKS, c ∈ SIGNS := by decide
  refine ⟨_, rfl, _, rfl, b, q, _, n, rfl, ⟨hb, by rw [e60]; omega, by omega, by omega⟩, fun d H1 d0 d1 u1 B1 => ⟨_, _, rfl, rfl, ?_⟩⟩
  obtain ⟨dn, rfl⟩ : ∃ dn : Nat, d = (dn : Int) := ⟨d.toNat, by omega⟩
  have esz : (1 : Int) + (dn : Int) = ((dn + 1 : Nat) : Int) := by omega
  dsimp only
  rw [esz]
  have hdn : dn + 1 ≤ most := by omega
  refine ⟨_, rfl, b, q, 9, n + 1, rfl, ⟨B1, by rw [e59]; omega, by decide, by decide⟩, fun low H2 hlow u2 B2 => ?_⟩
  obtain ⟨l1, l2, l3⟩ := hlow
  refine ⟨_, rfl, b, q, 9, n + 13, rfl, ⟨B2, by rw [e59]; omega, by decide, by decide⟩, fun up H2' hup u2' B2' => ?_⟩
  obtain ⟨r1, r2, r3⟩ := hup
  -- hidden
  refine ⟨by show 3 ≤ sizeLine; decide, fun p3 hp3 => ⟨_, rfl, b, q, _, n + 25, rfl, ⟨B2'.new hp3, by rw [e60]; omega, by decide, by decide⟩, fun x3 H3 x30 x31 u3 B3 => ?_⟩⟩
  have hhid : ∃ hid : Int, atI ([V.int 1, V.int 3, V.int 40] : List V) x3 = some (.int hid) ∧ 1 ≤ hid ∧ hid ≤ 40 := by
    rcases (show x3 = 0 ∨ x3 = 1 ∨ x3 = 2 by omega) with z | z | z <;> subst z
    · exact ⟨1, rfl, by decide, by decide⟩
    · exact ⟨3, rfl, by decide, by decide⟩
    · exact ⟨40, rfl, by decide, by decide⟩
  obtain ⟨hid, ahid, hid0, hid1⟩ := hhid
  refine ⟨p3, _, x3, _, rfl, rfl, SqL.of (u3 p3 _ (B2'.ne hp3).1 upd_same), ahid, ?_⟩
  -- spoilt
  refine ⟨by show 3 ≤ sizeLine; decide, fun p4 hp4 => ⟨_, rfl, b, q, _, n + 26, rfl, ⟨B3.new hp4, by rw [e60]; omega, by decide, by decide⟩, fun x4 H4 x40 x41 u4 B4 => ?_⟩⟩
  have hspo : ∃ spo : Int, atI ([V.int 0, V.int 0, V.int 30] : List V) x4 = some (.int spo) ∧ 0 ≤ spo ∧ spo ≤ 40 := by
    rcases (show x4 = 0 ∨ x4 = 1 ∨ x4 = 2 by omega) with z | z | z <;> subst z
    · exact ⟨0, rfl, by decide, by decide⟩
    · exact ⟨0, rfl, by decide, by decide⟩
    · exact ⟨30, rfl, by decide, by decide⟩
  obtain ⟨spo, aspo, spo0, spo1⟩ := hspo
  refine ⟨p4, _, x4, _, rfl, rfl, SqL.of (u4 p4 _ (B3.ne hp4).1 upd_same), aspo, ?_⟩
  -- any signs
  refine ⟨_, rfl, b, q, _, n + 27, rfl, ⟨B4, by rw [e60]; omega, by decide, by decide⟩, fun x5 H5 x50 x51 u5 B5 => ⟨rfl, ?_⟩⟩
  have uu : But b H H5 := (((((u1.trans u2).trans u2').trans (But.new hp3)).trans u3).trans ((But.new hp4).trans u4)).trans u5
  clear u1 u2 u2' u3 u4 u5 B1 B2 B2' B3 B4
  generalize hany : decide (V.int x5 = V.int 0) = any
  refine q_asg (ev_s [] (by decide +kernel)) fun H6 e6 => ?_
  refine q_forR1 (n := ((dn + 1 : Nat) : Int)) (ea_cons (ev_var rfl) ea_nil) (by omega) (fun i σ' H' => ∃ (z : List Nat) (v9 v10 : Option V), σ' = [some (.ref b), some (.int most), some (.int ((dn + 1 : Nat) : Int)), some (T low), some (T up), some (.int hid), some (.int spo), some (.bl any), some (T z), v9, v10] ∧
    z.length = i ∧ (∀ c ∈ z, c ∈ SIGNS) ∧ But b H H' ∧ Bag H' b q (n + 28 + 3 * i)) (fun H7 e7 => ⟨[], none, none, rfl, rfl, (fun c hc => by cases hc), uu.trans (But.ex (e6.trans e7)), B5.ex (e6.trans e7)⟩) (fun i σ' H' hi hp => ?_) (fun σ' H' hp => ?_)
  · obtain ⟨z, v9, v10, rfl, hz, hzs, u7, B7⟩ := hp
    have hi' : i < dn + 1 := by omega
    have hmod : (i : Int) % (up.length : Int) < up.length := Int.emod_lt_of_pos _ (by omega)
    have hmod0 : 0 ≤ (i : Int) % (up.length : Int) := Int.emod_nonneg _ (by omega)
    have lmod : (i : Int) % (low.length : Int) < low.length := Int.emod_lt_of_pos _ (by omega)
    have lmod0 : 0 ≤ (i : Int) % (low.length : Int) := Int.emod_nonneg _ (by omega)
    have hsg : up.getD ((i : Int) % (up.length : Int)).toNat 0 ∈ SIGNS := marks _ (r3 _ (getD_mem (by omega)))
    have lsg : low.getD ((i : Int) % (low.length : Int)).toNat 0 ∈ SIGNS := marks _ (l3 _ (getD_mem (by omega)))
    refine q_asg (ev_ixC (ev_var rfl) (ev_mod (ev_var rfl) (ev_lenT (ev_var rfl) (by omega)) (by omega)) (by omega) hmod0 hmod) fun H8 e8 => ?_
    refine q_asg (v := T [if up.getD ((i : Int) % (up.length : Int)).toNat 0 = 46 then low.getD ((i : Int) % (low.length : Int)).toNat 0 else up.getD ((i : Int) % (up.length : Int)).toNat 0])
      (ev_if (et_test (ev_eqT (ev_var rfl) (ev_s [46] (by decide +kernel)))) (fun hb => by
        have e : up.getD ((i : Int) % (up.length : Int)).toNat 0 = 46 := (List.cons.inj (of_decide_eq_true hb)).1
        rw [if_pos e]
        exact ev_ixC (ev_var rfl) (ev_mod (ev_var rfl) (ev_lenT (ev_var rfl) (by omega)) (by omega)) (by omega) lmod0 lmod) (fun hb => by
        have e : ¬ up.getD ((i : Int) % (up.length : Int)).toNat 0 = 46 := fun e => of_decide_eq_false hb (by rw [e])
        rw [if_neg e]
        exact ev_var rfl)) fun H8' e8' => ?_
    have hsg2 : (if up.getD ((i : Int) % (up.length : Int)).toNat 0 = 46 then low.getD ((i : Int) % (low.length : Int)).toNat 0 else up.getD ((i : Int) % (up.length : Int)).toNat 0) ∈ SIGNS := by
      split
      · exact lsg
      · exact hsg
    revert hsg2
    generalize (if up.getD ((i : Int) % (up.length : Int)).toNat 0 = 46 then low.getD ((i : Int) % (low.length : Int)).toNat 0 else up.getD ((i : Int) % (up.length : Int)).toNat 0) = sg
    intro hsg2
    refine q_cut (M := fun σ' H' => ∃ c : Nat, σ' = [some (.ref b), some (.int most), some (.int ((dn + 1 : Nat) : Int)), some (T low), some (T up), some (.int hid), some (.int spo), some (.bl any), some (T z), some (.int (i : Int)), some (T [c])] ∧
      c ∈ SIGNS ∧ But b H H' ∧ Bag H' b q (n + 28 + 3 * i + 2)) ?_ (fun σ' H' hp => ?_)
    · have spoil : ∀ H9 m, But b H H9 → Bag H9 b q m → m + 1 ≤ n + 28 + 3 * i + 2 → ∀ D : Ends, (∀ σ' H', (∃ c : Nat, σ' = [some (.ref b), some (.int most), some (.int ((dn + 1 : Nat) : Int)), some (T low), some (T up), some (.int hid), some (.int spo), some (.bl any), some (T z), some (.int (i : Int)), some (T [c])] ∧
          c ∈ SIGNS ∧ But b H H' ∧ Bag H' b q (n + 28 + 3 * i + 2)) → D.nx σ' H') →
          tAsg (tOp rIxC (tC (.str "ab.c")) (tCall (sp_law_draw K) [] E0 (tCons (tVar 0) (tCons (tC (.int 4)) tNil)))) (gName 10) D
            [some (.ref b), some (.int most), some (.int ((dn + 1 : Nat) : Int)), some (T low), some (T up), some (.int hid), some (.int spo), some (.bl any), some (T z), some (.int (i : Int)), some (T [sg])] H9 := fun H9 m u9 B9 hm D hD =>
        ⟨_, rfl, b, q, _, m, rfl, ⟨B9, by rw [e60]; omega, by decide, by decide⟩, fun y H10 y0 y1 u10 B10 => ⟨[97, 98, 46, 99], y, cs _ (by decide +kernel), rfl, by decide, y0, y1, hD _ _ ⟨_, rfl, by
          have hm := getD_mem (l := [97, 98, 46, 99]) (i := y.toNat) (by simp; omega)
          have : ∀ c ∈ [97, 98, 46, 99], c ∈ SIGNS := by decide
          exact this _ hm, u9.trans u10, B10.mono hm⟩⟩⟩
      have B8 := B7.ex (e8.trans e8')
      have u8 := u7.trans (But.ex (b := b) (e8.trans e8'))
      refine ⟨_, rfl, any, rfl, ?_⟩
      cases any with
      | true => exact iteT (spoil H8' _ u8 B8 (by omega) _ fun _ _ q => q)
      | false =>
        refine iteF ?_
        refine ⟨_, rfl, spo, 0, rfl, rfl, _, rfl, ?_⟩
        by_cases hs : (0 : Int) < spo
        · rw [decide_eq_true hs]
          refine iteT ⟨_, rfl, _, rfl, b, q, _, _, rfl, ⟨B8, by rw [e60]; omega, by omega, by omega⟩, fun y H10 y0 y1 u10 B10 => ⟨rfl, _, rfl, ?_⟩⟩
          cases decide (V.int y = V.int 0) with
          | true => exact spoil H10 _ (u8.trans u10) B10 (by omega) _ fun _ _ q => q
          | false => exact ⟨sg, rfl, hsg2, u8.trans u10, B10.mono (by omega)⟩
        · rw [decide_eq_false hs]
          exact ⟨sg, rfl, hsg2, u8, B8.mono (by omega)⟩
    · obtain ⟨c, rfl, hc, u9, B9⟩ := hp
      refine ⟨_, rfl, _, rfl, _, rfl, _, _, rfl, rfl, b, q, _, _, rfl, ⟨B9, by rw [e60]; omega, by omega, by omega⟩, fun y H10 y0 y1 u10 B10 => ⟨_, _, rfl, rfl, _, rfl, ?_⟩⟩
      have fin : ∀ c', c' ∈ SIGNS → ∃ (z' : List Nat) (v9 v10 : Option V), [some (.ref b), some (.int most), some (.int ((dn + 1 : Nat) : Int)), some (T low), some (T up), some (.int hid), some (.int spo), some (.bl any), some (T (z ++ [c'])), some (.int (i : Int)), some (T [c])] =
          [some (.ref b), some (.int most), some (.int ((dn + 1 : Nat) : Int)), some (T low), some (T up), some (.int hid), some (.int spo), some (.bl any), some (T z'), v9, v10] ∧
          z'.length = i + 1 ∧ (∀ c ∈ z', c ∈ SIGNS) ∧ But b H H10 ∧ Bag H10 b q (n + 28 + 3 * (i + 1)) := fun c' hc' =>
        ⟨z ++ [c'], _, _, rfl, by rw [List.length_append, hz]; rfl, fun x hx => (List.mem_append.mp hx).elim (hzs x) fun q => by rw [List.mem_singleton.mp q]; exact hc', u9.trans u10, B10.mono (by omega)⟩
      cases decide ((0 : Int) < y) with
      | true => exact ⟨_, rfl, z, [c], rfl, rfl, by simp; omega, fin c hc⟩
      | false => exact ⟨z, [63], rfl, cs _ (by decide +kernel), by simp; omega, fin 63 (by decide)⟩
  · obtain ⟨z, v9, v10, rfl, hz, hzs, u7, B7⟩ := hp
    have hz' : z.length = dn + 1 := by omega
    refine s_ret (ev_var rfl) fun H8 e8 => h z H8 (fun e => by rw [e] at hz'; cases hz') (by omega) hzs (u7.trans (But.ex e8)) ((B7.ex e8).mono (by omega))
end
end X

namespace X
open PySem PySem.Spec PyProof.Rows L2 Evl TL RC RA RD RE RF RG RH RI RJ RL
section
variable {P : Program} {w : World} {K : PySem.W.Frag} {mg : Str → Option Value} {base : Heap}
def sp_law_due (K : PySem.W.Frag) : Sp := fun vs H Q _ => ∃ (l rim : List Nat), vs = [T l, T rim] ∧ (l.length ≤ 30000 ∧ 0 < rim.length ∧ rim.length ≤ 30000) ∧ RetV (optT (benOf l rim)) H Q
theorem ok_law_due (TX : Txt K mg) : Has P w K mg base CX0 1 "_law_due" ["seen", "rim"] (sp_law_due K) := by
  refine TX.a_law_due.ok sc_law_due (fun vs H Q E h => ?_) (fun f cdv A outer s H vs Q E hr h => ?_)
  · obtain ⟨l, rim, rfl, _⟩ := h
    rfl
  obtain ⟨l, rim, rfl, h⟩ := h
  refine ⟨_, (pss_cons (ps_set (i := 2) sc_law_due.nd rfl (Or.inl rfl) pe_str)
        (pss_cons (ps_for PassesOwn.never rfl (pi_enumS (by rfl) TX.n_enumerate (pa_cons (pv 0) pa_nil)) (pg_tup rfl (pgs_cons (pg_name (i := 3) sc_law_due.nd rfl (Or.inl rfl)) (pgs_cons (pg_name (i := 4) sc_law_due.nd rfl (Or.inl rfl)) pgs_nil))) (pss_cons (ps_set (i := 5) sc_law_due.nd rfl (Or.inl rfl) (pe_ix ix_C (pv 1) (pe_op op_mod (pv 3) (pe_callB call_lenT (by rfl) TX.n_len bt_len (pa_cons (pv 1) pa_nil))) (fun _ _ => rfl)))
        (pss_one (ps_if (pt_cmpR op_eq (pv 5) pe_str (nomark _)) (pss_one (ps_set (i := 2) sc_law_due.nd rfl (Or.inl rfl) (pe_op op_addT (pv 2) (pv 4)))) (pss_one (ps_if (pt_cmpR op_in_seq (pv 4) (pe_tup (pa_cons (pv 5) (pa_cons pe_str pa_nil))) rfl) (pss_one (ps_set (i := 2) sc_law_due.nd rfl (Or.inl rfl) (pe_op op_addT (pv 2) pe_str))) (pss_one (ps_ret pe_non))))))))
        (pss_one (ps_ret (pv 2))))), ?_⟩
  obtain ⟨⟨h1, h2, h3⟩, h⟩ := h
  refine q_asg (ev_s [] (by decide +kernel)) fun H1 e1 => ?_
  refine q_forEnumS (ea_cons (ev_var rfl) ea_nil) (fun i σ' H' => ∃ v3 v4 v5, σ' = [some (T l), some (T rim), some (T ((benL l rim).take i)), v3, v4, v5] ∧ Ex H H' ∧ ∀ j, j < i → benP l rim j)
    (fun H3 e3 => ⟨_, _, _, rfl, e1.trans e3, fun j hj => absurd hj (Nat.not_lt_zero _)⟩) (fun i σ' H' H3 hi hp e3 => ?_) (fun σ' H' hp => ?_)
  · obtain ⟨v3, v4, v5, rfl, e4, hok⟩ := hp
    have hgi : l.getD i 0 = l[i] := by simp [List.getD, hi]
    have hbl : i < (benL l rim).length := by rw [benL_len]; exact hi
    have htk : (benL l rim).take (i + 1) = (benL l rim).take i ++ [if rimM rim i = 46 then l[i] else 63] := by
      rw [List.take_succ_eq_append_getElem hbl]
      congr 2
      have := benL_at (rim := rim) hi
      rw [hgi] at this
      rw [← this]
      simp [List.getD, hbl]
    have hlt : ((benL l rim).take i).length ≤ 30000 := by rw [List.length_take, benL_len]; omega
    refine q_asg (v := T [rimM rim i]) (ev_is (ev_ixC (a := rim) (ev_var rfl) (ev_mod (ev_var rfl) (ev_lenT (ev_var rfl) (by omega)) (by omega)) (by omega) (Int.emod_nonneg _ (by omega)) (Int.emod_lt_of_pos _ (by omega))) (by
        have e : ((i : Int) % (rim.length : Int)).toNat = i % rim.length := by omega
        rw [e]
        rfl)) fun H4 e5 => ?_
    have next : benP l rim i → ∀ j, j < i + 1 → benP l rim j := fun q j hj => by
      by_cases hji : j < i
      · exact hok j hji
      · have : j = i := by omega
        rw [this]
        exact q
    refine s_if (et_test (ev_eqT (ev_var rfl) (ev_s [46] (by decide +kernel)))) (fun hb H5 e6 => ?_) (fun hb H5 e6 => ?_)
    · have e : rimM rim i = 46 := (List.cons.inj (of_decide_eq_true hb)).1
      rw [if_pos e] at htk
      refine s_asg (ev_addT (ev_var rfl) (ev_var rfl) (by show _ + 1 ≤ _; omega)) fun H6 e7 => ?_
      exact ⟨_, _, _, by rw [htk]; rfl, (((e4.trans e3).trans e5).trans e6).trans e7, next (.inl e)⟩
    · have e : ¬ rimM rim i = 46 := fun e => of_decide_eq_false hb (by rw [e])
      rw [if_neg e] at htk
      refine s_if (et_test (ev_inT2 (ev_var rfl) (ev_var rfl) (ev_s [63] (by decide +kernel)))) (fun hb2 H6 e7 => ?_) (fun hb2 H6 e7 => ?_)
      · have q : benP l rim i := by
          refine .inr ?_
          rw [hgi]
          rcases (Bool.or_eq_true _ _).mp hb2 with z | z
          · exact .inl (List.cons.inj (of_decide_eq_true z)).1.symm
          · exact .inr (List.cons.inj (of_decide_eq_true z)).1.symm
        refine s_asg (ev_addT (ev_var rfl) (ev_s [63] (by decide +kernel)) (by show _ + 1 ≤ _; omega)) fun H7 e8 => ?_
        exact ⟨_, _, _, by rw [htk]; rfl, ((((e4.trans e3).trans e5).trans e6).trans e7).trans e8, next q⟩
      · have hno : ¬ benOk l rim := fun hf => by
          have hb3 := (Bool.or_eq_false_iff.mp hb2)
          rcases hf i hi with z | z | z
          · exact e z
          · rw [hgi] at z
            exact of_decide_eq_false hb3.1 (by rw [z])
          · rw [hgi] at z
            exact of_decide_eq_false hb3.2 (by rw [z])
        have hr : benOf l rim = none := if_neg hno
        rw [hr] at h
        exact s_ret ev_c fun H7 e8 => h.go (((((e4.trans e3).trans e5).trans e6).trans e7).trans e8)
  · obtain ⟨v3, v4, v5, rfl, e4, hok⟩ := hp
    have hr : benOf l rim = some (benL l rim) := if_pos fun i hi => hok i hi
    rw [hr] at h
    have htk : (benL l rim).take l.length = benL l rim := List.take_of_length_le (by rw [benL_len]; exact Nat.le_refl _)
    refine s_ret (ev_var rfl) fun H5 e5 => ?_
    rw [htk]
    exact h.go (e4.trans e5)
def sp_law_near (K : PySem.W.Frag) : Sp := fun vs H Q _ => ∃ (b q : Addr) (l : List Nat) (k n : Nat), vs = [.ref b, T l, .int (k : Int)] ∧ (Bag H b q n ∧ n < 2 ^ 58 ∧ 1 ≤ k ∧ k ≤ 2000 ∧ l.length ≤ 3000 ∧ ∀ c ∈ l, c ∈ SIGNS) ∧
  ∀ (z : List Nat) H', RimOk k z → But b H H' → Bag H' b q (n + k) → Q (T z) H'
theorem ok_law_near (TX : Txt K mg) : Has P w K mg base CX0 3 "_law_near" ["bag", "seen", "size"] (sp_law_near K) := by
  have h_law_draw := ok_law_draw (P := P) (w := w) (base := base) TX
  refine TX.a_law_near.ok sc_law_near (fun vs H Q E h => ?_) (fun f cdv A outer s H vs Q E hr h => ?_)
  · obtain ⟨b, q, l, k, n, rfl, _⟩ := h
    rfl
  obtain ⟨b, q, l, k, n, rfl, h⟩ := h
  refine ⟨_, (pss_str (i := 3) sc_law_near.nd rfl (Or.inl rfl) (psst_cons (RJ.pst_forT PassesOwn.never rfl (pi_range1 (by rfl) TX.n_range (pa_cons (pv 2) pa_nil)) (pg_name (i := 4) sc_law_near.nd rfl (Or.inl rfl)) (psst_cons (RJ.pst_set (i := 5) sc_law_near.nd rfl (Or.inl rfl) (CwR.pet_op op_addT (CwR.pet_replT (CwR.pet_replC (pe_sliceS (pv 1) (po_some (pv 4)) po_none (pv 2)))) (CwR.PET.of pe_str)))
        (CwR.psst_one (PST.of (ps_set (i := 3) sc_law_near.nd rfl (Or.inl rfl) (pe_op op_addT (pv 3) (pe_ix ix_list (pe_lst (pa_cons (pe_ix ix_C (pv 5) pe_int (fun _ _ => rfl)) (pa_cons pe_str (pa_cons (pe_ix ix_C (pv 5) pe_int (fun _ _ => rfl)) pa_nil)))) (pe_has h_law_draw (hr.mono (by decide)) pass0 (pa_cons (pv 0) (pa_cons pe_int pa_nil))) (fun _ _ => rfl))))))))
        (CwR.psst_one (PST.of (ps_ret (pv 3)))))), ?_⟩
  obtain ⟨⟨hb, hn, k1, k2, hl, hls⟩, h⟩ := h
  have e60 : (2 : Nat) ^ 60 = 1152921504606846976 := by decide
  have e58 : (2 : Nat) ^ 58 = 288230376151711744 := by decide
  rw [e58] at hn
  refine q_asg (ev_s [] (by decide +kernel)) fun H1 e1 => ?_
  refine q_forR1 (n := (k : Int)) (ea_cons (ev_var rfl) ea_nil) (by omega) (fun i σ' H' => ∃ (z : List Nat) (v4 v5 : Option V), σ' = [some (.ref b), some (T l), some (.int (k : Int)), some (T z), v4, v5] ∧
      z.length = i ∧ (∀ c ∈ z, c ∈ MARKS) ∧ But b H H' ∧ Bag H' b q (n + i))
    (fun H2 e2 => ⟨[], _, _, rfl, rfl, (fun c hc => by cases hc), But.ex (e1.trans e2), hb.ex (e1.trans e2)⟩) (fun i σ' H' hi hp => ?_) (fun σ' H' hp => ?_)
  · obtain ⟨z, v4, v5, rfl, hz, hzs, u2, B2⟩ := hp
    have hsl := stepL_len l i k (by omega)
    refine q_asg (v := T ((((stepL l i k).filter fun c => !decide (c = 63)).filter fun c => !decide (c = 46)) ++ [46])) (ev_addT (ev_is (ev_replC (c := 46) (z' := []) (by decide +kernel) (by decide +kernel) (ev_is (ev_replC (c := 63) (z' := []) (by decide +kernel) (by decide +kernel)
        (ev_is (ev_slS (a := l) (ev_var rfl) (eo_some (ev_var rfl)) eo_none (ev_var rfl) (by omega) (by rw [stepS_eq l i k (by omega), S_len]; omega)) (by rw [stepS_eq l i k (by omega)]))
        (by show _ + _ * 0 ≤ _; omega)) (by rw [subst_nil])) ?_) (by rw [subst_nil])) (ev_s [46] (by decide +kernel)) ?_) fun H3 e3 => ?_
    · have := List.length_filter_le (fun c => !decide (c = 63)) (stepL l i k)
      show _ + _ * 0 ≤ _
      omega
    · have h1 := List.length_filter_le (fun c => !decide (c = 46)) ((stepL l i k).filter fun c => !decide (c = 63))
      have h2 := List.length_filter_le (fun c => !decide (c = 63)) (stepL l i k)
      show _ + 1 ≤ _
      omega
    have hsm : ∀ c ∈ ((((stepL l i k).filter fun c => !decide (c = 63)).filter fun c => !decide (c = 46)) ++ [46]), c ∈ MARKS := fun c hc => by
      rcases List.mem_append.mp hc with y | y
      · have y1 := List.mem_filter.mp (List.mem_filter.mp y).1
        exact signs_marks c (hls c (stepL_mem (by omega) y1.1)) (by simpa using y1.2)
      · rw [List.mem_singleton.mp y]
        decide
    have hsn : 0 < ((((stepL l i k).filter fun c => !decide (c = 63)).filter fun c => !decide (c = 46)) ++ [46]).length := by simp
    have hsl2 : ((((stepL l i k).filter fun c => !decide (c = 63)).filter fun c => !decide (c = 46)) ++ [46]).length ≤ 3001 := by
      have h1 := List.length_filter_le (fun c => !decide (c = 46)) ((stepL l i k).filter fun c => !decide (c = 63))
      have h2 := List.length_filter_le (fun c => !decide (c = 63)) (stepL l i k)
      rw [List.length_append, List.length_singleton]
      omega
    revert hsm hsn hsl2
    generalize ((((stepL l i k).filter fun c => !decide (c = 63)).filter fun c => !decide (c = 46)) ++ [46]) = some'
    intro hsm hsn hsl2
    have h0m : some'.getD 0 0 ∈ MARKS := hsm _ (getD_mem hsn)
    have B3 := B2.ex e3
    refine ⟨_, rfl, _, rfl, some', 0, rfl, rfl, by omega, by omega, by omega, _, rfl, some', 0, rfl, rfl, by omega, by omega, by omega, ?_⟩
    refine ⟨by show 3 ≤ sizeLine; decide, fun p hp => ⟨_, rfl, b, q, _, _, rfl, ⟨B3.new hp, by rw [e60]; omega, by decide, by decide⟩, fun x H4 x0 x1 u4 B4 => ?_⟩⟩
    have hit : ∃ c, atI ([T [some'.getD (0 : Int).toNat 0], V.str ".", T [some'.getD (0 : Int).toNat 0]] : List V) x = some (T [c]) ∧ c ∈ MARKS := by
      rcases (show x = 0 ∨ x = 1 ∨ x = 2 by omega) with y | y | y <;> subst y
      · exact ⟨_, rfl, h0m⟩
      · exact ⟨46, (congrArg some (cs [46] (by decide +kernel)) : some (V.str ".") = _), by decide⟩
      · exact ⟨_, rfl, h0m⟩
    obtain ⟨c, hc, hcm⟩ := hit
    refine ⟨p, _, x, _, rfl, rfl, SqL.of (u4 p _ (B3.ne hp).1 upd_same), hc, z, [c], rfl, rfl, by show _ + 1 ≤ _; omega, ?_⟩
    exact ⟨z ++ [c], _, _, rfl, by rw [List.length_append, hz]; rfl, fun y hy => (List.mem_append.mp hy).elim (hzs y) fun q => by rw [List.mem_singleton.mp q]; exact hcm,
      ((u2.trans (But.ex e3)).trans (But.new hp)).trans u4, B4.mono (by omega)⟩
  · obtain ⟨z, v4, v5, rfl, hz, hzs, u2, B2⟩ := hp
    refine s_ret (ev_var rfl) fun H5 e5 => h z H5 ⟨by omega, by omega, hzs⟩ (u2.trans (But.ex e5)) ((B2.ex e5).mono (by omega))
def sp_law (K : PySem.W.Frag) : Sp := fun vs H Q _ => ∃ (a : Addr) (ns : List Int), vs = [.ref a] ∧ (SqL K H a (ns.map V.int) ∧ ns.length ≤ 63) ∧ ∀ H', Q (.bl true) H'
theorem sp_law_start {a : Addr} {ns : List Int} {H : Hp} (hl : ns.length ≤ 63) (hO : Only H) (hS : SqL K H a (ns.map V.int)) : sp_law K [.ref a] H (fun v _ => v = .bl true) fun _ _ _ => False :=
  ⟨a, ns, rfl, ⟨hS, hl⟩, fun _ => rfl⟩
theorem ok_law {f : Addr} {fd : FuncData} (F : Fun K "law" "law" s_law f fd) (TX : Txt K mg) : FnOk P w K mg base CX0 5 f fd ["script"] (sp_law K) := by
  have h_law_bag := ok_law_bag (P := P) (w := w) (base := base) TX
  have h_law_seen_two := ok_law_seen_two (P := P) (w := w) (base := base) TX
  have h_law_draw := ok_law_draw (P := P) (w := w) (base := base) TX
  have h_law_rim := ok_law_rim (P := P) (w := w) (base := base) TX
  have h_law_near := ok_law_near (P := P) (w := w) (base := base) TX
  have h_law_due := ok_law_due (P := P) (w := w) (base := base) TX
  have h_beneath := ok_beneath (P := P) (w := w) (base := base) TX
  refine F.ok sc_law (fun vs H Q E h => ?_) (fun cdv A outer s H vs Q E hr h => ?_)
  · obtain ⟨a, ns, rfl, _⟩ := h
    rfl
  obtain ⟨a, ns, rfl, h⟩ := h
  refine ⟨_, (pss_cons (ps_set (i := 1) sc_law.nd rfl (Or.inl rfl) (pe_has h_law_bag (hr.mono (by decide)) pass0 (pa_cons (pv 0) pa_nil)))
        (pss_cons (ps_for PassesOwn.never rfl (pi_range1 (by rfl) TX.n_range (pa_cons (pe_op op_add pe_int (pe_callB (call_min2 rfl) (by rfl) TX.n_min bt_min (pa_cons pe_int (pa_cons (pe_callB call_lenL (by rfl) TX.n_len bt_len (pa_cons (pv 0) pa_nil)) pa_nil)))) pa_nil)) (pg_name (i := 2) sc_law.nd rfl (Or.inl rfl)) (pss_cons (ps_set (i := 3) sc_law.nd rfl (Or.inl rfl) (pe_has h_law_seen_two (hr.mono (by decide)) pass0 (pa_cons (pv 1) (pa_cons (pe_ix ix_list (pe_lst (pa_cons pe_int (pa_cons pe_int (pa_cons pe_int pa_nil)))) (pe_has h_law_draw (hr.mono (by decide)) pass0 (pa_cons (pv 1) (pa_cons pe_int pa_nil))) (fun _ _ => rfl)) pa_nil))))
        (pss_cons (ps_set (i := 4) sc_law.nd rfl (Or.inl rfl) (pe_has h_law_rim (hr.mono (by decide)) pass0 (pa_cons (pv 1) (pa_cons pe_int pa_nil))))
        (pss_cut (ps_if (pt_cmpR op_gt (pe_has h_law_draw (hr.mono (by decide)) pass0 (pa_cons (pv 1) (pa_cons pe_int pa_nil))) pe_int (nomark _)) (pss_one (ps_set (i := 4) sc_law.nd rfl (Or.inl rfl) (pe_has h_law_near (hr.mono (by decide)) pass0 (pa_cons (pv 1) (pa_cons (pv 3) (pa_cons (pe_op op_add pe_int (pe_has h_law_draw (hr.mono (by decide)) pass0 (pa_cons (pv 1) (pa_cons pe_int pa_nil)))) pa_nil)))))) pss_nil)
        (pss_cons (ps_set (i := 5) sc_law.nd rfl (Or.inl rfl) (pe_has h_law_due (hr.mono (by decide)) pass0 (pa_cons (pv 3) (pa_cons (pv 4) pa_nil))))
        (pss_cons (ps_set (i := 6) sc_law.nd rfl (Or.inl rfl) (pe_has h_beneath (hr.mono (by decide)) pass0 (pa_cons (pv 3) (pa_cons (pv 4) pa_nil))))
        (pss_cons (ps_if (PW.pt (pw_or (pt_cmpR op_ne (pv 6) (pv 5) (nomark _)) (pw_or1 (PW.pt (pw_and (pt_cmpR op_notN (pv 5) pe_non (nomark _)) (pw_and1 (pt_not (pt_val (pe_callB call_isi (by rfl) TX.n_isinstance bt_isinstance (pa_cons (pv 6) (pa_cons (pe_bltn (v := .ty "str") (by rfl) TX.n_str bt_str rfl) pa_nil))))))))))) (pss_one (ps_ret pe_bl)) pss_nil)
        (pss_cons (ps_if (PW.pt (pw_and (pt_cmpR op_notN (pv 5) pe_non (nomark _)) (pw_and1 (pt_cmpR op_ne (pe_has h_beneath (hr.mono (by decide)) pass0 (pa_cons (pv 6) (pa_cons (pv 4) pa_nil))) (pv 5) (nomark _))))) (pss_one (ps_ret pe_bl)) pss_nil)
        (pss_one (ps_if (pt_cmpR op_ne (pe_has h_beneath (hr.mono (by decide)) pass0 (pa_cons (pv 3) (pa_cons (pe_op op_repT pe_str (pe_op op_add pe_int (pe_has h_law_draw (hr.mono (by decide)) pass0 (pa_cons (pv 1) (pa_cons pe_int pa_nil))))) pa_nil))) (pv 3) (nomark _)) (pss_one (ps_ret pe_bl)) pss_nil))))))))))
        (pss_one (ps_ret pe_bl)))), ?_⟩
  obtain ⟨⟨hs, hl⟩, h⟩ := h
  have e60 : (2 : Nat) ^ 60 = 1152921504606846976 := by decide
  have e59 : (2 : Nat) ^ 59 = 576460752303423488 := by decide
  have e58 : (2 : Nat) ^ 58 = 288230376151711744 := by decide
  refine ⟨_, rfl, a, ns, rfl, ⟨hs, hl⟩, fun b q H1 hb0 e1 B1 => ?_⟩
  have hs1 := ex_l e1 hs
  have hcnt : 3 + (if (ns.length : Int) < 6 then (ns.length : Int) else 6) ≤ 9 := by split <;> omega
  refine q_forR1 (n := 3 + (if (ns.length : Int) < 6 then (ns.length : Int) else 6)) (ea_cons (ev_is (ev_i0 ev_c (ev_min2 ev_c (ev_lenL (ev_var rfl) hs1))) (by rw [List.length_map])) ea_nil) (by split <;> omega)
    (fun i σ' H' => ∃ v2 v3 v4 v5 v6 : Option V, σ' = [some (.ref a), some (.ref b), v2, v3, v4, v5, v6] ∧ Bag H' b q (1200 * i))
    (fun H2 e2 => ⟨_, _, _, _, _, rfl, B1.ex e2⟩) (fun i σ' H' hi hp => ?_) (fun σ' H' hp => ?_)
  · obtain ⟨v2, v3, v4, v5, v6, rfl, B2⟩ := hp
    have hi6 : i < 9 := by omega
    refine ⟨_, rfl, by show 3 ≤ sizeLine; decide, fun p hp => ⟨_, rfl, b, q, _, _, rfl, ⟨B2.new hp, by rw [e60]; omega, by decide, by decide⟩, fun x H3 x0 x1 u3 B3 => ?_⟩⟩
    have hmost : ∃ m : Nat, atI ([V.int 12, V.int 60, V.int 300] : List V) x = some (.int (m : Int)) ∧ 1 ≤ m ∧ m ≤ 300 := by
      rcases (show x = 0 ∨ x = 1 ∨ x = 2 by omega) with z | z | z <;> subst z
      · exact ⟨12, rfl, by decide, by decide⟩
      · exact ⟨60, rfl, by decide, by decide⟩
      · exact ⟨300, rfl, by decide, by decide⟩
    obtain ⟨m, hm, m0, m1⟩ := hmost
    refine ⟨p, _, x, _, rfl, rfl, SqL.of (u3 p _ (B2.ne hp).1 upd_same), hm, ?_⟩
    refine ⟨b, q, m, _, rfl, ⟨B3, by rw [e58]; omega, m0, by omega⟩, fun z H4 z1 z2 z3 u4 B4 => ?_⟩
    have hseen : Seen z := ⟨z1, by omega, z3⟩
    refine ⟨_, rfl, b, q, 60, _, rfl, ⟨B4, by rw [e59]; omega, by decide, by decide⟩, fun rim H5 hrim u5 B5 => ?_⟩
    refine q_cut (M := fun σ' H' => ∃ (rim : List Nat) (v5 v6 : Option V), σ' = [some (.ref a), some (.ref b), some (.int (i : Int)), some (T z), some (T rim), v5, v6] ∧ RimOk 60 rim ∧ Bag H' b q (1200 * i + 1100)) ?_ (fun σ' H' hp => ?_)
    · refine ⟨_, rfl, b, q, _, _, rfl, ⟨B5, by rw [e60]; omega, by decide, by decide⟩, fun y H6 y0 y1 u6 B6 => ⟨_, _, rfl, rfl, _, rfl, ?_⟩⟩
      cases decide ((0 : Int) < y) with
      | true =>
        refine iteT ⟨_, rfl, _, rfl, _, rfl, b, q, _, _, rfl, ⟨B6, by rw [e60]; omega, by decide, by decide⟩, fun w H7 w0 w1 u7 B7 => ⟨_, _, rfl, rfl, ?_⟩⟩
        obtain ⟨wn, rfl⟩ : ∃ wn : Nat, w = (wn : Int) := ⟨w.toNat, by omega⟩
        have ew : (1 : Int) + (wn : Int) = ((wn + 1 : Nat) : Int) := by omega
        dsimp only
        rw [ew]
        exact ⟨b, q, z, wn + 1, _, rfl, ⟨B7, by rw [e58]; omega, by omega, by omega, by omega, z3⟩, fun rim2 H8 hr2 u8 B8 => ⟨rim2, _, _, rfl, ⟨hr2.1, by have := hr2.2.1; omega, hr2.2.2⟩, B8.mono (by omega)⟩⟩
      | false => exact ⟨rim, _, _, rfl, hrim, B6.mono (by omega)⟩
    · obtain ⟨rim, v5, v6, rfl, ⟨r1, r2, r3⟩, B6⟩ := hp
      have rne : rim ≠ [] := fun e => by
        rw [e] at r1
        cases r1
      refine q_asg (ev_call (z := optT (benOf z rim)) (ea_cons (ev_var rfl) (ea_cons (ev_var rfl) ea_nil)) fun H1 _ Q q E => ⟨z, rim, rfl, ⟨by omega, by omega, by omega⟩, q⟩) fun H7 e7 => ?_
      refine q_asg (ev_call (z := optT (benOf z rim)) (ea_cons (ev_var rfl) (ea_cons (ev_var rfl) ea_nil)) fun H1 _ Q q E => ⟨z, rim, rfl, ⟨hseen, rne, by omega, r3⟩, q⟩) fun H8 e8 => ?_
      refine q_when (b := false) (et_is (et_or (et_test (ev_op (ev_var rfl) (ev_var rfl) (rv_ne (scal_opt _ _)))) fun _ => et_and (b := false) (et_test (ev_notN (ev_var rfl) ev_c)) fun hb => ?_) (by simp)) (fun hb H9 e9 => by cases hb) (fun hb H9 e9 => ?_)
      · revert hb
        cases benOf z rim with
        | none => exact fun hb => by cases hb
        | some l => exact fun _ => et_is (et_not (et_B (ev_isiT (ev_var rfl)))) rfl
      refine q_when (b := false) (et_is (et_and (b := false) (et_test (ev_notN (ev_var rfl) ev_c)) fun hb => ?_) (by simp)) (fun hb H10 e10 => by cases hb) (fun hb H10 e10 => ?_)
      · by_cases hk : benOk z rim
        · have hr : benOf z rim = some (benL z rim) := if_pos hk
          rw [hr]
          refine et_is (et_test (ev_op (ev_call (z := optT (benOf (benL z rim) rim)) (ea_cons (ev_var rfl) (ea_cons (ev_var rfl) ea_nil)) fun H1 _ Q q E => ⟨benL z rim, rim, rfl, ⟨benL_seen hseen, rne, by omega, r3⟩, q⟩) (ev_var rfl) (rv_ne (scal_opt _ (some _))))) ?_
          rw [benOf_again]
          simp
        · have hr : benOf z rim = none := if_neg hk
          rw [hr] at hb
          cases hb
      · have B10 := ((B6.ex (e7.trans e8)).ex e9).ex e10
        refine ⟨_, rfl, _, rfl, b, q, _, _, rfl, ⟨B10, by rw [e60]; omega, by decide, by decide⟩, fun y H11 y0 y1 u11 B11 => ⟨_, _, rfl, rfl, [46], 1 + y, cs [46] (by decide +kernel), rfl, by omega, by omega, by simp; omega, ?_⟩⟩
        have hk0 : 0 < (1 + y).toNat := by omega
        have hrep : ∀ c ∈ repT [46] (1 + y).toNat, c = 46 := fun c hc => List.mem_singleton.mp (repT_mem hc)
        have hrl : (repT [46] (1 + y).toNat).length = (1 + y).toNat := by rw [repT_len]; simp
        refine ⟨z, repT [46] (1 + y).toNat, rfl, ⟨hseen, fun e => by rw [e] at hrl; simp at hrl; omega, by omega, fun c hc => by rw [hrep c hc]; decide⟩, fun H12 e12 => ?_⟩
        rw [benOf_none hrep (by omega)]
        refine ⟨_, rfl, rfl, _, rfl, ?_⟩
        have e : (!decide (optT (some z) = T z)) = false := by simp [optT]
        dsimp only
        rw [e]
        exact ⟨_, _, _, _, _, rfl, (B11.ex e12).mono (by omega)⟩
  · obtain ⟨v2, v3, v4, v5, v6, rfl, B2⟩ := hp
    exact s_ret ev_c fun H2 e2 => h H2
end
end X

namespace X
open PySem PySem.Spec PyProof.Rows L2 Evl TL RC RA RD RE RF RG RH RI RJ RL
theorem all_mk {l : PySem.W.OpenLaw} {w : World} {K : PySem.W.Frag} {h : Heap} {mg : Str → Option Value} {fa : Addr} (X : K.In h) (G : h.Ns mainGlobals mg) (hfa : mg "law" = some (.ref fa))
    {f0 : Addr} {od0 an0 : Option Addr} {sl0 : Array (Option Value)} {oc0 kV0 dc0 pm0 cd0 ct0 : Value}
    {f1 : Addr} {od1 an1 : Option Addr} {sl1 : Array (Option Value)} {oc1 kV1 dc1 pm1 cd1 ct1 : Value}
    {f2 : Addr} {od2 an2 : Option Addr} {sl2 : Array (Option Value)} {oc2 kV2 dc2 pm2 cd2 ct2 : Value}
    {f3 : Addr} {od3 an3 : Option Addr} {sl3 : Array (Option Value)} {oc3 kV3 dc3 pm3 cd3 ct3 : Value}
    {f4 : Addr} {od4 an4 : Option Addr} {sl4 : Array (Option Value)} {oc4 kV4 dc4 pm4 cd4 ct4 : Value}
    {f5 : Addr} {od5 an5 : Option Addr} {sl5 : Array (Option Value)} {oc5 kV5 dc5 pm5 cd5 ct5 : Value}
    {f6 : Addr} {od6 an6 : Option Addr} {sl6 : Array (Option Value)} {oc6 kV6 dc6 pm6 cd6 ct6 : Value}
    {f7 : Addr} {od7 an7 : Option Addr} {sl7 : Array (Option Value)} {oc7 kV7 dc7 pm7 cd7 ct7 : Value}
    {f8 : Addr} {od8 an8 : Option Addr} {sl8 : Array (Option Value)} {oc8 kV8 dc8 pm8 cd8 ct8 : Value}
    {f9 : Addr} {od9 an9 : Option Addr} {sl9 : Array (Option Value)} {oc9 kV9 dc9 pm9 cd9 ct9 : Value}
    {f10 : Addr} {od10 an10 : Option Addr} {sl10 : Array (Option Value)} {oc10 kV10 dc10 pm10 cd10 ct10 : Value}
    {f11 : Addr} {od11 an11 : Option Addr} {sl11 : Array (Option Value)} {oc11 kV11 dc11 pm11 cd11 ct11 : Value}
    {f12 : Addr} {od12 an12 : Option Addr} {sl12 : Array (Option Value)} {oc12 kV12 dc12 pm12 cd12 ct12 : Value}
    {f13 : Addr} {od13 an13 : Option Addr} {sl13 : Array (Option Value)} {oc13 kV13 dc13 pm13 cd13 ct13 : Value}
    {t_LETTERS : Tok}
    {t_NO_MARK : Tok}
    {t_SEEN_SIGNS : Tok}
    {t_UNSEEN : Tok}
    (a0 : PySem.W.nsIn K mainGlobals "_law_bag" = some (some (.ref f0))) (l0 : K.lookup f0 = some ⟨oc0, od0, .func (PySem.W.fnOf "_law_bag" "_law_bag" (defArgs s_law_bag) (defBody s_law_bag) (defScope s_law_bag) .none kV0 dc0 pm0 an0 cd0 ct0), sl0⟩)
    (q0 : PySem.W.codeIn K cd0 "_law_bag" = true) (k0 : PySem.W.keepIn K (.ref f0) = true)
    (a1 : PySem.W.nsIn K mainGlobals "_law_stir" = some (some (.ref f1))) (l1 : K.lookup f1 = some ⟨oc1, od1, .func (PySem.W.fnOf "_law_stir" "_law_stir" (defArgs s_law_stir) (defBody s_law_stir) (defScope s_law_stir) .none kV1 dc1 pm1 an1 cd1 ct1), sl1⟩)
    (q1 : PySem.W.codeIn K cd1 "_law_stir" = true) (k1 : PySem.W.keepIn K (.ref f1) = true)
    (a2 : PySem.W.nsIn K mainGlobals "_law_draw" = some (some (.ref f2))) (l2 : K.lookup f2 = some ⟨oc2, od2, .func (PySem.W.fnOf "_law_draw" "_law_draw" (defArgs s_law_draw) (defBody s_law_draw) (defScope s_law_draw) .none kV2 dc2 pm2 an2 cd2 ct2), sl2⟩)
    (q2 : PySem.W.codeIn K cd2 "_law_draw" = true) (k2 : PySem.W.keepIn K (.ref f2) = true)
    (a3 : PySem.W.nsIn K mainGlobals "_law_rim" = some (some (.ref f3))) (l3 : K.lookup f3 = some ⟨oc3, od3, .func (PySem.W.fnOf "_law_rim" "_law_rim" (defArgs s_law_rim) (defBody s_law_rim) (defScope s_law_rim) .none kV3 dc3 pm3 an3 cd3 ct3), sl3⟩)
    (q3 : PySem.W.codeIn K cd3 "_law_rim" = true) (k3 : PySem.W.keepIn K (.ref f3) = true)
    (a4 : PySem.W.nsIn K mainGlobals "_law_seen_two" = some (some (.ref f4))) (l4 : K.lookup f4 = some ⟨oc4, od4, .func (PySem.W.fnOf "_law_seen_two" "_law_seen_two" (defArgs s_law_seen_two) (defBody s_law_seen_two) (defScope s_law_seen_two) .none kV4 dc4 pm4 an4 cd4 ct4), sl4⟩)
    (q4 : PySem.W.codeIn K cd4 "_law_seen_two" = true) (k4 : PySem.W.keepIn K (.ref f4) = true)
    (a5 : PySem.W.nsIn K mainGlobals "_law_near" = some (some (.ref f5))) (l5 : K.lookup f5 = some ⟨oc5, od5, .func (PySem.W.fnOf "_law_near" "_law_near" (defArgs s_law_near) (defBody s_law_near) (defScope s_law_near) .none kV5 dc5 pm5 an5 cd5 ct5), sl5⟩)
    (q5 : PySem.W.codeIn K cd5 "_law_near" = true) (k5 : PySem.W.keepIn K (.ref f5) = true)
    (a6 : PySem.W.nsIn K mainGlobals "_law_due" = some (some (.ref f6))) (l6 : K.lookup f6 = some ⟨oc6, od6, .func (PySem.W.fnOf "_law_due" "_law_due" (defArgs s_law_due) (defBody s_law_due) (defScope s_law_due) .none kV6 dc6 pm6 an6 cd6 ct6), sl6⟩)
    (q6 : PySem.W.codeIn K cd6 "_law_due" = true) (k6 : PySem.W.keepIn K (.ref f6) = true)
    (a7 : PySem.W.nsIn K mainGlobals "need_seen" = some (some (.ref f7))) (l7 : K.lookup f7 = some ⟨oc7, od7, .func (PySem.W.fnOf "need_seen" "need_seen" (defArgs s_need_seen) (defBody s_need_seen) (defScope s_need_seen) .none kV7 dc7 pm7 an7 cd7 ct7), sl7⟩)
    (q7 : PySem.W.codeIn K cd7 "need_seen" = true) (k7 : PySem.W.keepIn K (.ref f7) = true)
    (a8 : PySem.W.nsIn K mainGlobals "is_letter" = some (some (.ref f8))) (l8 : K.lookup f8 = some ⟨oc8, od8, .func (PySem.W.fnOf "is_letter" "is_letter" (defArgs s_is_letter) (defBody s_is_letter) (defScope s_is_letter) .none kV8 dc8 pm8 an8 cd8 ct8), sl8⟩)
    (q8 : PySem.W.codeIn K cd8 "is_letter" = true) (k8 : PySem.W.keepIn K (.ref f8) = true)
    (a9 : PySem.W.nsIn K mainGlobals "is_sign" = some (some (.ref f9))) (l9 : K.lookup f9 = some ⟨oc9, od9, .func (PySem.W.fnOf "is_sign" "is_sign" (defArgs s_is_sign) (defBody s_is_sign) (defScope s_is_sign) .none kV9 dc9 pm9 an9 cd9 ct9), sl9⟩)
    (q9 : PySem.W.codeIn K cd9 "is_sign" = true) (k9 : PySem.W.keepIn K (.ref f9) = true)
    (a10 : PySem.W.nsIn K mainGlobals "is_rim" = some (some (.ref f10))) (l10 : K.lookup f10 = some ⟨oc10, od10, .func (PySem.W.fnOf "is_rim" "is_rim" (defArgs s_is_rim) (defBody s_is_rim) (defScope s_is_rim) .none kV10 dc10 pm10 an10 cd10 ct10), sl10⟩)
    (q10 : PySem.W.codeIn K cd10 "is_rim" = true) (k10 : PySem.W.keepIn K (.ref f10) = true)
    (a11 : PySem.W.nsIn K mainGlobals "left_beneath" = some (some (.ref f11))) (l11 : K.lookup f11 = some ⟨oc11, od11, .func (PySem.W.fnOf "left_beneath" "left_beneath" (defArgs s_left_beneath) (defBody s_left_beneath) (defScope s_left_beneath) .none kV11 dc11 pm11 an11 cd11 ct11), sl11⟩)
    (q11 : PySem.W.codeIn K cd11 "left_beneath" = true) (k11 : PySem.W.keepIn K (.ref f11) = true)
    (a12 : PySem.W.nsIn K mainGlobals "beneath" = some (some (.ref f12))) (l12 : K.lookup f12 = some ⟨oc12, od12, .func (PySem.W.fnOf "beneath" "beneath" (defArgs s_beneath) (defBody s_beneath) (defScope s_beneath) .none kV12 dc12 pm12 an12 cd12 ct12), sl12⟩)
    (q12 : PySem.W.codeIn K cd12 "beneath" = true) (k12 : PySem.W.keepIn K (.ref f12) = true)
    (a13 : PySem.W.nsIn K mainGlobals "law" = some (some (.ref f13))) (l13 : K.lookup f13 = some ⟨oc13, od13, .func (PySem.W.fnOf "law" "law" (defArgs s_law) (defBody s_law) (defScope s_law) .none kV13 dc13 pm13 an13 cd13 ct13), sl13⟩)
    (q13 : PySem.W.codeIn K cd13 "law" = true) (k13 : PySem.W.keepIn K (.ref f13) = true)
    (g_LETTERS : PySem.W.nsIn K mainGlobals "LETTERS" = some (some (.str "abcdefghijklmnopqrstuvwxyz" t_LETTERS)))
    (g_NO_MARK : PySem.W.nsIn K mainGlobals "NO_MARK" = some (some (.str "." t_NO_MARK)))
    (g_SEEN_SIGNS : PySem.W.nsIn K mainGlobals "SEEN_SIGNS" = some (some (.str "abcdefghijklmnopqrstuvwxyz.?" t_SEEN_SIGNS)))
    (g_UNSEEN : PySem.W.nsIn K mainGlobals "UNSEEN" = some (some (.str "?" t_UNSEEN)))
    (z_all : PySem.W.nsIn K mainGlobals "all" = some none)
    (z_enumerate : PySem.W.nsIn K mainGlobals "enumerate" = some none)
    (z_isinstance : PySem.W.nsIn K mainGlobals "isinstance" = some none)
    (z_len : PySem.W.nsIn K mainGlobals "len" = some none)
    (z_list : PySem.W.nsIn K mainGlobals "list" = some none)
    (z_min : PySem.W.nsIn K mainGlobals "min" = some none)
    (z_range : PySem.W.nsIn K mainGlobals "range" = some none)
    (z_str : PySem.W.nsIn K mainGlobals "str" = some none) :
    ∃ fd : FuncData, (∀ (s : Shared) (v : Value), BindsTo s fd ⟨[v], []⟩ [("script", v)]) ∧ ∀ base : Heap, K.In base → base.Ns mainGlobals mg → FnOk l.prog w K mg base CX0 5 fa fd ["script"] (sp_law K) := by
  have e := hfa.symm.trans (PySem.W.mg_of X G a13)
  cases e
  have F0 := fun_mk (st := s_law_bag) l0 q0 k0
  have F1 := fun_mk (st := s_law_stir) l1 q1 k1
  have F2 := fun_mk (st := s_law_draw) l2 q2 k2
  have F3 := fun_mk (st := s_law_rim) l3 q3 k3
  have F4 := fun_mk (st := s_law_seen_two) l4 q4 k4
  have F5 := fun_mk (st := s_law_near) l5 q5 k5
  have F6 := fun_mk (st := s_law_due) l6 q6 k6
  have F7 := fun_mk (st := s_need_seen) l7 q7 k7
  have F8 := fun_mk (st := s_is_letter) l8 q8 k8
  have F9 := fun_mk (st := s_is_sign) l9 q9 k9
  have F10 := fun_mk (st := s_is_rim) l10 q10 k10
  have F11 := fun_mk (st := s_left_beneath) l11 q11 k11
  have F12 := fun_mk (st := s_beneath) l12 q12 k12
  have F13 := fun_mk (st := s_law) l13 q13 k13
  have TX : Txt K mg := {
    a_law_bag := ⟨_, _, F0, PySem.W.mg_of X G a0, F0.binds (ps := ["script"]) fun _ _ _ _ _ _ us hl => match us, hl with | [_], _ => rfl⟩
    a_law_stir := ⟨_, _, F1, PySem.W.mg_of X G a1, F1.binds (ps := ["number", "place"]) fun _ _ _ _ _ _ us hl => match us, hl with | [_, _], _ => rfl⟩
    a_law_draw := ⟨_, _, F2, PySem.W.mg_of X G a2, F2.binds (ps := ["bag", "many"]) fun _ _ _ _ _ _ us hl => match us, hl with | [_, _], _ => rfl⟩
    a_law_rim := ⟨_, _, F3, PySem.W.mg_of X G a3, F3.binds (ps := ["bag", "most"]) fun _ _ _ _ _ _ us hl => match us, hl with | [_, _], _ => rfl⟩
    a_law_seen_two := ⟨_, _, F4, PySem.W.mg_of X G a4, F4.binds (ps := ["bag", "most"]) fun _ _ _ _ _ _ us hl => match us, hl with | [_, _], _ => rfl⟩
    a_law_near := ⟨_, _, F5, PySem.W.mg_of X G a5, F5.binds (ps := ["bag", "seen", "size"]) fun _ _ _ _ _ _ us hl => match us, hl with | [_, _, _], _ => rfl⟩
    a_law_due := ⟨_, _, F6, PySem.W.mg_of X G a6, F6.binds (ps := ["seen", "rim"]) fun _ _ _ _ _ _ us hl => match us, hl with | [_, _], _ => rfl⟩
    a_need_seen := ⟨_, _, F7, PySem.W.mg_of X G a7, F7.binds (ps := ["thing"]) fun _ _ _ _ _ _ us hl => match us, hl with | [_], _ => rfl⟩
    a_is_letter := ⟨_, _, F8, PySem.W.mg_of X G a8, F8.binds (ps := ["thing"]) fun _ _ _ _ _ _ us hl => match us, hl with | [_], _ => rfl⟩
    a_is_sign := ⟨_, _, F9, PySem.W.mg_of X G a9, F9.binds (ps := ["thing"]) fun _ _ _ _ _ _ us hl => match us, hl with | [_], _ => rfl⟩
    a_is_rim := ⟨_, _, F10, PySem.W.mg_of X G a10, F10.binds (ps := ["thing"]) fun _ _ _ _ _ _ us hl => match us, hl with | [_], _ => rfl⟩
    a_left_beneath := ⟨_, _, F11, PySem.W.mg_of X G a11, F11.binds (ps := ["seen", "rim"]) fun _ _ _ _ _ _ us hl => match us, hl with | [_, _], _ => rfl⟩
    a_beneath := ⟨_, _, F12, PySem.W.mg_of X G a12, F12.binds (ps := ["seen", "rim"]) fun _ _ _ _ _ _ us hl => match us, hl with | [_, _], _ => rfl⟩
    c_LETTERS := ⟨_, PySem.W.mg_of X G g_LETTERS⟩
    c_NO_MARK := ⟨_, PySem.W.mg_of X G g_NO_MARK⟩
    c_SEEN_SIGNS := ⟨_, PySem.W.mg_of X G g_SEEN_SIGNS⟩
    c_UNSEEN := ⟨_, PySem.W.mg_of X G g_UNSEEN⟩
    n_all := PySem.W.mg_none_of X G z_all
    n_enumerate := PySem.W.mg_none_of X G z_enumerate
    n_isinstance := PySem.W.mg_none_of X G z_isinstance
    n_len := PySem.W.mg_none_of X G z_len
    n_list := PySem.W.mg_none_of X G z_list
    n_min := PySem.W.mg_none_of X G z_min
    n_range := PySem.W.mg_none_of X G z_range
    n_str := PySem.W.mg_none_of X G z_str }
  exact ⟨_, fun s v => .of_eq rfl, fun base _ _ => ok_law F13 TX⟩
theorem walk {l : PySem.W.OpenLaw} {q : Program} {loose : List Str} {XP : (Str → Option Value) → Heap → Prop} {YP : World → Heap → Prop} {d : DefRec} {K : Params → PySem.W.Frag} (hn : l.most = some 63) (hdf : d.params.defaults = [])
    (hY : ∀ (w : World) (h : Heap), YP w h → (K w.params).In h)
    (F : ∀ (w : World) (mg : Str → Option Value) (fa : Addr) (h : Heap), (K w.params).In h → h.Ns mainGlobals mg → mg d.name = some (.ref fa) →
      ∃ fd : FuncData, (∀ (s : Shared) (u : Value), BindsTo s fd ⟨[u], []⟩ [("script", u)]) ∧ ∀ base : Heap, (K w.params).In base → base.Ns mainGlobals mg → FnOk l.prog w (K w.params) mg base CX0 5 fa fd ["script"] (sp_law (K w.params))) :
    PySem.W.WalkO q loose XP YP l.row.toRowW d [] (fun f vs => PySem.call f vs) :=
  L2.walk_of (n := 63) (k := 5) (x := "script") (CX := fun _ => CX0) (sp := fun w => sp_law (K w.params)) hn (by decide) hdf ⟨rfl, by decide, by decide⟩ hY F (fun w H a ns hl hO hS => sp_law_start hl hO hS) fun _ _ _ _ _ z => z
end X

open PySem PySem.W PyProof.Rows in
set_option maxRecDepth 100000 in
set_option maxHeartbeats 0 in
theorem PySem.Challenge.cw_rimprints_k57_what_stands_beneath_holds : PySem.Challenge.rw_rimprints_k57_what_stands_beneath.Holds := by
  w_on; o_law; k_head; (case hw => w_witness2)
  k_fill
  refine X.walk (l := PySem.Challenge.rw_rimprints_k57_what_stands_beneath) rfl rfl (fun w h Y => PySem.W.kIn_of Y) ?F
  case F =>
    intro w mg fa h KX G hmg
    refine' X.all_mk KX G hmg ?a0 ?l0 ?q0 ?k0 ?a1 ?l1 ?q1 ?k1 ?a2 ?l2 ?q2 ?k2 ?a3 ?l3 ?q3 ?k3 ?a4 ?l4 ?q4 ?k4 ?a5 ?l5 ?q5 ?k5 ?a6 ?l6 ?q6 ?k6 ?a7 ?l7 ?q7 ?k7 ?a8 ?l8 ?q8 ?k8 ?a9 ?l9 ?q9 ?k9 ?a10 ?l10 ?q10 ?k10 ?a11 ?l11 ?q11 ?k11 ?a12 ?l12 ?q12 ?k12 ?a13 ?l13 ?q13 ?k13 ?g_LETTERS ?g_NO_MARK ?g_SEEN_SIGNS ?g_UNSEEN ?z_all ?z_enumerate ?z_isinstance ?z_len ?z_list ?z_min ?z_range ?z_str
    (case a0 => k_is)
    (case l0 => k_is)
    (case q0 => k_is)
    (case k0 => k_is)
    (case a1 => k_is)
    (case l1 => k_is)
    (case q1 => k_is)
    (case k1 => k_is)
    (case a2 => k_is)
    (case l2 => k_is)
    (case q2 => k_is)
    (case k2 => k_is)
    (case a3 => k_is)
    (case l3 => k_is)
    (case q3 => k_is)
    (case k3 => k_is)
    (case a4 => k_is)
    (case l4 => k_is)
    (case q4 => k_is)
    (case k4 => k_is)
    (case a5 => k_is)
    (case l5 => k_is)
    (case q5 => k_is)
    (case k5 => k_is)
    (case a6 => k_is)
    (case l6 => k_is)
    (case q6 => k_is)
    (case k6 => k_is)
    (case a7 => k_is)
    (case l7 => k_is)
    (case q7 => k_is)
    (case k7 => k_is)
    (case a8 => k_is)
    (case l8 => k_is)
    (case q8 => k_is)
    (case k8 => k_is)
    (case a9 => k_is)
    (case l9 => k_is)
    (case q9 => k_is)
    (case k9 => k_is)
    (case a10 => k_is)
    (case l10 => k_is)
    (case q10 => k_is)
    (case k10 => k_is)
    (case a11 => k_is)
    (case l11 => k_is)
    (case q11 => k_is)
    (case k11 => k_is)
    (case a12 => k_is)
    (case l12 => k_is)
    (case q12 => k_is)
    (case k12 => k_is)
    (case a13 => k_is)
    (case l13 => k_is)
    (case q13 => k_is)
    (case k13 => k_is)
    (case g_LETTERS => k_is)
    (case g_NO_MARK => k_is)
    (case g_SEEN_SIGNS => k_is)
    (case g_UNSEEN => k_is)
    (case z_all => k_is)
    (case z_enumerate => k_is)
    (case z_isinstance => k_is)
    (case z_len => k_is)
    (case z_list => k_is)
    (case z_min => k_is)
    (case z_range => k_is)
    (case z_str => k_is)
#print axioms PySem.Challenge.cw_rimprints_k57_what_stands_beneath_holds
