import PyProof.Rows.All
import Wide.All
import OpenK.AllK
import Wide.FinOn
import HandS.ForMost
import HandS.SetKeys
import HandS.SetBool
import HandS.Conv
import HandS.Set
import HandS.TupAny
import HandS.TupMul
import HandS.SortInts
import HandS.NoneIn
import HandS.Style
import HandS.Small
import HandS.Walk
import HandS.Zip
import HandS.IsInst
import HandS.DictComp
import KE.SortData
import KE.DataEq
import HandS.More
import PyProof.Transfer
import HandS.Text
import HandS.Strs
import KE.KDictPairs
import KE.GoesMore
import PyProof.EnumMake
import HandS.SetFor
import HandS.MapObj
import KE.KDictZip
import PySem.Challenge.RW_likethings_k78_whole_order_kept
set_option Elab.async false
set_option linter.all false
set_option maxRecDepth 100000
set_option maxHeartbeats 4000000
set_option autoImplicit false
/-! LkSetK: a set of whole numbers and texts whose members are known as a row, in no known sequence. -/
namespace Lk
open PySem PySem.Spec PyProof.Rows
open L2 (Key keyIs keyH mixKind mixKind_is kV V Hp VK Ris RelV HO ObjOk Inv Cx upd SetAt key_scan kV_is)

instance decMemK (k : Key) (ks : List Key) : Decidable (k ∈ ks) := decidable_of_iff (ks.any (fun j => decide (j = k)) = true) (by simp)
/-- the key of a stored member -/
def keyV : Value → Key
  | .int i _ => .inl i
  | .str x _ => .inr x
  | _ => .inl 0
def GoodM (w : World) (m : Int × Value) : Prop := keyIs (keyV m.2) m.2 = true ∧ m.1 = keyH w (keyV m.2)
theorem keyV_of {k : Key} {v : Value} (h : keyIs k v = true) : keyV v = k := by
  rcases L2.keyIs_shape h with ⟨i, t, rfl, rfl⟩ | ⟨x, t, rfl, rfl⟩ <;> rfl
theorem keyIs_scan {k : Key} {v : Value} (h : keyIs k v = true) : v.scannable = true := by
  rcases L2.keyIs_shape h with ⟨i, t, rfl, rfl⟩ | ⟨x, t, rfl, rfl⟩ <;> rfl
/-- the set at a holds the keys ks and no other -/
def SetL (w : World) (h : Heap) (a : Addr) (ks : List Key) : Prop :=
  ∃ o ms ep tb, h.get? a = some o ∧ o.ExactSet ∧ o.data = .set ms ep tb ∧ (∀ m ∈ ms.toList, GoodM w m) ∧ ks.Nodup ∧ (ms.toList.map fun m => keyV m.2).Perm ks ∧
    ms.size < scanBound ∧ tb.fits ms.size = true ∧ Ris tb.place.toList ∧ (w.params.followText "set-order" = true ∨ tb.led = true)
/-- .. with one key more -/
def addK (ks : List Key) (k : Key) : List Key := if k ∈ ks then ks else ks ++ [k]
theorem addK_nodup {ks : List Key} {k : Key} (h : ks.Nodup) : (addK ks k).Nodup := by
  unfold addK
  split
  · exact h
  · rename_i n
    exact List.nodup_append.mpr ⟨h, by simp, fun a ha b hb => by rw [List.mem_singleton.mp hb]; exact fun e => n (e ▸ ha)⟩
section
variable {P : Program} {w : World} {h h' : Heap} {a : Addr} {ks : List Key}
theorem SetL.at (R : SetL w h a ks) (k : ∀ o, h.get? a = some o → h'.get? a = some o) : SetL w h' a ks := by
  obtain ⟨o, ms, ep, tb, ho, rest⟩ := R
  exact ⟨o, ms, ep, tb, k o ho, rest⟩
theorem SetL.len (R : SetL w h a ks) : ks.length < scanBound := by
  obtain ⟨o, ms, ep, tb, ho, hx, hd, g, nd, pm, hb, _⟩ := R
  rw [← pm.length_eq, List.length_map, Array.length_toList]
  exact hb
theorem goodM_elems {l : List (Int × Value)} (g : ∀ m ∈ l, GoodM w m) : ElemsOf (mixKind P w) l := fun m hm => ⟨⟨keyV m.2, (g m hm).1, (g m hm).2⟩, keyIs_scan (g m hm).1⟩
theorem goodM_is {m : Int × Value} (g : GoodM w m) (k : Key) : (mixKind P w).is k m.2 = true ↔ keyV m.2 = k := ⟨fun q => keyV_of q, fun q => q ▸ g.1⟩
theorem goodM_mem {l : List (Int × Value)} (g : ∀ m ∈ l, GoodM w m) (k : Key) : (k ∈ l.map fun m => keyV m.2) ↔ ∃ m ∈ l, (mixKind P w).is k m.2 = true := by
  rw [List.mem_map]
  exact ⟨fun ⟨m, hm, q⟩ => ⟨m, hm, (goodM_is (g m hm) k).2 q⟩, fun ⟨m, hm, q⟩ => ⟨m, hm, (goodM_is (g m hm) k).1 q⟩⟩
theorem SetL.setOf (R : SetL w h a ks) : h.SetOf (mixKind P w) a (fun k => decide (k ∈ ks)) ks.length := by
  obtain ⟨o, ms, ep, tb, ho, hx, hd, g, nd, pm, hb, hf, _⟩ := R
  exact ⟨o, ms, ep, tb, ho, hx, hd, goodM_elems g, fun k => by rw [decide_eq_true_eq, ← pm.mem_iff]; exact goodM_mem g k, hb, hf, by rw [← pm.length_eq, List.length_map, Array.length_toList]⟩
end
section
variable {P : Program} {w : World} {A : Around} {E : Value → Shared → Prop} {s : Shared} {a : Addr} {ks : List Key}
theorem storeM_at {h : Heap} {a : Addr} {o : Obj} {ms ms' : Array (Int × Value)} {ep : Nat} {tb tb' : SetTable} (ho : h.get? a = some o) (hd : o.data = .set ms ep tb) :
    (h.update a (Obj.putSet ms' tb')).get? a = some { o with data := .set ms' (ep + 1) tb' } := by
  have z := Heap.get?_update_self (Obj.putSet ms' tb') ho (by rw [putSet_of ms' tb' hd]; rfl)
  rwa [putSet_of ms' tb' hd] at z
theorem setL_tail {g : Bool → Sem Unit} (hg : ∀ (b : Bool) (s₁ : Shared) (Q' : Unit → Shared → Prop), Q' () s₁ → wpAny (model P w) A (g b) Q' E s₁)
    {o : Obj} {ms : Array (Int × Value)} {ep : Nat} {tb : SetTable} (ho : s.heap.get? a = some o) (hex : o.ExactSet) (hd : o.data = .set ms ep tb)
    {m1 : Array (Int × Value)} {t2 : SetTable} {ks' : List Key} (g1 : ∀ m ∈ m1.toList, GoodM w m) (nd1 : ks'.Nodup) (p1 : (m1.toList.map fun m => keyV m.2).Perm ks')
    (hb1 : m1.size < scanBound) (hf2 : t2.fits m1.size = true) (hr : Ris t2.place.toList) (hl : w.params.followText "set-order" = true ∨ t2.led = true) {dummy : Bool} {R : Option Bool → Shared → Prop}
    (hR : ∀ h', Heap.SameBut a s.heap h' → SetL w h' a ks' → R (some true) { s with heap := h' }) :
    wpAny (model P w) A (do
        storeSet a m1 t2
        if (!dummy && t2.tooFull) = true then do
            g (relayAll t2 m1 (SetTable.grown m1.size)).2.2
            storeSet a (relayAll t2 m1 (SetTable.grown m1.size)).1 (relayAll t2 m1 (SetTable.grown m1.size)).2.1
            pure (some true)
          else pure (some true)) R E s := by
  refine wpAny_bind (wpAny_storeSet_of ho hd ?_ (fits_of_scanBound hb1))
  have k1 := storeM_at (ms' := m1) (tb' := t2) ho hd
  have u1 := Heap.SameBut.update s.heap a (Obj.putSet m1 t2)
  split
  · have pm := relayAll_perm t2 m1 (SetTable.grown m1.size)
    have hf3 := relayAll_fits t2 m1 (SetTable.grown m1.size)
    have hr3 := L2.relayAll_ris t2 m1 (SetTable.grown m1.size)
    have hl3 := L2.relayAll_led t2 m1 (SetTable.grown m1.size)
    generalize relayAll t2 m1 (SetTable.grown m1.size) = Zz at pm hf3 hr3 hl3 ⊢
    obtain ⟨m2, t3, gave⟩ := Zz
    dsimp only at pm hf3 hr3 hl3 ⊢
    have hsz : m2.size = m1.size := by simpa using pm.length_eq
    have hb2 : m2.size < scanBound := hsz ▸ hb1
    refine wpAny_bind (hg _ _ _ (wpAny_bind (wpAny_storeSet_of k1 rfl ?_ (fits_of_scanBound hb2))))
    have k2 := storeM_at (ms' := m2) (tb' := t3) k1 rfl
    exact wpAny_pure (hR _ (u1.trans (Heap.SameBut.update _ a _)) ⟨_, m2, _, t3, k2, hex, rfl, fun m hm => g1 m (pm.mem_iff.mp hm), nd1, (pm.map _).trans p1, hb2, hf3, hr3, hl.imp id fun z => by rw [hl3]; exact z⟩)
  · exact wpAny_pure (hR _ u1 ⟨_, m1, _, t2, k1, hex, rfl, g1, nd1, p1, hb1, hf2, hr, hl⟩)
theorem setL_hashed {k : Key} {u : Value} {Q : Bool → Shared → Prop} (hu : keyIs k u = true) (R : SetL w s.heap a ks) (room : ks.length + 1 < scanBound)
    (hQ : ∀ h', Heap.SameBut a s.heap h' → SetL w h' a (addK ks k) → Q (!decide (k ∈ ks)) { s with heap := h' }) :
    wpAny (model P w) A (setAddHashed a u (keyH w k)) Q E s := by
  obtain ⟨o, ms, ep, tb, ho, hex, hd, g, nd, pm0, hb, hf, hr, hl⟩ := R
  have hkey : (mixKind P w).is k u = true := hu
  have hsc : u.scannable = true := keyIs_scan hu
  have hel : ElemsOf (mixKind P w) ms.toList := goodM_elems g
  unfold setAddHashed setAddHashedIn
  refine wpAny_holding (wpAny_bind (wpAny_setState_of ho hd hf ?_))
  dsimp only
  rw [byScan_of hsc hb hel]
  simp only [↓reduceIte]
  unfold setAddByScan
  refine wpAny_bind (wpAny_bind (wpAny_rule (wpAny_bind (wpAny_setScan_of hkey ho hd hf hel ?_))))
  cases hfi : List.findIdx? (fun m => (mixKind P w).is k m.2) ms.toList with
  | some j =>
    dsimp only
    obtain ⟨hj, pj, _⟩ := List.findIdx?_eq_some_iff_getElem.mp hfi
    have hin : k ∈ ks := pm0.mem_iff.mp ((goodM_mem (P := P) (w := w) g k).2 ⟨ms.toList[j], List.getElem_mem hj, pj⟩)
    have z := hQ s.heap (Heap.SameBut.refl a s.heap) ⟨o, ms, ep, tb, ho, hex, hd, g, addK_nodup nd, by unfold addK; rw [if_pos hin]; exact pm0, hb, hf, hr, hl⟩
    rw [decide_eq_true hin] at z
    exact wpAny_pure (wpAny_pure z)
  | none =>
    dsimp only
    have hnk : (k ∉ ms.toList.map fun m => keyV m.2) := fun z => by
      obtain ⟨m, hm, q⟩ := (goodM_mem (P := P) (w := w) g k).1 z
      rw [List.findIdx?_eq_none_iff.mp hfi m hm] at q
      cases q
    have hni : k ∉ ks := fun z => hnk (pm0.mem_iff.mpr z)
    have hgw : ∀ (b : Bool) {s₁ : Shared} {Q' : Unit → Shared → Prop}, Q' () s₁ → wpAny (model P w) A (match b with | true => rule "set.scan.the-table-gave-way" | false => pure ()) Q' E s₁ := by
      intro b s₁ Q' q
      cases b <;> first | exact wpAny_pure q | exact wpAny_rule q
    have pm := layNew_perm tb ms (keyH w k) u
    have hf1 := layNew_fits tb ms (keyH w k) u
    have hr1 := L2.layNew_ris tb ms (keyH w k) u hr
    have hl1 := L2.layNew_led tb ms (keyH w k) u
    generalize layNew tb ms (keyH w k) u = Zz at pm hf1 hr1 hl1 ⊢
    obtain ⟨m1, t1, dummy, gave⟩ := Zz
    dsimp only at pm hf1 hr1 hl1 ⊢
    rw [Array.toList_push] at pm
    have pc : m1.toList.Perm ((keyH w k, u) :: ms.toList) := pm.trans (List.perm_append_singleton _ _)
    have pk : (m1.toList.map fun m => keyV m.2).Perm (addK ks k) := by
      have z := pc.map fun m : Int × Value => keyV m.2
      rw [List.map_cons, show keyV (keyH w k, u).2 = k from keyV_of hu] at z
      unfold addK
      rw [if_neg hni]
      exact z.trans ((List.Perm.cons k pm0).trans (List.perm_append_singleton _ _).symm)
    have g1 : ∀ m ∈ m1.toList, GoodM w m := fun m hm => by
      rcases List.mem_cons.mp (pc.mem_iff.mp hm) with z | z
      · subst z
        exact ⟨by rw [keyV_of hu]; exact hu, by rw [keyV_of hu]⟩
      · exact g m z
    have nd1 : (addK ks k).Nodup := addK_nodup nd
    have hsz : m1.size = ks.length + 1 := by
      have z := pk.length_eq
      unfold addK at z
      rw [if_neg hni] at z
      simpa using z
    have hb1 : m1.size < scanBound := by rw [hsz]; exact room
    have hled : w.params.followText "set-order" = true ∨ t1.led = true := hl.imp id fun z => by rw [hl1]; exact z
    have fin : ∀ h', Heap.SameBut a s.heap h' → SetL w h' a (addK ks k) → Q true { s with heap := h' } := fun h' sb r => by
      have z := hQ h' sb r
      rw [decide_eq_false hni] at z
      exact z
    refine wpAny_bind (hgw _ ?_)
    split
    · rw [hashByValue_scannable 8 hsc]
      refine wpAny_bind (wpAny_pure ?_)
      refine setL_tail (fun b s₁ Q' q => ?_) ho hex hd g1 nd1 pk hb1 ?_ ?_ ?_ fun h' sb r => ?_
      · cases b <;> first | exact wpAny_pure q | exact wpAny_rule q
      · first | (split <;> first | exact hf1 | exact SetTable.fits_plain_off hf1) | exact hf1
      · first | (split <;> exact hr1) | exact hr1
      · first | (split <;> exact hled) | exact hled
      · dsimp only; exact wpAny_pure (fin h' sb r)
    · refine wpAny_bind (wpAny_pure ?_)
      simp only [↓reduceIte]
      refine setL_tail (fun b s₁ Q' q => ?_) ho hex hd g1 nd1 pk hb1 hf1 hr1 hled fun h' sb r => ?_
      · cases b <;> first | exact wpAny_pure q | exact wpAny_rule q
      · dsimp only; exact wpAny_pure (fin h' sb r)
theorem setL_add {k : Key} {u : Value} {Q : Value → Shared → Prop} (hu : keyIs k u = true) (R : SetL w s.heap a ks) (room : ks.length + 1 < scanBound)
    (hQ : ∀ h', Heap.SameBut a s.heap h' → SetL w h' a (addK ks k) → Q .none { s with heap := h', toks := s.toks + 1 }) :
    wpAny (model P w) A (call (.builtin "set.add") [.ref a, u]) Q E s := by
  have hS : s.heap.SetOf (mixKind P w) a (fun k => decide (k ∈ ks)) ks.length := R.setOf
  refine wpAny_call_entry F.slot_set_add hS.typeIs F.entry_set_add ?_ (F.args_set_add_2 _ _)
  unfold Builtin.«set.add» Builtin.Frozenset.oneOther
  simp only [List.isEmpty_nil, bind_assoc]
  unfold Builtin.Frozenset.addrOf setAdd
  refine wpAny_bind (wpAny_pure ?_)
  try dsimp only
  refine wpAny_bind (wpAny_pure ?_)
  try dsimp only
  refine wpAny_bind (wpAny_holding (wpAny_bind ((mixKind P w).pyHash (k := k) hu (setL_hashed (s := { s with toks := s.toks + 1 }) hu R room fun h' sb r => ?_))))
  show wpAny _ _ (ret Value.none) _ _ _
  exact wpAny_pure ⟨_, rfl, hQ h' sb r⟩
theorem setL_fresh {h : Heap} (w : World) : SetL w (h.push { cls := .type "set", dict := none, data := .set #[] 0 (.fresh 0 0 (!w.params.followText "set-order")) }) h.objs.size [] :=
  ⟨_, #[], 0, _, Heap.get?_push_size _ rfl, ⟨rfl, rfl, rfl⟩, rfl, (fun e he => by simp at he), List.nodup_nil, .nil, by decide, by rfl, List.Pairwise.nil, by
    show _ ∨ (!w.params.followText "set-order") = true
    cases w.params.followText "set-order" <;> simp⟩
/-- the members in some sequence -/
theorem setL_collect {Q : List Value → Shared → Prop} (hh : A.handled = none) (R : SetL w s.heap a ks)
    (hQ : ∀ s' out (ks' : List Key), (∀ b o, s.heap.get? b = some o → s'.heap.get? b = some o) → s.heap.objs.size ≤ s'.heap.objs.size → s'.gens = s.gens → s'.os = s.os → ks'.Perm ks → L2.Vals (ks'.map kV) out → Q out s') :
    wpAny (model P w) A (collect (.ref a)) Q E s := by
  obtain ⟨o, ms, ep, tb, ho, hex, hd, g, nd, pm, hb, hf, hr, hl⟩ := R
  refine L2.collect_set hh ⟨o, ho, hex.1, hd⟩ hf hb hr hl fun s' out k1 k2 k3 k4 po => ?_
  refine hQ s' out (out.map keyV) k1 k2 k3 k4 ?_ ?_
  · have z := po.map keyV
    rw [List.map_map] at z
    exact z.trans pm
  · have all : ∀ v ∈ out, keyIs (keyV v) v = true := fun v hv => by
      obtain ⟨m, hm, q⟩ := List.mem_map.mp (po.mem_iff.mp hv)
      rw [← q]
      exact (g m hm).1
    clear po k1 k2 k3 k4
    induction out with
    | nil => exact .nil
    | cons v vs ih => exact .cons (L2.keyIs_rel (all v List.mem_cons_self)) (ih fun u hu => all u (List.mem_cons_of_mem _ hu))
end
def SetMO (w : World) (a : Addr) (ks : List Key) : HO := .ext fun h => SetL w h a ks
theorem setMO_new {w : World} {P : Program} {H : Hp} {h : Heap} {a : Addr} {ks : List Key} (R : SetL w h a ks) : ObjOk P w H h a (SetMO w a ks) := by
  have ⟨o, _, _, _, ho, _⟩ := R
  exact ⟨R, ⟨o, ho⟩, fun h1 h2 p k => SetL.at p k⟩
section
variable {X : Cx} {pins : List (Addr × Obj)} {σ : L2.St} {H : Hp} {s : Shared}
theorem setMO_get {a : Addr} {ks : List Key} (I : Inv X pins σ H s) (ha : H a = some (SetMO X.w a ks)) : SetL X.w s.heap a ks := (I.hok a _ ha).1
theorem addM_ok {A : Around} {E : Value → Shared → Prop} {D : Addr} {ks : List Key} {k : Key} {u : Value} {Q : Value → Shared → Prop} (I : Inv X pins σ H s) (hu : RelV (kV k) u) (hD : H D = some (SetMO X.w D ks)) (room : ks.length + 1 < scanBound)
    (h : ∀ s', Inv X pins σ (upd H D (SetMO X.w D (addK ks k))) s' → Q .none s') : wpAny (model X.prog X.w) A (call (.builtin "set.add") [.ref D, u]) Q E s := by
  refine setL_add (kV_is (P := X.prog) (w := X.w) hu) (setMO_get I hD) room fun h' sb new => ?_
  obtain ⟨o, _, _, _, ho, _⟩ := id new
  exact h _ (I.write (e := D) (t' := s.toks + 1) (by rw [hD]; trivial) (.inl rfl) (fun b u hb hu => (sb.2 b hb).trans hu) ⟨o, ho⟩ (setMO_new new))
end
end Lk

/-! Lk: plain data over the hand layer. -/
namespace Lk
open PySem PySem.Spec L2

/-- a value with its tuples (and its lists that no one changes) written out -/
inductive Dat where
  | non | bl (b : Bool) | int (i : Int) | str (x : Str) | tup (xs : List Dat) | fl (xs : List Dat) | rd (xs : List Dat) | stp (xs : List Dat) | ref (a : Addr) | ty (n : String)
  deriving Inhabited

/-- an object that may be changed -/
inductive MO where
  | lst (xs : List Dat)
  | dk (kvs : List (Key × Dat))
  | dt (kvs : List (List Key × Dat))
  | ins (C : Addr) (fs : List (Str × Dat))
  | set (w : World) (ks : List Key)
abbrev Mh := Addr → Option MO
def updM (M : Mh) (a : Addr) (o : MO) : Mh := fun b => if b = a then some o else M b
theorem updM_same {M : Mh} {a : Addr} {o : MO} : updM M a o a = some o := by unfold updM; rw [if_pos rfl]
theorem updM_ne {M : Mh} {a b : Addr} {o : MO} (h : b ≠ a) : updM M a o b = M b := by unfold updM; rw [if_neg h]
theorem updM_updM {M : Mh} {a : Addr} {o u : MO} : updM (updM M a o) a u = updM M a u := by
  funext b; unfold updM; split <;> rfl
theorem updM_comm {M : Mh} {a b : Addr} {o u : MO} (h : a ≠ b) : updM (updM M a o) b u = updM (updM M b u) a o := by
  funext c; unfold updM
  by_cases h1 : c = a <;> by_cases h2 : c = b
  · exact absurd (h1.symm.trans h2) h
  · rw [if_neg h2, if_pos h1, if_pos h1]
  · rw [if_pos h2, if_neg h1, if_pos h2]
  · rw [if_neg h2, if_neg h1, if_neg h1, if_neg h2]
def LeM (M0 M : Mh) : Prop := ∀ a o, M0 a = some o → M a = some o
theorem LeM.refl (M : Mh) : LeM M M := fun _ _ h => h
theorem LeM.trans {A B C : Mh} (x : LeM A B) (y : LeM B C) : LeM A C := fun a o h => y a o (x a o h)
theorem LeM.upd {M : Mh} {p : Addr} {o : MO} (h : M p = none) : LeM M (updM M p o) := fun a u e => by
  have n : a ≠ p := fun q => by rw [q, h] at e; cases e
  rw [updM_ne n]; exact e
theorem LeM.updr {M0 M : Mh} {p : Addr} {o : MO} (l : LeM M0 M) (h : M0 p = none) : LeM M0 (updM M p o) := fun a u e => by
  have n : a ≠ p := fun q => by rw [q, h] at e; cases e
  rw [updM_ne n]; exact l a u e
theorem LeM.upd2 {M0 M : Mh} {p : Addr} {o : MO} (l : LeM M0 M) : LeM (updM M0 p o) (updM M p o) := fun a u e => by
  by_cases n : a = p
  · subst n; rw [updM_same] at e ⊢; exact e
  · rw [updM_ne n] at e ⊢; exact l a u e
theorem LeM.none {M0 M : Mh} (l : LeM M0 M) {a : Addr} (h : M a = none) : M0 a = none := by
  cases q : M0 a with
  | none => rfl
  | some o => rw [l a o q] at h; cases h

/-- the written part; places that are there, but that no value here may hold -/
structure KF where
  k : PySem.W.Frag
  fo : Addr → Prop
def KLst (K : PySem.W.Frag) (a : Addr) (xs : List V) : Prop :=
  ∃ (o : Obj) (its : Array Value) (n : Nat), K.lookup a = some o ∧ o.cls = .type "list" ∧ o.dict = none ∧ o.data = .seq its n ∧ its.size ≤ sizeLine ∧ Vals xs its.toList
def KTup (K : PySem.W.Frag) (a : Addr) (xs : List V) : Prop :=
  ∃ (o : Obj) (its : Array Value) (n : Nat), K.lookup a = some o ∧ o.cls = .type "tuple" ∧ o.data = .seq its n ∧ its.size ≤ sizeLine ∧ Vals xs its.toList
/-- a tuple, a list at a that no one changes -/
def FzT (K : KF) (M : Mh) (H : Hp) (a : Addr) (xs : List V) : Prop := (M a = none ∧ ¬ K.fo a ∧ Rd H a (.tup xs)) ∨ KTup K.k a xs
def FzR (K : KF) (M : Mh) (H : Hp) (a : Addr) (xs : List V) : Prop := (M a = none ∧ ¬ K.fo a ∧ Rd H a (.lst xs)) ∨ KLst K.k a xs
def FzL (K : KF) (M : Mh) (H : Hp) (a : Addr) (xs : List V) : Prop := M a = none ∧ ¬ K.fo a ∧ H a = some (.lst xs)
/-- a tuple whose object is known to the letter -/
def FzS (K : KF) (M : Mh) (H : Hp) (a : Addr) (xs : List V) : Prop := M a = none ∧ ¬ K.fo a ∧ ∃ o, o.dict = none ∧ H a = some (.frz o (.tup xs))
theorem FzS.t {K : KF} {M : Mh} {H : Hp} {a : Addr} {xs : List V} (h : FzS K M H a xs) : FzT K M H a xs := .inl ⟨h.1, h.2.1, .inr (h.2.2.imp fun _ z => z.2)⟩
theorem FzT.sq {K : KF} {M : Mh} {H : Hp} {a : Addr} {xs : List V} (h : FzT K M H a xs) : SqT K.k H a xs := h.elim (fun x => .inl x.2.2) .inr
theorem FzR.sq {K : KF} {M : Mh} {H : Hp} {a : Addr} {xs : List V} (h : FzR K M H a xs) : SqL K.k H a xs := h.elim (fun x => .inl x.2.2) .inr
theorem FzL.sq {K : KF} {M : Mh} {H : Hp} {a : Addr} {xs : List V} (h : FzL K M H a xs) : SqL K.k H a xs := .inl (.inl h.2.2)

mutual
inductive Rep (K : KF) (M : Mh) (H : Hp) : Dat → V → Prop
  | non : Rep K M H .non .non
  | bl (b : Bool) : Rep K M H (.bl b) (.bl b)
  | int (i : Int) : Rep K M H (.int i) (.int i)
  | str (x : Str) : Rep K M H (.str x) (.str x)
  | ref (a : Addr) : Rep K M H (.ref a) (.ref a)
  | ty (n : String) : Rep K M H (.ty n) (.ty n)
  | tup {a : Addr} {vs : List V} {ds : List Dat} : FzT K M H a vs → Reps K M H ds vs → Rep K M H (.tup ds) (.ref a)
  | fl {a : Addr} {vs : List V} {ds : List Dat} : FzL K M H a vs → Reps K M H ds vs → Rep K M H (.fl ds) (.ref a)
  | rd {a : Addr} {vs : List V} {ds : List Dat} : FzR K M H a vs → Reps K M H ds vs → Rep K M H (.rd ds) (.ref a)
  | stp {a : Addr} {vs : List V} {ds : List Dat} : FzS K M H a vs → Reps K M H ds vs → Rep K M H (.stp ds) (.ref a)
inductive Reps (K : KF) (M : Mh) (H : Hp) : List Dat → List V → Prop
  | nil : Reps K M H [] []
  | cons {d : Dat} {v : V} {ds : List Dat} {vs : List V} : Rep K M H d v → Reps K M H ds vs → Reps K M H (d :: ds) (v :: vs)
end

/-- what no one may change has stayed -/
def Go (M : Mh) (H : Hp) (M' : Mh) (H' : Hp) : Prop := ∀ a o, M a = none → H a = some o → M' a = none ∧ H' a = some o
theorem Go.refl (M : Mh) (H : Hp) : Go M H M H := fun _ _ a b => ⟨a, b⟩
theorem Go.trans {M M1 M2 : Mh} {H H1 H2 : Hp} (x : Go M H M1 H1) (y : Go M1 H1 M2 H2) : Go M H M2 H2 := fun a o m h => y a o (x a o m h).1 (x a o m h).2
theorem Go.fresh {M : Mh} {H : Hp} {p : Addr} {o : HO} (h : H p = none) : Go M H M (upd H p o) := fun a u m e => by
  refine ⟨m, ?_⟩
  rw [upd_ne (ne_of_none e h)]; exact e
theorem Go.new {M : Mh} {H : Hp} {p : Addr} {o : HO} {mo : MO} (h : H p = none) : Go M H (updM M p mo) (upd H p o) := fun a u m e => by
  have n := ne_of_none e h
  rw [upd_ne n, updM_ne n]; exact ⟨m, e⟩
theorem Go.write {M : Mh} {H : Hp} {p : Addr} {o : HO} {mo mo' : MO} (h : M p = some mo) : Go M H (updM M p mo') (upd H p o) := fun a u m e => by
  have n : a ≠ p := fun q => by rw [q, h] at m; cases m
  rw [upd_ne n, updM_ne n]; exact ⟨m, e⟩
theorem Go.le {M M0 : Mh} {H : Hp} (l : LeM M0 M) : Go M H M0 H := fun a o m e => ⟨l.none m, e⟩

section
variable {K : KF} {M M' M0 : Mh} {H H' : Hp}
theorem FzT.go {a : Addr} {xs : List V} (h : FzT K M H a xs) (g : Go M H M' H') : FzT K M' H' a xs := by
  rcases h with ⟨m, f, h | ⟨o, h⟩⟩ | h
  · exact .inl ⟨(g _ _ m h).1, f, .inl (g _ _ m h).2⟩
  · exact .inl ⟨(g _ _ m h).1, f, .inr ⟨o, (g _ _ m h).2⟩⟩
  · exact .inr h
theorem FzL.go {a : Addr} {xs : List V} (h : FzL K M H a xs) (g : Go M H M' H') : FzL K M' H' a xs := ⟨(g _ _ h.1 h.2.2).1, h.2.1, (g _ _ h.1 h.2.2).2⟩
theorem FzS.go {a : Addr} {xs : List V} (h : FzS K M H a xs) (g : Go M H M' H') : FzS K M' H' a xs := by
  obtain ⟨m, f, o, d, e⟩ := h
  exact ⟨(g _ _ m e).1, f, o, d, (g _ _ m e).2⟩
theorem FzR.go {a : Addr} {xs : List V} (h : FzR K M H a xs) (g : Go M H M' H') : FzR K M' H' a xs := by
  rcases h with ⟨m, f, h | ⟨o, h⟩⟩ | h
  · exact .inl ⟨(g _ _ m h).1, f, .inl (g _ _ m h).2⟩
  · exact .inl ⟨(g _ _ m h).1, f, .inr ⟨o, (g _ _ m h).2⟩⟩
  · exact .inr h
mutual
theorem Rep.go (g : Go M H M' H') : ∀ {d : Dat} {v : V}, Rep K M H d v → Rep K M' H' d v
  | _, _, .non => .non
  | _, _, .bl b => .bl b
  | _, _, .int i => .int i
  | _, _, .str x => .str x
  | _, _, .ref a => .ref a
  | _, _, .ty n => .ty n
  | _, _, .tup f r => .tup (f.go g) (Reps.go g r)
  | _, _, .fl f r => .fl (f.go g) (Reps.go g r)
  | _, _, .rd f r => .rd (f.go g) (Reps.go g r)
  | _, _, .stp f r => .stp (f.go g) (Reps.go g r)
theorem Reps.go (g : Go M H M' H') : ∀ {ds : List Dat} {vs : List V}, Reps K M H ds vs → Reps K M' H' ds vs
  | _, _, .nil => .nil
  | _, _, .cons h t => .cons (Rep.go g h) (Reps.go g t)
end
theorem Reps.length : ∀ {ds : List Dat} {vs : List V}, Reps K M H ds vs → ds.length = vs.length
  | _, _, .nil => rfl
  | _, _, .cons _ t => by simp [Reps.length t]
theorem Reps.get : ∀ {ds : List Dat} {vs : List V} {i : Nat} {d : Dat}, Reps K M H ds vs → ds[i]? = some d → ∃ v, vs[i]? = some v ∧ Rep K M H d v
  | _, _, _, _, .nil, e => by simp at e
  | _, _, 0, _, .cons h _, e => by
    simp only [List.getElem?_cons_zero, Option.some.injEq] at e
    subst e
    exact ⟨_, rfl, h⟩
  | _, _, i + 1, _, .cons _ t, e => by
    simp only [List.getElem?_cons_succ] at e
    obtain ⟨v, h1, h2⟩ := Reps.get t e
    exact ⟨v, by simpa using h1, h2⟩
theorem Reps.get' : ∀ {ds : List Dat} {vs : List V} {i : Nat} {v : V}, Reps K M H ds vs → vs[i]? = some v → ∃ d, ds[i]? = some d ∧ Rep K M H d v
  | _, _, _, _, .nil, e => by simp at e
  | _, _, 0, _, .cons h _, e => by
    simp only [List.getElem?_cons_zero, Option.some.injEq] at e
    subst e
    exact ⟨_, rfl, h⟩
  | _, _, i + 1, _, .cons _ t, e => by
    simp only [List.getElem?_cons_succ] at e
    obtain ⟨v, h1, h2⟩ := Reps.get' t e
    exact ⟨v, by simpa using h1, h2⟩
theorem Reps.append : ∀ {ds es : List Dat} {vs ws : List V}, Reps K M H ds vs → Reps K M H es ws → Reps K M H (ds ++ es) (vs ++ ws)
  | _, _, _, _, .nil, s => s
  | _, _, _, _, .cons h t, s => .cons h (Reps.append t s)
theorem Reps.take : ∀ {ds : List Dat} {vs : List V} (n : Nat), Reps K M H ds vs → Reps K M H (ds.take n) (vs.take n)
  | _, _, 0, _ => .nil
  | _, _, _ + 1, .nil => .nil
  | _, _, n + 1, .cons h t => .cons h (Reps.take n t)
theorem Reps.drop : ∀ {ds : List Dat} {vs : List V} (n : Nat), Reps K M H ds vs → Reps K M H (ds.drop n) (vs.drop n)
  | _, _, 0, r => r
  | _, _, _ + 1, .nil => .nil
  | _, _, n + 1, .cons _ t => Reps.drop n t
theorem Reps.set {d : Dat} {v : V} (h : Rep K M H d v) : ∀ {ds : List Dat} {vs : List V} (n : Nat), Reps K M H ds vs → Reps K M H (ds.set n d) (vs.set n v)
  | _, _, _, .nil => .nil
  | _, _, 0, .cons _ t => .cons h t
  | _, _, n + 1, .cons q t => .cons q (Reps.set h n t)
theorem Reps.reverse : ∀ {ds : List Dat} {vs : List V}, Reps K M H ds vs → Reps K M H ds.reverse vs.reverse
  | _, _, .nil => .nil
  | _, _, .cons h t => by
    rw [List.reverse_cons, List.reverse_cons]
    exact (Reps.reverse t).append (.cons h .nil)
theorem Reps.dropLast {ds : List Dat} {vs : List V} (r : Reps K M H ds vs) : Reps K M H ds.dropLast vs.dropLast := by
  rw [List.dropLast_eq_take, List.dropLast_eq_take, r.length]
  exact r.take _
theorem Reps.ints : ∀ {ns : List Int} {vs : List V}, Reps K M H (ns.map Dat.int) vs → vs = ns.map V.int
  | [], _, .nil => rfl
  | _ :: _, _, .cons (.int _) t => by simp [Reps.ints t]
theorem Reps.strs : ∀ {ns : List Str} {vs : List V}, Reps K M H (ns.map Dat.str) vs → vs = ns.map V.str
  | [], _, .nil => rfl
  | _ :: _, _, .cons (.str _) t => by simp [Reps.strs t]
theorem Reps.bls : ∀ {ns : List Bool} {vs : List V}, Reps K M H (ns.map Dat.bl) vs → vs = ns.map V.bl
  | [], _, .nil => rfl
  | _ :: _, _, .cons (.bl _) t => by simp [Reps.bls t]
theorem Reps.ofInts : ∀ (ns : List Int), Reps K M H (ns.map Dat.int) (ns.map V.int)
  | [] => .nil
  | _ :: t => .cons (.int _) (Reps.ofInts t)
theorem Reps.ofStrs : ∀ (ns : List Str), Reps K M H (ns.map Dat.str) (ns.map V.str)
  | [] => .nil
  | _ :: t => .cons (.str _) (Reps.ofStrs t)
/-- .. where other places may have come that no value may hold -/
def GoF (F F' : Addr → Prop) (M : Mh) (H : Hp) (M' : Mh) (H' : Hp) : Prop := ∀ a o, M a = none → ¬ F a → H a = some o → M' a = none ∧ ¬ F' a ∧ H' a = some o
theorem Go.f {F : Addr → Prop} (g : Go M H M' H') : GoF F F M H M' H' := fun a o m f e => ⟨(g a o m e).1, f, (g a o m e).2⟩
theorem GoF.trans {F F1 F2 : Addr → Prop} {M1 : Mh} {H1 : Hp} (x : GoF F F1 M H M1 H1) (y : GoF F1 F2 M1 H1 M' H') : GoF F F2 M H M' H' := fun a o m f e => y a o (x a o m f e).1 (x a o m f e).2.1 (x a o m f e).2.2
section
variable {k : PySem.W.Frag} {F F' : Addr → Prop}
theorem FzT.move {a : Addr} {xs : List V} (h : FzT ⟨k, F⟩ M H a xs) (g : GoF F F' M H M' H') : FzT ⟨k, F'⟩ M' H' a xs := by
  rcases h with ⟨m, f, h | ⟨o, h⟩⟩ | h
  · exact .inl ⟨(g _ _ m f h).1, (g _ _ m f h).2.1, .inl (g _ _ m f h).2.2⟩
  · exact .inl ⟨(g _ _ m f h).1, (g _ _ m f h).2.1, .inr ⟨o, (g _ _ m f h).2.2⟩⟩
  · exact .inr h
theorem FzS.move {a : Addr} {xs : List V} (h : FzS ⟨k, F⟩ M H a xs) (g : GoF F F' M H M' H') : FzS ⟨k, F'⟩ M' H' a xs := by
  obtain ⟨m, f, o, d, e⟩ := h
  have z := g _ _ m f e
  exact ⟨z.1, z.2.1, o, d, z.2.2⟩
theorem FzR.move {a : Addr} {xs : List V} (h : FzR ⟨k, F⟩ M H a xs) (g : GoF F F' M H M' H') : FzR ⟨k, F'⟩ M' H' a xs := by
  rcases h with ⟨m, f, h | ⟨o, h⟩⟩ | h
  · exact .inl ⟨(g _ _ m f h).1, (g _ _ m f h).2.1, .inl (g _ _ m f h).2.2⟩
  · exact .inl ⟨(g _ _ m f h).1, (g _ _ m f h).2.1, .inr ⟨o, (g _ _ m f h).2.2⟩⟩
  · exact .inr h
theorem FzL.move {a : Addr} {xs : List V} (h : FzL ⟨k, F⟩ M H a xs) (g : GoF F F' M H M' H') : FzL ⟨k, F'⟩ M' H' a xs := g _ _ h.1 h.2.1 h.2.2
mutual
theorem Rep.move (g : GoF F F' M H M' H') : ∀ {d : Dat} {v : V}, Rep ⟨k, F⟩ M H d v → Rep ⟨k, F'⟩ M' H' d v
  | _, _, .non => .non
  | _, _, .bl b => .bl b
  | _, _, .int i => .int i
  | _, _, .str x => .str x
  | _, _, .ref a => .ref a
  | _, _, .ty n => .ty n
  | _, _, .tup f r => .tup (f.move g) (Reps.move g r)
  | _, _, .fl f r => .fl (f.move g) (Reps.move g r)
  | _, _, .rd f r => .rd (f.move g) (Reps.move g r)
  | _, _, .stp f r => .stp (f.move g) (Reps.move g r)
theorem Reps.move (g : GoF F F' M H M' H') : ∀ {ds : List Dat} {vs : List V}, Reps ⟨k, F⟩ M H ds vs → Reps ⟨k, F'⟩ M' H' ds vs
  | _, _, .nil => .nil
  | _, _, .cons h t => .cons (Rep.move g h) (Reps.move g t)
end
end
abbrev RepKV {κ : Type} (K : KF) (M : Mh) (H : Hp) : List (κ × Dat) → List (κ × V) → Prop := Paired fun p q => p.1 = q.1 ∧ Rep K M H p.2 q.2
theorem RepKV.go {κ : Type} (g : Go M H M' H') {ds : List (κ × Dat)} {vs : List (κ × V)} (r : RepKV K M H ds vs) : RepKV K M' H' ds vs :=
  Paired.mapP r fun _ _ z => ⟨z.1, z.2.go g⟩

/-- a changeable object as it stands -/
def MOk (K : KF) (M : Mh) (H : Hp) (a : Addr) : MO → Prop
  | .lst ds => ∃ vs, H a = some (.lst vs) ∧ Reps K M H ds vs
  | .dk ds => ∃ vs, H a = some (.dK vs) ∧ RepKV K M H ds vs
  | .dt ds => ∃ vs, H a = some (.dT vs) ∧ RepKV K M H ds vs
  | .ins C fs => ∃ dx vs, H a = some (.ins C dx vs) ∧ RepKV K M H fs vs
  | .set w ks => H a = some (SetMO w a ks)
/-- .. moved to another heap, where its own place holds o -/
theorem MOk.go {a : Addr} {mo : MO} (g : Go M H M' H') (e : H' a = H a) (h : MOk K M H a mo) : MOk K M' H' a mo := by
  cases mo with
  | lst ds => obtain ⟨vs, h1, h2⟩ := h; exact ⟨vs, e.trans h1, h2.go g⟩
  | dk ds => obtain ⟨vs, h1, h2⟩ := h; exact ⟨vs, e.trans h1, RepKV.go g h2⟩
  | dt ds => obtain ⟨vs, h1, h2⟩ := h; exact ⟨vs, e.trans h1, RepKV.go g h2⟩
  | ins C ds => obtain ⟨dx, vs, h1, h2⟩ := h; exact ⟨dx, vs, e.trans h1, RepKV.go g h2⟩
  | set w ks => exact e.trans h
theorem MOk.some {a : Addr} {mo : MO} (h : MOk K M H a mo) : ∃ o, H a = some o := by
  cases mo with
  | lst ds => obtain ⟨vs, h1, h2⟩ := h; exact ⟨_, h1⟩
  | dk ds => obtain ⟨vs, h1, h2⟩ := h; exact ⟨_, h1⟩
  | dt ds => obtain ⟨vs, h1, h2⟩ := h; exact ⟨_, h1⟩
  | ins C ds => obtain ⟨dx, vs, h1, h2⟩ := h; exact ⟨_, h1⟩
  | set w ks => exact ⟨_, h⟩
structure RelM (K : KF) (M : Mh) (H : Hp) : Prop where
  ob : ∀ a mo, M a = some mo → MOk K M H a mo
  fo : ∀ a, K.fo a → M a = none ∧ ∃ o, H a = some o
theorem RelM.le (r : RelM K M H) (l : LeM M0 M) : RelM K M0 H := ⟨fun a mo e => (r.ob a mo (l a mo e)).go (.le l) rfl, fun a f => ⟨l.none (r.fo a f).1, (r.fo a f).2⟩⟩
theorem RelM.free (r : RelM K M H) {p : Addr} (h : H p = none) : M p = none := by
  cases q : M p with
  | none => rfl
  | some mo =>
    obtain ⟨o, e⟩ := (r.ob p mo q).some
    rw [h] at e; cases e
theorem RelM.nfo (r : RelM K M H) {p : Addr} (h : H p = none) : ¬ K.fo p := fun f => by
  obtain ⟨_, o, e⟩ := r.fo p f
  rw [h] at e; cases e
theorem RelM.foGo (r : RelM K M H) (g : Go M H M' H') : ∀ a, K.fo a → M' a = none ∧ ∃ o, H' a = some o := fun a f => by
  obtain ⟨m, o, e⟩ := r.fo a f
  exact ⟨(g a o m e).1, o, (g a o m e).2⟩
/-- a new object that no one may change -/
theorem RelM.fresh {p : Addr} {o : HO} (r : RelM K M H) (h : H p = none) : RelM K M (upd H p o) := ⟨fun a mo e => by
  obtain ⟨u, hu⟩ := (r.ob a mo e).some
  exact (r.ob a mo e).go (.fresh h) (upd_ne (ne_of_none hu h)), r.foGo (.fresh h)⟩
/-- a new object that may be changed -/
theorem RelM.new {p : Addr} {o : HO} {mo : MO} (r : RelM K M H) (h : H p = none) (k : MOk K (updM M p mo) (upd H p o) p mo) : RelM K (updM M p mo) (upd H p o) := ⟨fun a m e => by
  by_cases q : a = p
  · subst q; rw [updM_same] at e; cases e; exact k
  · rw [updM_ne q] at e
    exact (r.ob a m e).go (.new h) (upd_ne q), r.foGo (.new h)⟩
/-- an object changed -/
theorem RelM.write {p : Addr} {o : HO} {mo mo' : MO} (r : RelM K M H) (h : M p = some mo) (k : MOk K (updM M p mo') (upd H p o) p mo') : RelM K (updM M p mo') (upd H p o) := ⟨fun a m e => by
  by_cases q : a = p
  · subst q; rw [updM_same] at e; cases e; exact k
  · rw [updM_ne q] at e
    exact (r.ob a m e).go (.write h) (upd_ne q), r.foGo (.write h)⟩
end

theorem MOk.move {k : PySem.W.Frag} {F F' : Addr → Prop} {M M' : Mh} {H H' : Hp} {a : Addr} {mo : MO} (g : GoF F F' M H M' H') (e : H' a = H a) (h : MOk ⟨k, F⟩ M H a mo) : MOk ⟨k, F'⟩ M' H' a mo := by
  cases mo with
  | lst ds => obtain ⟨vs, h1, h2⟩ := h; exact ⟨vs, e.trans h1, h2.move g⟩
  | dk ds => obtain ⟨vs, h1, h2⟩ := h; exact ⟨vs, e.trans h1, Paired.mapP h2 fun _ _ z => ⟨z.1, z.2.move g⟩⟩
  | dt ds => obtain ⟨vs, h1, h2⟩ := h; exact ⟨vs, e.trans h1, Paired.mapP h2 fun _ _ z => ⟨z.1, z.2.move g⟩⟩
  | ins C ds => obtain ⟨dx, vs, h1, h2⟩ := h; exact ⟨dx, vs, e.trans h1, Paired.mapP h2 fun _ _ z => ⟨z.1, z.2.move g⟩⟩
  | set w ks => exact e.trans h

/-- the state: the slots, the changeable objects -/
structure DS where
  env : List (Option Dat)
  M : Mh
structure RelS (K : KF) (S : DS) (σ : St) (H : Hp) : Prop where
  len : S.env.length = σ.length
  env : ∀ (i : Nat) (d : Dat), S.env[i]? = some (some d) → ∃ v, σ[i]? = some (some v) ∧ Rep K S.M H d v
  mem : RelM K S.M H
theorem RelS.go {K : KF} {S : DS} {σ : St} {H H' : Hp} {M' : Mh} (r : RelS K S σ H) (g : Go S.M H M' H') (m : RelM K M' H') : RelS K ⟨S.env, M'⟩ σ H' :=
  ⟨r.len, fun i d e => let ⟨v, h1, h2⟩ := r.env i d e; ⟨v, h1, h2.go g⟩, m⟩
/-- one state tells less than another -/
structure LeS (S0 S : DS) : Prop where
  len : S0.env.length = S.env.length
  env : ∀ (i : Nat) (d : Dat), S0.env[i]? = some (some d) → S.env[i]? = some (some d)
  mem : LeM S0.M S.M
theorem RelS.le {K : KF} {S S0 : DS} {σ : St} {H : Hp} (r : RelS K S σ H) (l : LeS S0 S) : RelS K S0 σ H :=
  ⟨l.len.trans r.len, fun i d e => let ⟨v, h1, h2⟩ := r.env i d (l.env i d e); ⟨v, h1, h2.go (.le l.mem)⟩, r.mem.le l.mem⟩
theorem RelS.set {K : KF} {S : DS} {σ : St} {H : Hp} {d : Dat} {v : V} (r : RelS K S σ H) (i : Nat) (h : Rep K S.M H d v) : RelS K ⟨S.env.set i (some d), S.M⟩ (σ.set i (some v)) H := by
  refine ⟨by simp [r.len], fun j e hj => ?_, r.mem⟩
  by_cases q : i = j
  · subst q
    have hl : i < S.env.length := by
      have := (List.getElem?_eq_some_iff.mp hj).1
      simpa using this
    rw [List.getElem?_set_self hl] at hj
    cases hj
    exact ⟨v, by rw [List.getElem?_set_self (by rw [← r.len]; exact hl)], h⟩
  · rw [List.getElem?_set_ne q] at hj
    obtain ⟨u, h1, h2⟩ := r.env j e hj
    exact ⟨u, by rw [List.getElem?_set_ne q]; exact h1, h2⟩
end Lk

namespace Lk
open PySem PySem.Spec L2

abbrev VD := Dat → Mh → Prop
abbrev WE := DS → VD → Prop
abbrev WT := DS → (Bool → Mh → Prop) → Prop
abbrev WA := DS → (List Dat → Mh → Prop) → Prop
abbrev WN := DS → (MO → Mh → Prop) → Prop
def Fin (K : KF) (M : Mh) (H : Hp) (Q : VD) (Qt : VK) : Prop := ∀ v H' d M', Go M H M' H' → RelM K M' H' → Rep K M' H' d v → Q d M' → Qt v H'
def FinT (K : KF) (M : Mh) (H : Hp) (Q : Bool → Mh → Prop) (Qt : Bool → Hp → Prop) : Prop := ∀ b H' M', Go M H M' H' → RelM K M' H' → Q b M' → Qt b H'
def FinA (K : KF) (M : Mh) (H : Hp) (Q : List Dat → Mh → Prop) (Qt : List V → Hp → Prop) : Prop := ∀ vs H' ds M', Go M H M' H' → RelM K M' H' → Reps K M' H' ds vs → Q ds M' → Qt vs H'
def FinN (K : KF) (M : Mh) (H : Hp) (Q : MO → Mh → Prop) (Qt : VK) : Prop := ∀ a H' mo M', Go M H (updM M' a mo) H' → M' a = none → RelM K (updM M' a mo) H' → Q mo M' → Qt (.ref a) H'
def LE (K : PySem.W.Frag) (w : WE) : TE := fun σ H Qt => ∃ Fo S Q, RelS ⟨K, Fo⟩ S σ H ∧ w S Q ∧ Fin ⟨K, Fo⟩ S.M H Q Qt
def LT (K : PySem.W.Frag) (w : WT) : TT := fun σ H Qt => ∃ Fo S Q, RelS ⟨K, Fo⟩ S σ H ∧ w S Q ∧ FinT ⟨K, Fo⟩ S.M H Q Qt
def LA (K : PySem.W.Frag) (w : WA) : TA := fun σ H Qt => ∃ Fo S Q, RelS ⟨K, Fo⟩ S σ H ∧ w S Q ∧ FinA ⟨K, Fo⟩ S.M H Q Qt
def LN (K : PySem.W.Frag) (w : WN) : TE := fun σ H Qt => ∃ Fo S Q, RelS ⟨K, Fo⟩ S σ H ∧ w S Q ∧ FinN ⟨K, Fo⟩ S.M H Q Qt
def DE (X : Cx) (e : Expr) (w : WE) : Prop := PE X e (LE X.K w)
def DT (X : Cx) (e : Expr) (w : WT) : Prop := PT X e (LT X.K w)
def DW (X : Cx) (e : Expr) (w : WT) : Prop := PW X e (LT X.K w)
/-- n: how many -/
def DA (X : Cx) (es : List Expr) (n : Nat) (w : WA) : Prop := PA X es fun σ H Q => LA X.K w σ H fun vs H1 => vs.length = n → Q vs H1
def DN (X : Cx) (e : Expr) (w : WN) : Prop := PE X e (LN X.K w)

section
variable {X : Cx} {K : KF} {M M1 : Mh} {H H1 : Hp}
theorem peWeak {e : Expr} {t t' : TE} (h : PE X e t) (k : ∀ σ H Q, t' σ H Q → t σ H Q) : PE X e t' := ⟨fun pins s σ H Q I q => h.run pins s σ H Q I (k σ H Q q)⟩
theorem ptWeak {e : Expr} {t t' : TT} (h : PT X e t) (k : ∀ σ H Q, t' σ H Q → t σ H Q) : PT X e t' := ⟨fun pins s σ H Q I q => h.run pins s σ H Q I (k σ H Q q)⟩
theorem pwWeak {e : Expr} {t t' : TT} (h : PW X e t) (k : ∀ σ H Q, t' σ H Q → t σ H Q) : PW X e t' := ⟨fun wh pins s σ H Q I q => h.run wh pins s σ H Q I (k σ H Q q)⟩
theorem paWeak {es : List Expr} {t t' : TA} (h : PA X es t) (k : ∀ σ H Q, t' σ H Q → t σ H Q) : PA X es t' := ⟨fun pos pins s σ H Q I q => h.run pos pins s σ H Q I (k σ H Q q)⟩
theorem Fin.go {Q : VD} {Qt : VK} (f : Fin K M H Q Qt) (g : Go M H M1 H1) : Fin K M1 H1 Q Qt := fun v H' d M' g' => f v H' d M' (g.trans g')
theorem FinT.go {Q : Bool → Mh → Prop} {Qt : Bool → Hp → Prop} (f : FinT K M H Q Qt) (g : Go M H M1 H1) : FinT K M1 H1 Q Qt := fun v H' M' g' => f v H' M' (g.trans g')
theorem FinA.go {Q : List Dat → Mh → Prop} {Qt : List V → Hp → Prop} (f : FinA K M H Q Qt) (g : Go M H M1 H1) : FinA K M1 H1 Q Qt := fun v H' d M' g' => f v H' d M' (g.trans g')
theorem FinN.go {Q : MO → Mh → Prop} {Qt : VK} (f : FinN K M H Q Qt) (g : Go M H M1 H1) : FinN K M1 H1 Q Qt := fun v H' d M' g' => f v H' d M' (g.trans g')
theorem Fin.here {Q : VD} {Qt : VK} {d : Dat} {v : V} (f : Fin K M H Q Qt) (m : RelM K M H) (r : Rep K M H d v) (q : Q d M) : Qt v H := f v H d M (.refl M H) m r q
theorem RelM.of (m : RelM K M H) {a : Addr} {mo : MO} (h : M a = some mo) : MOk K M H a mo := m.ob a mo h
/-- a new tuple -/
theorem Fin.tup {Q : VD} {Qt : VK} {ds : List Dat} {vs : List V} {p : Addr} (f : Fin K M H Q Qt) (m : RelM K M H) (r : Reps K M H ds vs) (hp : H p = none) (q : Q (.tup ds) M) : Qt (.ref p) (upd H p (.tup vs)) :=
  f _ _ (.tup ds) M (.fresh hp) (m.fresh hp) (.tup (.inl ⟨m.free hp, m.nfo hp, .inl upd_same⟩) (r.go (.fresh hp))) q
/-- a new list -/
theorem FinN.lst {Q : MO → Mh → Prop} {Qt : VK} {ds : List Dat} {vs : List V} {p : Addr} (f : FinN K M H Q Qt) (m : RelM K M H) (r : Reps K M H ds vs) (hp : H p = none) (q : Q (.lst ds) M) : Qt (.ref p) (upd H p (.lst vs)) :=
  f p _ (.lst ds) M (.new hp) (m.free hp) (m.new hp ⟨vs, upd_same, r.go (.new hp)⟩) q
/-- a new list that no one changes is a value -/
theorem FinN.fz {Q : MO → Mh → Prop} {Qt : VK} {Q' : VD} (f : Fin K M H Q' Qt) (h : ∀ mo M', Q mo M' → ∃ ds, mo = .lst ds ∧ Q' (.fl ds) M') : FinN K M H Q Qt := fun a H' mo M' g n m q => by
  obtain ⟨ds, rfl, q2⟩ := h mo M' q
  have l : LeM M' (updM M' a (.lst ds)) := .upd n
  obtain ⟨vs, h1, h2⟩ : MOk K (updM M' a (.lst ds)) H' a (.lst ds) := m.ob a _ updM_same
  have nf : ¬ K.fo a := fun f => by
    have z := (m.fo a f).1
    rw [updM_same] at z; cases z
  exact f _ H' (.fl ds) M' (g.trans (.le l)) (m.le l) (.fl ⟨n, nf, h1⟩ (h2.go (.le l))) q2
end

/-! ### value rules -/
abbrev F2 := Dat → Dat → Mh → VD → Prop
def Ok2 (K : PySem.W.Frag) (r : R2) (f : F2) : Prop := ∀ (Fo : Addr → Prop) (x y : Dat) (vx vy : V) (M : Mh) (H : Hp) (Q : VD) (Qt : VK), RelM ⟨K, Fo⟩ M H → Rep ⟨K, Fo⟩ M H x vx → Rep ⟨K, Fo⟩ M H y vy → f x y M Q → Fin ⟨K, Fo⟩ M H Q Qt → r vx vy H Qt
def Ok2N (K : PySem.W.Frag) (r : R2) (f : Dat → Dat → Mh → (MO → Mh → Prop) → Prop) : Prop := ∀ (Fo : Addr → Prop) (x y : Dat) (vx vy : V) (M : Mh) (H : Hp) (Q : MO → Mh → Prop) (Qt : VK), RelM ⟨K, Fo⟩ M H → Rep ⟨K, Fo⟩ M H x vx → Rep ⟨K, Fo⟩ M H y vy → f x y M Q → FinN ⟨K, Fo⟩ M H Q Qt → r vx vy H Qt
abbrev FL := List Dat → Mh → VD → Prop
def OkL (K : PySem.W.Frag) (r : List V → Hp → VK → Prop) (f : FL) : Prop := ∀ (Fo : Addr → Prop) (xs : List Dat) (vs : List V) (M : Mh) (H : Hp) (Q : VD) (Qt : VK), RelM ⟨K, Fo⟩ M H → Reps ⟨K, Fo⟩ M H xs vs → f xs M Q → Fin ⟨K, Fo⟩ M H Q Qt → r vs H Qt
abbrev FLN := List Dat → Mh → (MO → Mh → Prop) → Prop
def OkLN (K : PySem.W.Frag) (r : List V → Hp → VK → Prop) (f : FLN) : Prop := ∀ (Fo : Addr → Prop) (xs : List Dat) (vs : List V) (M : Mh) (H : Hp) (Q : MO → Mh → Prop) (Qt : VK), RelM ⟨K, Fo⟩ M H → Reps ⟨K, Fo⟩ M H xs vs → f xs M Q → FinN ⟨K, Fo⟩ M H Q Qt → r vs H Qt

def wBin (f : F2) (wa wb : WE) : WE := fun S Q => wa S fun x M1 => wb ⟨S.env, M1⟩ fun y M2 => f x y M2 Q
def wBinN (f : Dat → Dat → Mh → (MO → Mh → Prop) → Prop) (wa wb : WE) : WN := fun S Q => wa S fun x M1 => wb ⟨S.env, M1⟩ fun y M2 => f x y M2 Q
theorem le_bin {K : PySem.W.Frag} {r : R2} {f : F2} {wa wb : WE} {σ : L2.St} {H : Hp} {Qt : VK} (ok : Ok2 K r f) (h : LE K (wBin f wa wb) σ H Qt) : tOp r (LE K wa) (LE K wb) σ H Qt := by
  obtain ⟨Fo, S, Q, rs, h, k⟩ := h
  exact ⟨Fo, S, _, rs, h, fun v1 H1 d1 M1 g1 m1 r1 q1 => ⟨Fo, ⟨S.env, M1⟩, _, rs.go g1 m1, q1, fun v2 H2 d2 M2 g2 m2 r2 q2 => ok _ _ _ _ _ _ _ _ _ m2 (r1.go g2) r2 q2 (k.go (g1.trans g2))⟩⟩
theorem ln_bin {K : PySem.W.Frag} {r : R2} {f : Dat → Dat → Mh → (MO → Mh → Prop) → Prop} {wa wb : WE} {σ : L2.St} {H : Hp} {Qt : VK} (ok : Ok2N K r f) (h : LN K (wBinN f wa wb) σ H Qt) : tOp r (LE K wa) (LE K wb) σ H Qt := by
  obtain ⟨Fo, S, Q, rs, h, k⟩ := h
  exact ⟨Fo, S, _, rs, h, fun v1 H1 d1 M1 g1 m1 r1 q1 => ⟨Fo, ⟨S.env, M1⟩, _, rs.go g1 m1, q1, fun v2 H2 d2 M2 g2 m2 r2 q2 => ok _ _ _ _ _ _ _ _ _ m2 (r1.go g2) r2 q2 (k.go (g1.trans g2))⟩⟩
def wUn (f : Dat → Mh → VD → Prop) (wa : WE) : WE := fun S Q => wa S fun x M1 => f x M1 Q
def wUnN (f : Dat → Mh → (MO → Mh → Prop) → Prop) (wa : WE) : WN := fun S Q => wa S fun x M1 => f x M1 Q

section
variable {X : Cx} {e a b c : Expr} {es rest : List Expr} {wa wb wc : WE} {wt wu : WT} {ws : WA} {pos : Pos}

/-! ### names, constants -/
def wVar (i : Nat) : WE := fun S Q => match S.env[i]? with
  | some (some d) => Q d S.M
  | _ => False
theorem de_var {i : Nat} (h : PE X e (tVar i)) : DE X e (wVar i) := peWeak h fun σ H Qt ⟨Fo, S, Q, rs, h, k⟩ => by
  unfold wVar at h
  split at h
  · rename_i d hd
    obtain ⟨v, h1, h2⟩ := rs.env i d hd
    exact ⟨v, h1, k.here rs.mem h2 h⟩
  · exact h.elim
def wC (d : Dat) : WE := fun S Q => Q d S.M
theorem de_c {v : V} {d : Dat} (h : PE X e (tC v)) (r : ∀ Fo M H, Rep ⟨X.K, Fo⟩ M H d v) : DE X e (wC d) := peWeak h fun σ H Qt ⟨Fo, S, Q, rs, h, k⟩ => k.here rs.mem (r _ _ _) h
theorem de_int {i : Int} {j : Nat} : DE X (.Constant (.int i) j pos) (wC (.int i)) := de_c pe_int fun _ _ _ => .int i
theorem de_str {x : Str} {j : Nat} : DE X (.Constant (.str x) j pos) (wC (.str x)) := de_c pe_str fun _ _ _ => .str x
theorem de_bl {x : Bool} {j : Nat} : DE X (.Constant (.bool x) j pos) (wC (.bl x)) := de_c pe_bl fun _ _ _ => .bl x
theorem de_non {j : Nat} : DE X (.Constant .none j pos) (wC .non) := de_c pe_non fun _ _ _ => .non
/-- a new list as a value -/
def wFz (w : WN) : WE := fun S Q => w S fun mo M => ∃ ds, mo = .lst ds ∧ Q (.fl ds) M
theorem de_fz {w : WN} (h : DN X e w) : DE X e (wFz w) := peWeak h fun σ H Qt ⟨Fo, S, Q, rs, h, k⟩ => ⟨Fo, S, _, rs, h, .fz k fun _ _ q => q⟩

/-! ### what is known of a tuple's object, forgotten -/
def weak : Dat → Dat
  | .stp xs => .tup xs
  | d => d
theorem Rep.weak {K : KF} {M : Mh} {H : Hp} {d : Dat} {v : V} (r : Rep K M H d v) : Rep K M H (weak d) v := by
  cases r with
  | stp f rr => exact .tup f.t rr
  | non => exact .non
  | bl b => exact .bl b
  | int i => exact .int i
  | str x => exact .str x
  | ref a => exact .ref a
  | ty n => exact .ty n
  | tup f rr => exact .tup f rr
  | fl f rr => exact .fl f rr
  | rd f rr => exact .rd f rr
def wWeak (w : WE) : WE := fun S Q => w S fun d M => Q (weak d) M
theorem de_weak (h : DE X e wa) : DE X e (wWeak wa) := peWeak h fun σ H Qt ⟨Fo, S, Q, rs, h, k⟩ => ⟨Fo, S, _, rs, h, fun v H' d M' g m r q => k v H' (Lk.weak d) M' g m r.weak q⟩

/-! ### operators -/
theorem de_op {op : Operator} {r : R2} {f : F2} (ho : OpR X (binaryOp op) r) (ok : Ok2 X.K r f) (ha : DE X a wa) (hb : DE X b wb) : DE X (.BinOp a op b pos) (wBin f wa wb) := peWeak (pe_op ho ha hb) fun _ _ _ h => le_bin ok h
theorem dn_op {op : Operator} {r : R2} {f : Dat → Dat → Mh → (MO → Mh → Prop) → Prop} (ho : OpR X (binaryOp op) r) (ok : Ok2N X.K r f) (ha : DE X a wa) (hb : DE X b wb) : DN X (.BinOp a op b pos) (wBinN f wa wb) := peWeak (pe_op ho ha hb) fun _ _ _ h => ln_bin ok h
theorem de_cmp {op : CmpOp} {r : R2} {f : F2} (ho : OpR X (compareOp op) r) (ok : Ok2 X.K r f) (ha : DE X a wa) (hb : DE X b wb) (hm : behindInMarks op b = false) : DE X (.Compare a [op] [b] pos) (wBin f wa wb) := peWeak (pe_cmpR ho ha hb hm) fun _ _ _ h => le_bin ok h
/-- a value that is a truth value -/
def onB (d : Dat) (k : Bool → Prop) : Prop := match d with
  | .bl b => k b
  | _ => False
def wTest (w : WE) : WT := fun S Q => w S fun d M => onB d fun b => Q b M
theorem onB_bl {K : KF} {M : Mh} {H : Hp} {d : Dat} {v : V} {k : Bool → Prop} (r : Rep K M H d v) (h : onB d k) : ∃ b, v = .bl b ∧ k b := by
  cases r with
  | bl b => exact ⟨b, rfl, h⟩
  | _ => exact False.elim h
theorem le_test {K : PySem.W.Frag} {w : WE} {σ : L2.St} {H : Hp} {Qt : Bool → Hp → Prop} (h : LT K (wTest w) σ H Qt) : tTest (LE K w) σ H Qt := by
  obtain ⟨Fo, S, Q, rs, h, k⟩ := h
  refine ⟨Fo, S, _, rs, h, fun v H' d M' g m r q => ?_⟩
  obtain ⟨b, rfl, q⟩ := onB_bl r q
  exact ⟨b, rfl, k b H' M' g m q⟩
theorem dt_cmp {op : CmpOp} {r : R2} {f : F2} (ho : OpR X (compareOp op) r) (ok : Ok2 X.K r f) (ha : DE X a wa) (hb : DE X b wb) (hm : behindInMarks op b = false) : DT X (.Compare a [op] [b] pos) (wTest (wBin f wa wb)) := by
  refine ptWeak (pt_cmpR ho ha hb hm) fun σ H Qt h => ?_
  obtain ⟨Fo, S, Q, rs, h, k⟩ := h
  refine le_bin ok ⟨Fo, S, _, rs, h, fun v H' d M' g m r q => ?_⟩
  obtain ⟨b, rfl, q⟩ := onB_bl r q
  exact ⟨b, rfl, k b H' M' g m q⟩
/-- a op b op' c -/
def wChain (f f' : F2) (wa wb wc : WE) : WE := fun S Q => wa S fun x M1 => wb ⟨S.env, M1⟩ fun y M2 => f x y M2 fun z M3 => onB z fun k => if k = true then wc ⟨S.env, M3⟩ fun u M4 => f' y u M4 Q else Q (.bl false) M3
theorem le_chain {K : PySem.W.Frag} {r r' : R2} {f f' : F2} {σ : L2.St} {H : Hp} {Qt : VK} (ok : Ok2 K r f) (ok' : Ok2 K r' f') (h : LE K (wChain f f' wa wb wc) σ H Qt) : tChain r r' (LE K wa) (LE K wb) (LE K wc) σ H Qt := by
  obtain ⟨Fo, S, Q, rs, h, k⟩ := h
  refine ⟨Fo, S, _, rs, h, fun v1 H1 d1 M1 g1 m1 r1 q1 => ⟨Fo, ⟨S.env, M1⟩, _, rs.go g1 m1, q1, fun v2 H2 d2 M2 g2 m2 r2 q2 => ok _ _ _ _ _ _ _ _ _ m2 (r1.go g2) r2 q2 fun v3 H3 d3 M3 g3 m3 r3 q3 => ?_⟩⟩
  obtain ⟨bb, rfl, q3⟩ := onB_bl r3 q3
  refine ⟨bb, rfl, ?_⟩
  cases bb with
  | true =>
    rw [if_pos rfl] at q3 ⊢
    exact ⟨Fo, ⟨S.env, M3⟩, _, rs.go (g1.trans (g2.trans g3)) m3, q3, fun v4 H4 d4 M4 g4 m4 r4 q4 => ok' _ _ _ _ _ _ _ _ _ m4 (r2.go (g3.trans g4)) r4 q4 (k.go (g1.trans (g2.trans (g3.trans g4))))⟩
  | false =>
    rw [if_neg Bool.false_ne_true] at q3 ⊢
    exact k _ _ (.bl false) M3 (g1.trans (g2.trans g3)) m3 (.bl false) q3
theorem de_chain {op op' : CmpOp} {r r' : R2} {f f' : F2} (ho : OpR X (compareOp op) r) (ho' : OpR X (compareOp op') r') (ok : Ok2 X.K r f) (ok' : Ok2 X.K r' f') (ha : DE X a wa) (hb : DE X b wb) (hc : DE X c wc)
    (hm : lastMarks [op, op'] [b, c] = false := by with_unfolding_all rfl) : DE X (.Compare a [op, op'] [b, c] pos) (wChain f f' wa wb wc) := peWeak (pe_chain ho ho' ha hb hc hm) fun _ _ _ h => le_chain ok ok' h
theorem dt_chain {op op' : CmpOp} {r r' : R2} {f f' : F2} (ho : OpR X (compareOp op) r) (ho' : OpR X (compareOp op') r') (ok : Ok2 X.K r f) (ok' : Ok2 X.K r' f') (ha : DE X a wa) (hb : DE X b wb) (hc : DE X c wc)
    (hm : lastMarks [op, op'] [b, c] = false := by with_unfolding_all rfl) : DT X (.Compare a [op, op'] [b, c] pos) (wTest (wChain f f' wa wb wc)) := by
  refine ptWeak (pt_chain ho ho' ha hb hc hm) fun σ H Qt h => ?_
  obtain ⟨Fo, S, Q, rs, h, k⟩ := h
  refine le_chain ok ok' ⟨Fo, S, _, rs, h, fun v H' d M' g m r q => ?_⟩
  obtain ⟨b, rfl, q⟩ := onB_bl r q
  exact ⟨b, rfl, k b H' M' g m q⟩
/-- a value as a test (a name, a call ..) -/
theorem dt_val (ha : DE X a wa) (he : ∀ whole, isTrue a X.env whole = (do let v ← whole; standAt a.pos; holding [v] (truthy v)) := by intro _; rfl) : DT X a (wTest wa) := by
  refine ptWeak (pt_val ha he) fun σ H Qt h => ?_
  obtain ⟨Fo, S, Q, rs, h, k⟩ := h
  refine ⟨Fo, S, _, rs, h, fun v H' d M' g m r q => ?_⟩
  obtain ⟨b, rfl, q⟩ := onB_bl r q
  exact ⟨b, rfl, k b H' M' g m q⟩
def wNotT (w : WT) : WT := fun S Q => w S fun b M => Q (!b) M
theorem dt_not (h : DT X a wt) : DT X (.UnaryOp .Not a pos) (wNotT wt) := ptWeak (pt_not h) fun σ H Qt ⟨Fo, S, Q, rs, h, k⟩ => ⟨Fo, S, _, rs, h, fun b H' M' g m q => k _ H' M' g m q⟩
def wAndT (t u : WT) : WT := fun S Q => t S fun b M => if b = true then u ⟨S.env, M⟩ Q else Q false M
def wOrT (t u : WT) : WT := fun S Q => t S fun b M => if b = true then Q true M else u ⟨S.env, M⟩ Q
theorem dw_and1 (ha : DT X a wt) : DW X (.BoolOp .And [a] pos) wt := pw_and1 ha
theorem dw_or1 (ha : DT X a wt) : DW X (.BoolOp .Or [a] pos) wt := pw_or1 ha
theorem dw_and (ha : DT X a wt) (hb : DW X (.BoolOp .And (b :: rest) pos) wu) : DW X (.BoolOp .And (a :: b :: rest) pos) (wAndT wt wu) := pwWeak (pw_and ha hb) fun σ H Qt ⟨Fo, S, Q, rs, h, k⟩ => ⟨Fo, S, _, rs, h, fun b H' M' g m q => by
  cases b with
  | true =>
    rw [if_pos rfl] at q ⊢
    exact ⟨Fo, ⟨S.env, M'⟩, Q, rs.go g m, q, k.go g⟩
  | false =>
    rw [if_neg Bool.false_ne_true] at q ⊢
    exact k _ H' M' g m q⟩
theorem dw_or (ha : DT X a wt) (hb : DW X (.BoolOp .Or (b :: rest) pos) wu) : DW X (.BoolOp .Or (a :: b :: rest) pos) (wOrT wt wu) := pwWeak (pw_or ha hb) fun σ H Qt ⟨Fo, S, Q, rs, h, k⟩ => ⟨Fo, S, _, rs, h, fun b H' M' g m q => by
  cases b with
  | false =>
    rw [if_neg Bool.false_ne_true] at q ⊢
    exact ⟨Fo, ⟨S.env, M'⟩, Q, rs.go g m, q, k.go g⟩
  | true =>
    rw [if_pos rfl] at q ⊢
    exact k _ H' M' g m q⟩
theorem dt_w (h : DW X a wt) : DT X a wt := PW.pt h
/-- as values -/
def wNotV (w : WE) : WE := fun S Q => w S fun d M => onB d fun b => Q (.bl (!b)) M
def wAndV (t u : WE) : WE := fun S Q => t S fun d M => onB d fun b => if b = true then u ⟨S.env, M⟩ Q else Q (.bl false) M
def wOrV (t u : WE) : WE := fun S Q => t S fun d M => onB d fun b => if b = true then Q (.bl true) M else u ⟨S.env, M⟩ Q
theorem de_one {op : BoolOp} (h : DE X a wa) : DE X (.BoolOp op [a] pos) wa := pe_one h
theorem de_not (h : DE X a wa) : DE X (.UnaryOp .Not a pos) (wNotV wa) := peWeak (pe_not h) fun σ H Qt ⟨Fo, S, Q, rs, h, k⟩ => ⟨Fo, S, _, rs, h, fun v H' d M' g m r q => by
  obtain ⟨b, rfl, q⟩ := onB_bl r q
  exact ⟨b, rfl, k _ H' _ M' g m (.bl _) q⟩⟩
theorem de_and (ha : DE X a wa) (hb : DE X (.BoolOp .And (b :: rest) pos) wb) : DE X (.BoolOp .And (a :: b :: rest) pos) (wAndV wa wb) := peWeak (pe_and ha hb) fun σ H Qt ⟨Fo, S, Q, rs, h, k⟩ => ⟨Fo, S, _, rs, h, fun v H' d M' g m r q => by
  obtain ⟨b, rfl, q⟩ := onB_bl r q
  refine ⟨b, rfl, ?_⟩
  cases b with
  | true =>
    rw [if_pos rfl] at q ⊢
    exact ⟨Fo, ⟨S.env, M'⟩, Q, rs.go g m, q, k.go g⟩
  | false =>
    rw [if_neg Bool.false_ne_true] at q ⊢
    exact k _ H' _ M' g m (.bl _) q⟩
theorem de_or (ha : DE X a wa) (hb : DE X (.BoolOp .Or (b :: rest) pos) wb) : DE X (.BoolOp .Or (a :: b :: rest) pos) (wOrV wa wb) := peWeak (pe_or ha hb) fun σ H Qt ⟨Fo, S, Q, rs, h, k⟩ => ⟨Fo, S, _, rs, h, fun v H' d M' g m r q => by
  obtain ⟨b, rfl, q⟩ := onB_bl r q
  refine ⟨b, rfl, ?_⟩
  cases b with
  | false =>
    rw [if_neg Bool.false_ne_true] at q ⊢
    exact ⟨Fo, ⟨S.env, M'⟩, Q, rs.go g m, q, k.go g⟩
  | true =>
    rw [if_pos rfl] at q ⊢
    exact k _ H' _ M' g m (.bl _) q⟩
def wIte (t : WT) (wa wb : WE) : WE := fun S Q => t S fun b M => if b = true then wa ⟨S.env, M⟩ Q else wb ⟨S.env, M⟩ Q
theorem de_ite (ht : DT X c wt) (ha : DE X a wa) (hb : DE X b wb) : DE X (.IfExp c a b pos) (wIte wt wa wb) := peWeak (pe_ifExp ht ha hb) fun σ H Qt ⟨Fo, S, Q, rs, h, k⟩ => ⟨Fo, S, _, rs, h, fun b H' M' g m q => by
  cases b with
  | true =>
    rw [if_pos rfl] at q ⊢
    exact ⟨Fo, ⟨S.env, M'⟩, Q, rs.go g m, q, k.go g⟩
  | false =>
    rw [if_neg Bool.false_ne_true] at q ⊢
    exact ⟨Fo, ⟨S.env, M'⟩, Q, rs.go g m, q, k.go g⟩⟩

/-! ### arguments, displays -/
def wNil : WA := fun S Q => Q [] S.M
def wCons (wa : WE) (ws : WA) : WA := fun S Q => wa S fun x M1 => ws ⟨S.env, M1⟩ fun xs M2 => Q (x :: xs) M2
theorem da_nil : DA X [] 0 wNil := paWeak pa_nil fun σ H Qt ⟨Fo, S, Q, rs, h, k⟩ => k _ H [] S.M (.refl _ _) rs.mem .nil h rfl
theorem da_cons {n : Nat} (ha : DE X e wa) (hr : DA X es n ws) (hs : starEach (e :: es) X.env = (false, eval e X.env) :: starEach es X.env := by rfl) : DA X (e :: es) (n + 1) (wCons wa ws) :=
  paWeak (pa_cons ha hr hs) fun σ H Qt ⟨Fo, S, Q, rs, h, k⟩ => ⟨Fo, S, _, rs, h, fun v1 H1 d1 M1 g1 m1 r1 q1 => ⟨Fo, ⟨S.env, M1⟩, _, rs.go g1 m1, q1, fun v2 H2 d2 M2 g2 m2 r2 q2 hn => k _ H2 (d1 :: d2) M2 (g1.trans g2) m2 (.cons (r1.go g2) r2) q2 (by simp [hn])⟩⟩
theorem DA.pa {n : Nat} (h : DA X es n ws) : PA X es (LA X.K ws) := paWeak h fun σ H Qt ⟨Fo, S, Q, rs, h, k⟩ => ⟨Fo, S, Q, rs, h, fun v H' d M' g m r q _ => k v H' d M' g m r q⟩
def wTup (ws : WA) : WE := fun S Q => ws S fun ds M => Q (.tup ds) M
def wLst (ws : WA) : WN := fun S Q => ws S fun ds M => Q (.lst ds) M
theorem de_tup {n k : Nat} (h : DA X es n ws) (hl : n ≤ 1000 := by decide) : DE X (.Tuple es k pos) (wTup ws) := peWeak (pe_tup h) fun σ H Qt ⟨Fo, S, Q, rs, h, k⟩ => ⟨Fo, S, _, rs, h, fun vs H' ds M' g m r q hn => ⟨by rw [hn]; exact Nat.le_of_lt (small1000 hl), fun p hp => Fin.tup (k.go g) m r hp q⟩⟩
theorem dn_lst {n : Nat} (h : DA X es n ws) (hl : n ≤ 1000 := by decide) : DN X (.List es pos) (wLst ws) := peWeak (pe_lst h) fun σ H Qt ⟨Fo, S, Q, rs, h, k⟩ => ⟨Fo, S, _, rs, h, fun vs H' ds M' g m r q hn => ⟨by rw [hn]; exact Nat.le_of_lt (small1000 hl), fun p hp => FinN.lst (k.go g) m r hp q⟩⟩
end
end Lk

namespace Lk
open PySem PySem.Spec L2

/-! ### data as PyData, == -/
mutual
def toPy : Dat → PyData
  | .non => .none
  | .bl b => .bool b
  | .int i => .int i
  | .str x => .str x
  | .tup xs => .tuple (toPys xs)
  | .fl xs => .list (toPys xs)
  | .rd xs => .list (toPys xs)
  | .stp xs => .tuple (toPys xs)
  | .ref _ => .dict []
  | .ty _ => .dict []
def toPys : List Dat → List PyData
  | [] => []
  | x :: xs => toPy x :: toPys xs
end
mutual
theorem Rep.dp {K : KF} {M : Mh} {H : Hp} : ∀ {d : Dat} {v : V}, Rep K M H d v → (toPy d).canLay0 = true → Dp K.k H v (toPy d)
  | _, _, .non, _ => .non
  | _, _, .bl b, _ => .bl b
  | _, _, .int i, _ => .int i
  | _, _, .str x, _ => .str x
  | _, _, .ref a, h => by simp [toPy, PyData.canLay0] at h
  | _, _, .ty n, h => by simp [toPy, PyData.canLay0] at h
  | _, _, .tup f r, h => by
    rw [toPy] at h ⊢
    exact .tup f.sq (Reps.dp r (by simpa [PyData.canLay0] using h))
  | _, _, .fl f r, h => by
    rw [toPy] at h ⊢
    exact .lst f.sq (Reps.dp r (by simpa [PyData.canLay0] using h))
  | _, _, .rd f r, h => by
    rw [toPy] at h ⊢
    exact .lst f.sq (Reps.dp r (by simpa [PyData.canLay0] using h))
  | _, _, .stp f r, h => by
    rw [toPy] at h ⊢
    exact .tup f.t.sq (Reps.dp r (by simpa [PyData.canLay0] using h))
theorem Reps.dp {K : KF} {M : Mh} {H : Hp} : ∀ {ds : List Dat} {vs : List V}, Reps K M H ds vs → PyData.canLayAll0 (toPys ds) = true → DpAll K.k H vs (toPys ds)
  | _, _, .nil, _ => by rw [toPys]; exact .nil
  | d :: ds, _, .cons h t, e => by
    rw [toPys] at e ⊢
    have e' : (toPy d).canLay0 = true ∧ PyData.canLayAll0 (toPys ds) = true := by simpa [PyData.canLayAll0] using e
    exact .cons (Rep.dp h e'.1) (Reps.dp t e'.2)
end
def scalD : Dat → Dat → Bool
  | .non, .non => true | .non, .int _ => true | .int _, .non => true | .non, .bl _ => true | .bl _, .non => true | .non, .str _ => true | .str _, .non => true
  | .int _, .int _ => true | .bl _, .bl _ => true | .str _, .str _ => true
  | .int _, .str _ => true | .str _, .int _ => true | .bl _, .str _ => true | .str _, .bl _ => true
  | _, _ => false
/-- what == may be asked of -/
def EqOk (x y : Dat) : Prop := scalD x y = true ∨ (SeqAt.shaped (toPy x) = true ∧ SeqAt.shaped (toPy y) = true)
def eqv (x y : Dat) : Bool := PyData.eqv (toPy x) (toPy y)
theorem scal_eqv {K : KF} {M : Mh} {H : Hp} {x y : Dat} {v u : V} (rx : Rep K M H x v) (ry : Rep K M H y u) (h : scalD x y = true) : scal v u = true ∧ decide (v = u) = eqv x y := by
  cases rx <;> cases ry <;> first
    | exact absurd (show false = true from h) Bool.false_ne_true
    | (refine ⟨rfl, ?_⟩; simp only [eqv, toPy, PyData.eqv]; first | rfl | (rw [Bool.eq_iff_iff]; simp))
def fEq : F2 := fun x y M Q => EqOk x y ∧ Q (.bl (eqv x y)) M
def fNe : F2 := fun x y M Q => EqOk x y ∧ Q (.bl (!eqv x y)) M
section
variable {X : Cx} {K : PySem.W.Frag}
theorem ok_eq : Ok2 K (fun x y H Q => rEq x y H Q ∨ rEqD K x y H Q) fEq := fun Fo x y vx vy M H Q Qt m rx ry h k => by
  obtain ⟨h | ⟨h1, h2⟩, q⟩ := h
  · obtain ⟨e1, e2⟩ := scal_eqv rx ry h
    exact .inl ⟨e1, by rw [e2]; exact k.here m (.bl _) q⟩
  · exact .inr ⟨_, _, rx.dp (SeqAt.canLay_of_shaped h1), ry.dp (SeqAt.canLay_of_shaped h2), h1, h2, k.here m (.bl _) q⟩
theorem ok_ne : Ok2 K (fun x y H Q => rNe x y H Q ∨ rNeD K x y H Q) fNe := fun Fo x y vx vy M H Q Qt m rx ry h k => by
  obtain ⟨h | ⟨h1, h2⟩, q⟩ := h
  · obtain ⟨e1, e2⟩ := scal_eqv rx ry h
    exact .inl ⟨e1, by rw [e2]; exact k.here m (.bl _) q⟩
  · exact .inr ⟨_, _, rx.dp (SeqAt.canLay_of_shaped h1), ry.dp (SeqAt.canLay_of_shaped h2), h1, h2, k.here m (.bl _) q⟩
theorem o_eq (hu : X.A.units + 64 < cLine) : OpR X (compareOp .Eq) (fun x y H Q => rEq x y H Q ∨ rEqD X.K x y H Q) := op_eq.or (op_eqD hu)
theorem o_ne (hu : X.A.units + 64 < cLine) : OpR X (compareOp .NotEq) (fun x y H Q => rNe x y H Q ∨ rNeD X.K x y H Q) := op_ne.or (op_neD hu)

/-! ### order: ints, texts -/
def ltS (a b : Str) : Bool := decide (a.cps.toList < b.cps.toList)
def fLt : F2 := fun x y M Q => match x, y with
  | .int i, .int j => Q (.bl (decide (i < j))) M
  | .str a, .str b => Q (.bl (ltS a b)) M
  | _, _ => False
def fLe : F2 := fun x y M Q => match x, y with
  | .int i, .int j => Q (.bl (decide (i ≤ j))) M
  | .str a, .str b => Q (.bl (!ltS b a)) M
  | _, _ => False
def fGt : F2 := fun x y M Q => match x, y with
  | .int i, .int j => Q (.bl (decide (j < i))) M
  | .str a, .str b => Q (.bl (ltS b a)) M
  | _, _ => False
def fGe : F2 := fun x y M Q => match x, y with
  | .int i, .int j => Q (.bl (decide (j ≤ i))) M
  | .str a, .str b => Q (.bl (!ltS a b)) M
  | _, _ => False
def rStr (g : Str → Str → Bool) : R2 := fun x y H Q => ∃ i j, x = .str i ∧ y = .str j ∧ Q (.bl (g i j)) H
theorem o_lt : OpR X (compareOp .Lt) (fun x y H Q => rI0 (fun i j => .bl (decide (i < j))) x y H Q ∨ rStr ltS x y H Q) := op_lt.or op_lt_str
theorem o_le : OpR X (compareOp .LtE) (fun x y H Q => rI0 (fun i j => .bl (decide (i ≤ j))) x y H Q ∨ rStr (fun a b => !ltS b a) x y H Q) := op_le.or op_le_str
theorem o_gt : OpR X (compareOp .Gt) (fun x y H Q => rI0 (fun i j => .bl (decide (j < i))) x y H Q ∨ rStr (fun a b => ltS b a) x y H Q) := op_gt.or op_gt_str
theorem o_ge : OpR X (compareOp .GtE) (fun x y H Q => rI0 (fun i j => .bl (decide (j ≤ i))) x y H Q ∨ rStr (fun a b => !ltS a b) x y H Q) := op_ge.or op_ge_str
/-- ints and texts -/
theorem ok_is {g : Int → Int → V} {g' : Int → Int → Dat} {k : Str → Str → Bool} {f : F2} (hg : ∀ Fo M H i j, Rep ⟨K, Fo⟩ M H (g' i j) (g i j))
    (hf : ∀ x y M Q, f x y M Q → (∃ i j, x = .int i ∧ y = .int j ∧ Q (g' i j) M) ∨ ∃ a b, x = .str a ∧ y = .str b ∧ Q (.bl (k a b)) M) : Ok2 K (fun x y H Q => rI0 g x y H Q ∨ rStr k x y H Q) f := fun Fo x y vx vy M H Q Qt m rx ry h kk => by
  rcases hf x y M Q h with ⟨i, j, rfl, rfl, q⟩ | ⟨a, b, rfl, rfl, q⟩
  · cases rx; cases ry
    exact .inl ⟨i, j, rfl, rfl, kk.here m (hg _ _ _ _ _) q⟩
  · cases rx; cases ry
    exact .inr ⟨a, b, rfl, rfl, kk.here m (.bl _) q⟩
theorem ok_lt : Ok2 K (fun x y H Q => rI0 (fun i j => .bl (decide (i < j))) x y H Q ∨ rStr ltS x y H Q) fLt := ok_is (fun _ _ _ _ _ => .bl _) fun x y M Q h => by
  cases x <;> cases y <;> first | exact .inl ⟨_, _, rfl, rfl, h⟩ | exact .inr ⟨_, _, rfl, rfl, h⟩ | exact False.elim h
theorem ok_le : Ok2 K (fun x y H Q => rI0 (fun i j => .bl (decide (i ≤ j))) x y H Q ∨ rStr (fun a b => !ltS b a) x y H Q) fLe := ok_is (fun _ _ _ _ _ => .bl _) fun x y M Q h => by
  cases x <;> cases y <;> first | exact .inl ⟨_, _, rfl, rfl, h⟩ | exact .inr ⟨_, _, rfl, rfl, h⟩ | exact False.elim h
theorem ok_gt : Ok2 K (fun x y H Q => rI0 (fun i j => .bl (decide (j < i))) x y H Q ∨ rStr (fun a b => ltS b a) x y H Q) fGt := ok_is (fun _ _ _ _ _ => .bl _) fun x y M Q h => by
  cases x <;> cases y <;> first | exact .inl ⟨_, _, rfl, rfl, h⟩ | exact .inr ⟨_, _, rfl, rfl, h⟩ | exact False.elim h
theorem ok_ge : Ok2 K (fun x y H Q => rI0 (fun i j => .bl (decide (j ≤ i))) x y H Q ∨ rStr (fun a b => !ltS a b) x y H Q) fGe := ok_is (fun _ _ _ _ _ => .bl _) fun x y M Q h => by
  cases x <;> cases y <;> first | exact .inl ⟨_, _, rfl, rfl, h⟩ | exact .inr ⟨_, _, rfl, rfl, h⟩ | exact False.elim h

/-! ### is None -/
def isNon : Dat → Bool
  | .non => true
  | _ => false
def fIsN : F2 := fun x y M Q => y = .non ∧ Q (.bl (isNon x)) M
def fNotN : F2 := fun x y M Q => y = .non ∧ Q (.bl (!isNon x)) M
theorem isNon_v {K : KF} {M : Mh} {H : Hp} {x : Dat} {v : V} (r : Rep K M H x v) : decide (v = .non) = isNon x := by cases r <;> rfl
theorem ok_isN : Ok2 K (fun x y H Q => y = .non ∧ Q (.bl (decide (x = .non))) H) fIsN := fun Fo x y vx vy M H Q Qt m rx ry h k => by
  obtain ⟨rfl, q⟩ := h
  cases ry
  exact ⟨rfl, by rw [isNon_v rx]; exact k.here m (.bl _) q⟩
theorem ok_notN : Ok2 K (fun x y H Q => y = .non ∧ Q (.bl (!decide (x = .non))) H) fNotN := fun Fo x y vx vy M H Q Qt m rx ry h k => by
  obtain ⟨rfl, q⟩ := h
  cases ry
  exact ⟨rfl, by rw [isNon_v rx]; exact k.here m (.bl _) q⟩

/-! ### arithmetic -/
/-- the items of a list -/
def lstOf (M : Mh) : Dat → Option (List Dat)
  | .fl xs => some xs
  | .rd xs => some xs
  | .ref a => match M a with
    | some (.lst xs) => some xs
    | _ => none
  | _ => none
def seqOf (M : Mh) : Dat → Option (List Dat)
  | .tup xs => some xs
  | d => lstOf M d
/-- a list that the model may read as its own object -/
def ownOf (M : Mh) : Dat → Option (List Dat)
  | .rd _ => none
  | d => lstOf M d
theorem lstOf_sq {K : KF} {M : Mh} {H : Hp} {x : Dat} {v : V} {ds : List Dat} (m : RelM K M H) (r : Rep K M H x v) (h : lstOf M x = some ds) : ∃ a vs, v = .ref a ∧ SqL K.k H a vs ∧ Reps K M H ds vs := by
  cases r with
  | fl f rr => cases h; exact ⟨_, _, rfl, f.sq, rr⟩
  | rd f rr => cases h; exact ⟨_, _, rfl, f.sq, rr⟩
  | ref a =>
    simp only [lstOf] at h
    split at h
    · rename_i xs e
      cases h
      obtain ⟨vs, h1, h2⟩ := m.ob a _ e
      exact ⟨a, vs, rfl, .of h1, h2⟩
    · cases h
  | _ => cases h
theorem ownOf_lst {K : KF} {M : Mh} {H : Hp} {x : Dat} {v : V} {ds : List Dat} (m : RelM K M H) (r : Rep K M H x v) (h : ownOf M x = some ds) : ∃ a vs, v = .ref a ∧ H a = some (.lst vs) ∧ Reps K M H ds vs := by
  cases r with
  | fl f rr => cases h; exact ⟨_, _, rfl, f.2.2, rr⟩
  | rd f rr => cases h
  | ref a =>
    simp only [ownOf, lstOf] at h
    split at h
    · rename_i xs e
      cases h
      obtain ⟨vs, h1, h2⟩ := m.ob a _ e
      exact ⟨a, vs, rfl, h1, h2⟩
    · cases h
  | _ => cases h
theorem seqOf_sq {K : KF} {M : Mh} {H : Hp} {x : Dat} {v : V} {ds : List Dat} (m : RelM K M H) (r : Rep K M H x v) (h : seqOf M x = some ds) : ∃ a vs, v = .ref a ∧ (SqL K.k H a vs ∨ SqT K.k H a vs) ∧ Reps K M H ds vs := by
  cases r with
  | tup f rr => cases h; exact ⟨_, _, rfl, .inr f.sq, rr⟩
  | fl f rr =>
    obtain ⟨a, vs, e, h1, h2⟩ := lstOf_sq m (.fl f rr) h
    exact ⟨a, vs, e, .inl h1, h2⟩
  | rd f rr =>
    obtain ⟨a, vs, e, h1, h2⟩ := lstOf_sq m (.rd f rr) h
    exact ⟨a, vs, e, .inl h1, h2⟩
  | ref a =>
    obtain ⟨a, vs, e, h1, h2⟩ := lstOf_sq m (.ref a) h
    exact ⟨a, vs, e, .inl h1, h2⟩
  | _ => cases h
def fAdd : F2 := fun x y M Q => match x, y with
  | .int i, .int j => Q (.int (i + j)) M
  | .str a, .str b => a.length + b.length ≤ sizeLine ∧ Q (.str (a ++ b)) M
  | .tup xs, .tup ys => xs.length + ys.length ≤ sizeLine ∧ Q (.tup (xs ++ ys)) M
  | _, _ => False
def rAddS : R2 := fun x y H Q => ∃ i j, x = .str i ∧ y = .str j ∧ i.length + j.length ≤ sizeLine ∧ Q (.str (i ++ j)) H
theorem o_add : OpR X (binaryOp .Add) (fun x y H Q => rI0 (fun i j => .int (i + j)) x y H Q ∨ rAddS x y H Q ∨ rCatA X.K x y H Q) := op_add.or (OpR.or op_add_str op_catA)
theorem Fin.catA {K : KF} {M : Mh} {H : Hp} {Q : VD} {Qt : VK} {xs ys : List Dat} {a b : Addr} {vs ws : List V} (k : Fin K M H Q Qt) (m : RelM K M H) (f1 : FzT K M H a vs) (r1 : Reps K M H xs vs) (f2 : FzT K M H b ws) (r2 : Reps K M H ys ws)
    (hz : xs.length + ys.length ≤ sizeLine) (q : Q (.tup (xs ++ ys)) M) : rCatA K.k (.ref a) (.ref b) H Qt := by
  refine ⟨a, b, vs, ws, rfl, rfl, f1.sq, f2.sq, by rw [← r1.length, ← r2.length]; exact hz, fun e => ?_, fun _ e => ?_, fun _ _ p hp => k.tup m (r1.append r2) hp q⟩
  · subst e
    cases r1
    exact k.here m (.tup f2 r2) q
  · subst e
    cases r2
    rw [List.append_nil] at q
    exact k.here m (.tup f1 r1) q
theorem ok_add : Ok2 K (fun x y H Q => rI0 (fun i j => .int (i + j)) x y H Q ∨ rAddS x y H Q ∨ rCatA K x y H Q) fAdd := fun Fo x y vx vy M H Q Qt m rx ry h k => by
  cases rx <;> cases ry <;> first
    | exact .inl ⟨_, _, rfl, rfl, k.here m (.int _) h⟩
    | exact .inr (.inl ⟨_, _, rfl, rfl, h.1, k.here m (.str _) h.2⟩)
    | exact .inr (.inr (k.catA m (by assumption) (by assumption) (by assumption) (by assumption) h.1 h.2))
    | exact False.elim h
/-- list + list -/
def fCatL (x y : Dat) (M : Mh) (Q : MO → Mh → Prop) : Prop := ∃ xs ys, ownOf M x = some xs ∧ ownOf M y = some ys ∧ xs.length + ys.length ≤ sizeLine ∧ Q (.lst (xs ++ ys)) M
theorem ok_catL : Ok2N K rCat fCatL := fun Fo x y vx vy M H Q Qt m rx ry h k => by
  obtain ⟨xs, ys, e1, e2, hz, q⟩ := h
  obtain ⟨a, vs, rfl, h1, r1⟩ := ownOf_lst m rx e1
  obtain ⟨b, ws, rfl, h2, r2⟩ := ownOf_lst m ry e2
  exact ⟨a, b, vs, ws, rfl, rfl, h1, h2, by rw [← r1.length, ← r2.length]; exact hz, fun p hp => k.lst m (r1.append r2) hp q⟩
/-- ints -/
def fI (C : Int → Int → Prop) (g : Int → Int → Int) : F2 := fun x y M Q => match x, y with
  | .int i, .int j => C i j ∧ Q (.int (g i j)) M
  | _, _ => False
def fI0 (g : Int → Int → Int) : F2 := fun x y M Q => match x, y with
  | .int i, .int j => Q (.int (g i j)) M
  | _, _ => False
theorem ok_I {C : Int → Int → Prop} {g : Int → Int → Int} : Ok2 K (rI C fun i j => .int (g i j)) (fI C g) := fun Fo x y vx vy M H Q Qt m rx ry h k => by
  cases rx <;> cases ry <;> first
    | exact ⟨_, _, rfl, rfl, h.1, k.here m (.int _) h.2⟩
    | exact False.elim h
theorem ok_I0 {g : Int → Int → Int} : Ok2 K (rI0 fun i j => .int (g i j)) (fI0 g) := fun Fo x y vx vy M H Q Qt m rx ry h k => by
  cases rx <;> cases ry <;> first
    | exact ⟨_, _, rfl, rfl, k.here m (.int _) h⟩
    | exact False.elim h
def fNeg (x : Dat) (M : Mh) (Q : VD) : Prop := match x with
  | .int i => Q (.int (-i)) M
  | _ => False
end
section
variable {X : Cx} {e a b : Expr} {wa wb : WE} {pos : Pos}
theorem de_neg (ha : DE X a wa) : DE X (.UnaryOp .USub a pos) (wUn fNeg wa) := peWeak (pe_un un_neg ha) fun σ H Qt ⟨Fo, S, Q, rs, h, k⟩ => ⟨Fo, S, _, rs, h, fun v H' d M' g m r q => by
  cases r <;> first
    | exact ⟨_, rfl, (k.go g).here m (.int _) q⟩
    | exact False.elim q⟩
theorem de_add (ha : DE X a wa) (hb : DE X b wb) : DE X (.BinOp a .Add b pos) (wBin fAdd wa wb) := de_op o_add ok_add ha hb
theorem de_sub (ha : DE X a wa) (hb : DE X b wb) : DE X (.BinOp a .Sub b pos) (wBin (fI0 fun i j => i - j) wa wb) := de_op op_sub ok_I0 ha hb
theorem de_mul (ha : DE X a wa) (hb : DE X b wb) : DE X (.BinOp a .Mult b pos) (wBin (fI CMul fun i j => i * j) wa wb) := de_op op_mul ok_I ha hb
theorem de_fdiv (ha : DE X a wa) (hb : DE X b wb) : DE X (.BinOp a .FloorDiv b pos) (wBin (fI CDiv fun i j => i / j) wa wb) := de_op op_fdiv ok_I ha hb
theorem de_mod (ha : DE X a wa) (hb : DE X b wb) : DE X (.BinOp a .Mod b pos) (wBin (fI (fun _ j => 0 < j) fun i j => i % j) wa wb) := de_op op_mod ok_I ha hb
theorem de_shl (ha : DE X a wa) (hb : DE X b wb) : DE X (.BinOp a .LShift b pos) (wBin (fI CPow fun i j => i * 2 ^ j.toNat) wa wb) := de_op op_shl ok_I ha hb
theorem de_pow (ha : DE X a wa) (hb : DE X b wb) : DE X (.BinOp a .Pow b pos) (wBin (fI CPow fun i j => i ^ j.toNat) wa wb) := de_op op_pow ok_I ha hb
theorem de_shr (ha : DE X a wa) (hb : DE X b wb) : DE X (.BinOp a .RShift b pos) (wBin (fI (fun _ j => 0 ≤ j) fun i j => i / 2 ^ j.toNat) wa wb) := de_op op_shr ok_I ha hb
theorem de_band (ha : DE X a wa) (hb : DE X b wb) : DE X (.BinOp a .BitAnd b pos) (wBin (fI0 fun i j => Builtin.bitAnd i j) wa wb) := de_op op_and ok_I0 ha hb
theorem dn_catL (ha : DE X a wa) (hb : DE X b wb) : DN X (.BinOp a .Add b pos) (wBinN fCatL wa wb) := dn_op op_cat ok_catL ha hb
theorem de_eq (hu : X.A.units + 64 < cLine) (ha : DE X a wa) (hb : DE X b wb) : DE X (.Compare a [.Eq] [b] pos) (wBin fEq wa wb) := de_cmp (o_eq hu) ok_eq ha hb (nomark _)
theorem de_ne (hu : X.A.units + 64 < cLine) (ha : DE X a wa) (hb : DE X b wb) : DE X (.Compare a [.NotEq] [b] pos) (wBin fNe wa wb) := de_cmp (o_ne hu) ok_ne ha hb (nomark _)
theorem de_lt (ha : DE X a wa) (hb : DE X b wb) : DE X (.Compare a [.Lt] [b] pos) (wBin fLt wa wb) := de_cmp o_lt ok_lt ha hb (nomark _)
theorem de_le (ha : DE X a wa) (hb : DE X b wb) : DE X (.Compare a [.LtE] [b] pos) (wBin fLe wa wb) := de_cmp o_le ok_le ha hb (nomark _)
theorem de_gt (ha : DE X a wa) (hb : DE X b wb) : DE X (.Compare a [.Gt] [b] pos) (wBin fGt wa wb) := de_cmp o_gt ok_gt ha hb (nomark _)
theorem de_ge (ha : DE X a wa) (hb : DE X b wb) : DE X (.Compare a [.GtE] [b] pos) (wBin fGe wa wb) := de_cmp o_ge ok_ge ha hb (nomark _)
theorem de_isN (ha : DE X a wa) (hb : DE X b wb) : DE X (.Compare a [.Is] [b] pos) (wBin fIsN wa wb) := de_cmp op_isN ok_isN ha hb (nomark _)
theorem de_notN (ha : DE X a wa) (hb : DE X b wb) : DE X (.Compare a [.IsNot] [b] pos) (wBin fNotN wa wb) := de_cmp op_notN ok_notN ha hb (nomark _)
theorem dt_eq (hu : X.A.units + 64 < cLine) (ha : DE X a wa) (hb : DE X b wb) : DT X (.Compare a [.Eq] [b] pos) (wTest (wBin fEq wa wb)) := dt_cmp (o_eq hu) ok_eq ha hb (nomark _)
theorem dt_ne (hu : X.A.units + 64 < cLine) (ha : DE X a wa) (hb : DE X b wb) : DT X (.Compare a [.NotEq] [b] pos) (wTest (wBin fNe wa wb)) := dt_cmp (o_ne hu) ok_ne ha hb (nomark _)
theorem dt_lt (ha : DE X a wa) (hb : DE X b wb) : DT X (.Compare a [.Lt] [b] pos) (wTest (wBin fLt wa wb)) := dt_cmp o_lt ok_lt ha hb (nomark _)
theorem dt_le (ha : DE X a wa) (hb : DE X b wb) : DT X (.Compare a [.LtE] [b] pos) (wTest (wBin fLe wa wb)) := dt_cmp o_le ok_le ha hb (nomark _)
theorem dt_gt (ha : DE X a wa) (hb : DE X b wb) : DT X (.Compare a [.Gt] [b] pos) (wTest (wBin fGt wa wb)) := dt_cmp o_gt ok_gt ha hb (nomark _)
theorem dt_ge (ha : DE X a wa) (hb : DE X b wb) : DT X (.Compare a [.GtE] [b] pos) (wTest (wBin fGe wa wb)) := dt_cmp o_ge ok_ge ha hb (nomark _)
theorem dt_isN (ha : DE X a wa) (hb : DE X b wb) : DT X (.Compare a [.Is] [b] pos) (wTest (wBin fIsN wa wb)) := dt_cmp op_isN ok_isN ha hb (nomark _)
theorem dt_notN (ha : DE X a wa) (hb : DE X b wb) : DT X (.Compare a [.IsNot] [b] pos) (wTest (wBin fNotN wa wb)) := dt_cmp op_notN ok_notN ha hb (nomark _)
end
end Lk

namespace Lk
open PySem PySem.Spec L2

/-- what a def hands back: a value, a new object -/
inductive Res where
  | val (d : Dat) | new (mo : MO)
structure DEnds where
  nx : DS → Prop
  rt : Res → Mh → Prop
  bk : DS → Prop := fun _ => False
  ct : DS → Prop := fun _ => False
/-- handed back: v stands for r, from where M, H stood -/
def RetOk (K : KF) (M : Mh) (H : Hp) (r : Res) (M' : Mh) (v : V) (H' : Hp) : Prop := match r with
  | .val d => Go M H M' H' ∧ RelM K M' H' ∧ Rep K M' H' d v
  | .new mo => ∃ a, v = .ref a ∧ M' a = none ∧ Go M H (updM M' a mo) H' ∧ RelM K (updM M' a mo) H'
theorem RetOk.mem {K : KF} {M : Mh} {H : Hp} {r : Res} {M' : Mh} {v : V} {H' : Hp} (h : RetOk K M H r M' v H') : Go M H M' H' ∧ RelM K M' H' := by
  cases r with
  | val d => exact ⟨h.1, h.2.1⟩
  | new mo =>
    obtain ⟨a, _, n, g, m⟩ := h
    exact ⟨g.trans (.le (.upd n)), m.le (.upd n)⟩
theorem RetOk.pre {K : KF} {M M1 : Mh} {H H1 : Hp} {r : Res} {M' : Mh} {v : V} {H' : Hp} (g : Go M H M1 H1) (h : RetOk K M1 H1 r M' v H') : RetOk K M H r M' v H' := by
  cases r with
  | val d => exact ⟨g.trans h.1, h.2⟩
  | new mo =>
    obtain ⟨a, e, n, g', m⟩ := h
    exact ⟨a, e, n, g.trans g', m⟩
theorem RetOk.le {K : KF} {M M0 : Mh} {H : Hp} {r : Res} {M' : Mh} {v : V} {H' : Hp} (h : RetOk K M H r M' v H') (l : LeM M0 M') : RetOk K M H r M0 v H' := by
  cases r with
  | val d => exact ⟨h.1.trans (.le l), h.2.1.le l, h.2.2.go (.le l)⟩
  | new mo =>
    obtain ⟨a, e, n, g, m⟩ := h
    exact ⟨a, e, l.none n, g.trans (.le (.upd2 l)), m.le (.upd2 l)⟩
structure FinS (K : KF) (M : Mh) (H : Hp) (D : DEnds) (Dt : Ends) : Prop where
  nx : ∀ S' σ' H', Go M H S'.M H' → RelS K S' σ' H' → D.nx S' → Dt.nx σ' H'
  rt : ∀ r M' v H', RetOk K M H r M' v H' → D.rt r M' → Dt.rt v H'
  bk : ∀ S' σ' H', Go M H S'.M H' → RelS K S' σ' H' → D.bk S' → Dt.bk σ' H'
  ct : ∀ S' σ' H', Go M H S'.M H' → RelS K S' σ' H' → D.ct S' → Dt.ct σ' H'
theorem FinS.go {K : KF} {M M1 : Mh} {H H1 : Hp} {D : DEnds} {Dt : Ends} (f : FinS K M H D Dt) (g : Go M H M1 H1) : FinS K M1 H1 D Dt :=
  ⟨fun S' σ' H' g' => f.nx S' σ' H' (g.trans g'), fun r M' v H' g' => f.rt r M' v H' (g'.pre g), fun S' σ' H' g' => f.bk S' σ' H' (g.trans g'), fun S' σ' H' g' => f.ct S' σ' H' (g.trans g')⟩
abbrev WS := DS → DEnds → Prop
def LS (K : PySem.W.Frag) (w : WS) : TS := fun Dt σ H => ∃ Fo S D, RelS ⟨K, Fo⟩ S σ H ∧ w S D ∧ FinS ⟨K, Fo⟩ S.M H D Dt
def DSt (X : Cx) (st : Stmt) (w : WS) : Prop := PS X st (LS X.K w)
def DSs (X : Cx) (sts : List Stmt) (w : WS) : Prop := PSs X sts (LS X.K w)

/-- what is known of a state may be told in another way -/
def Imp (S S0 : DS) : Prop := ∀ K σ H, RelS K S σ H → RelS K S0 σ H ∧ Go S.M H S0.M H
theorem Imp.refl (S : DS) : Imp S S := fun _ _ _ r => ⟨r, .refl _ _⟩
theorem Imp.trans {A B C : DS} (x : Imp A B) (y : Imp B C) : Imp A C := fun K σ H r => ⟨(y K σ H (x K σ H r).1).1, (x K σ H r).2.trans (y K σ H (x K σ H r).1).2⟩
theorem Imp.le {S S0 : DS} (l : LeS S0 S) : Imp S S0 := fun _ _ _ r => ⟨r.le l, .le l.mem⟩
def ersM (M : Mh) (a : Addr) : Mh := fun b => if b = a then none else M b
theorem ersM_le {M : Mh} {a : Addr} : LeM (ersM M a) M := fun b o h => by
  unfold ersM at h
  by_cases e : b = a
  · rw [if_pos e] at h; cases h
  · rw [if_neg e] at h; exact h
theorem ersM_same {M : Mh} {a : Addr} : ersM M a a = none := if_pos rfl
theorem ersM_upd {M : Mh} {a : Addr} {o : MO} (h : M a = none) : ersM (updM M a o) a = M := by
  funext b
  unfold ersM updM
  by_cases e : b = a
  · rw [if_pos e, e, h]
  · rw [if_neg e, if_neg e]
/-- a list that is changed no more is a value from now on -/
theorem Imp.freeze {S : DS} {i : Nat} {p : Addr} {ds : List Dat} (h : S.M p = some (.lst ds)) (hi : S.env[i]? = some (some (.ref p))) : Imp S ⟨S.env.set i (some (.fl ds)), ersM S.M p⟩ := fun K σ H r => by
  have l : LeM (ersM S.M p) S.M := ersM_le
  obtain ⟨vs, h1, h2⟩ := r.mem.ob p _ h
  have r' : RelS K ⟨S.env, ersM S.M p⟩ σ H := r.le ⟨rfl, fun _ _ e => e, l⟩
  obtain ⟨v, h3, h4⟩ := r.env i _ hi
  cases h4
  refine ⟨?_, .le l⟩
  have nf : ¬ K.fo p := fun f => by
    have z := (r.mem.fo p f).1
    rw [h] at z; cases z
  have rr := r'.set i (d := .fl ds) (v := .ref p) (.fl ⟨ersM_same, nf, h1⟩ (h2.go (.le l)))
  have e : σ.set i (some (.ref p)) = σ := by
    apply List.ext_getElem?
    intro j
    by_cases q : i = j
    · subst q
      have hl := (List.getElem?_eq_some_iff.mp h3).1
      rw [List.getElem?_set_self hl, h3]
    · rw [List.getElem?_set_ne q]
  rw [e] at rr
  exact rr
/-- slots forgotten -/
theorem Imp.drop {S : DS} {M0 : Mh} {env : List (Option Dat)} (hl : env.length = S.env.length) (he : ∀ i : Nat, ∀ d : Dat, env[i]? = some (some d) → S.env[i]? = some (some d)) (l : LeM M0 S.M) : Imp S ⟨env, M0⟩ := .le ⟨hl, he, l⟩

section
variable {X : Cx} {st : Stmt} {rest sts sts2 : List Stmt} {e c a b tg : Expr} {t u : WS} {we wa wb : WE} {wt : WT} {wn : WN} {pos : Pos}
theorem psWeak {t t' : TS} (h : PS X st t) (k : ∀ D σ H, t' D σ H → t D σ H) : PS X st t' := ⟨fun pins s σ H D I q => h.run pins s σ H D I (k D σ H q)⟩
theorem pssWeak {t t' : TS} (h : PSs X sts t) (k : ∀ D σ H, t' D σ H → t D σ H) : PSs X sts t' := ⟨fun pins s σ H D I q => h.run pins s σ H D I (k D σ H q)⟩
def wNext : WS := fun S D => D.nx S
def wSeq (t u : WS) : WS := fun S D => t S { D with nx := fun S' => u S' D }
/-- .. where what is known may be told otherwise in between -/
def wSeqI (t u : WS) : WS := fun S D => t S { D with nx := fun S' => ∃ S0, Imp S' S0 ∧ u S0 D }
theorem dss_nil : DSs X [] wNext := pssWeak pss_nil fun Dt σ H ⟨Fo, S, D, rs, h, k⟩ => k.nx S σ H (.refl _ _) rs h
theorem dss_one (h : DSt X st t) : DSs X [st] t := pss_one h
theorem dss_cons (h1 : DSt X st t) (h2 : DSs X rest u) : DSs X (st :: rest) (wSeq t u) := pssWeak (pss_cons h1 h2) fun Dt σ H ⟨Fo, S, D, rs, h, k⟩ =>
  ⟨Fo, S, { D with nx := fun S' => u S' D }, rs, h, ⟨fun S' σ' H' g r q => ⟨Fo, S', D, r, q, k.go g⟩, k.rt, k.bk, k.ct⟩⟩
theorem dss_consI (h1 : DSt X st t) (h2 : DSs X rest u) : DSs X (st :: rest) (wSeqI t u) := pssWeak (pss_cons h1 h2) fun Dt σ H ⟨Fo, S, D, rs, h, k⟩ =>
  ⟨Fo, S, { D with nx := fun S' => ∃ S0, Imp S' S0 ∧ u S0 D }, rs, h, ⟨fun S' σ' H' g r ⟨S0, i, q⟩ => ⟨Fo, S0, D, (i _ _ _ r).1, q, k.go (g.trans (i _ _ _ r).2)⟩, k.rt, k.bk, k.ct⟩⟩
def wNever : WS := fun _ _ => False
theorem ds_never : DSt X st wNever := psWeak ps_never fun Dt σ H ⟨Fo, S, D, rs, h, k⟩ => h
theorem dss_never : DSs X sts wNever := pssWeak pss_never fun Dt σ H ⟨Fo, S, D, rs, h, k⟩ => h
theorem ds_pass : DSt X (.Pass pos) wNext := psWeak ps_pass fun Dt σ H ⟨Fo, S, D, rs, h, k⟩ => k.nx S σ H (.refl _ _) rs h
def wBreak : WS := fun S D => D.bk S
def wCont : WS := fun S D => D.ct S
theorem ds_break : DSt X (.Break pos) wBreak := psWeak ps_break fun Dt σ H ⟨Fo, S, D, rs, h, k⟩ => k.bk S σ H (.refl _ _) rs h
theorem ds_cont : DSt X (.Continue pos) wCont := psWeak ps_continue fun Dt σ H ⟨Fo, S, D, rs, h, k⟩ => k.ct S σ H (.refl _ _) rs h
def wExpr (w : WE) : WS := fun S D => w S fun _ M => D.nx ⟨S.env, M⟩
theorem ds_expr (he : DE X e we) (hs : swapsWith e none pos.line X.env = pure false := by rfl) : DSt X (.Expr e pos) (wExpr we) := psWeak (ps_expr he hs) fun Dt σ H ⟨Fo, S, D, rs, h, k⟩ =>
  ⟨Fo, S, _, rs, h, fun v H' d M' g m r q => k.nx ⟨S.env, M'⟩ σ H' g (rs.go g m) q⟩
def wRet (w : WE) : WS := fun S D => w S fun d M => D.rt (.val d) M
theorem ds_ret (he : DE X e we) : DSt X (.Return (some e) pos) (wRet we) := psWeak (ps_ret he) fun Dt σ H ⟨Fo, S, D, rs, h, k⟩ =>
  ⟨Fo, S, _, rs, h, fun v H' d M' g m r q => k.rt (.val d) M' v H' ⟨g, m, r⟩ q⟩
def wRetNew (w : WN) : WS := fun S D => w S fun mo M => D.rt (.new mo) M
theorem ds_retNew (he : DN X e wn) : DSt X (.Return (some e) pos) (wRetNew wn) := psWeak (ps_ret he) fun Dt σ H ⟨Fo, S, D, rs, h, k⟩ =>
  ⟨Fo, S, _, rs, h, fun a H' mo M' g n m q => k.rt (.new mo) M' _ H' ⟨a, rfl, n, g, m⟩ q⟩
def wRetN : WS := fun S D => D.rt (.val .non) S.M
theorem ds_retN : DSt X (.Return none pos) wRetN := psWeak ps_retN fun Dt σ H ⟨Fo, S, D, rs, h, k⟩ => k.rt (.val .non) S.M _ H ⟨.refl _ _, rs.mem, .non⟩ h
/-- a changeable object of its own is handed back -/
def wRetVar (i : Nat) : WS := fun S D => ∃ p mo M0, S.env[i]? = some (some (.ref p)) ∧ M0 p = none ∧ LeM (updM M0 p mo) S.M ∧ D.rt (.new mo) M0
theorem ds_retVar {i : Nat} (h : PE X e (tVar i)) : DSt X (.Return (some e) pos) (wRetVar i) := psWeak (ps_ret h) fun Dt σ H ⟨Fo, S, D, rs, ⟨p, mo, M0, e, n, l, q⟩, k⟩ => by
  obtain ⟨v, h1, h2⟩ := rs.env i _ e
  cases h2
  exact ⟨_, h1, k.rt (.new mo) M0 _ H ⟨p, rfl, n, .le l, rs.mem.le l⟩ q⟩
def wIf (c : WT) (t u : WS) : WS := fun S D => c S fun b M => if b = true then t ⟨S.env, M⟩ D else u ⟨S.env, M⟩ D
theorem ds_if (hc : DT X c wt) (ha : DSs X sts t) (hb : DSs X sts2 u) : DSt X (.If c sts sts2 pos) (wIf wt t u) := psWeak (ps_if hc ha hb) fun Dt σ H ⟨Fo, S, D, rs, h, k⟩ =>
  ⟨Fo, S, _, rs, h, fun b H' M' g m q => by
    cases b with
    | true =>
      rw [if_pos rfl] at q ⊢
      exact ⟨Fo, ⟨S.env, M'⟩, D, rs.go g m, q, k.go g⟩
    | false =>
      rw [if_neg Bool.false_ne_true] at q ⊢
      exact ⟨Fo, ⟨S.env, M'⟩, D, rs.go g m, q, k.go g⟩⟩

/-! ### targets -/
abbrev WG := Dat → DS → (DS → Prop) → Prop
abbrev WGs := List Dat → DS → (DS → Prop) → Prop
def FinG (K : KF) (M : Mh) (H : Hp) (Q : DS → Prop) (Qt : L2.St → Hp → Prop) : Prop := ∀ S' σ' H', Go M H S'.M H' → RelS K S' σ' H' → Q S' → Qt σ' H'
theorem FinG.go {K : KF} {M M1 : Mh} {H H1 : Hp} {Q : DS → Prop} {Qt : L2.St → Hp → Prop} (f : FinG K M H Q Qt) (g : Go M H M1 H1) : FinG K M1 H1 Q Qt := fun S' σ' H' g' => f S' σ' H' (g.trans g')
def LG (K : PySem.W.Frag) (g : WG) : TG := fun v σ H Qt => ∃ Fo S d Q, RelS ⟨K, Fo⟩ S σ H ∧ Rep ⟨K, Fo⟩ S.M H d v ∧ g d S Q ∧ FinG ⟨K, Fo⟩ S.M H Q Qt
def LGs (K : PySem.W.Frag) (g : WGs) : TGs := fun vs σ H Qt => ∃ Fo S ds Q, RelS ⟨K, Fo⟩ S σ H ∧ Reps ⟨K, Fo⟩ S.M H ds vs ∧ g ds S Q ∧ FinG ⟨K, Fo⟩ S.M H Q Qt
def DG (X : Cx) (tg : Expr) (g : WG) : Prop := PG X tg (LG X.K g)
def DGs (X : Cx) (tgs : List Expr) (g : WGs) : Prop := PGs X tgs (LGs X.K g)
theorem pgWeak {t t' : TG} (h : PG X tg t) (k : ∀ v σ H Q, t' v σ H Q → t v σ H Q) : PG X tg t' := ⟨fun pins s σ H v u Q I r q => h.run pins s σ H v u Q I r (k v σ H Q q)⟩
theorem pgsWeak {tgs : List Expr} {t t' : TGs} (h : PGs X tgs t) (k : ∀ v σ H Q, t' v σ H Q → t v σ H Q) : PGs X tgs t' := ⟨fun pins s σ H v u Q I r q => h.run pins s σ H v u Q I r (k v σ H Q q)⟩
def gN (i : Nat) : WG := fun d S Q => Q ⟨S.env.set i (some d), S.M⟩
theorem dg_name {i : Nat} (h : PG X tg (gName i)) : DG X tg (gN i) := pgWeak h fun v σ H Qt ⟨Fo, S, d, Q, rs, r, h, k⟩ => k ⟨S.env.set i (some d), S.M⟩ _ H (.refl _ _) (rs.set i r) h
def gEnd : WGs := fun ds S Q => match ds with
  | [] => Q S
  | _ => False
def gMore (g : WG) (gs : WGs) : WGs := fun ds S Q => match ds with
  | d :: ds => g d S fun S' => gs ds S' Q
  | [] => False
theorem dgs_nil : DGs X [] gEnd := pgsWeak pgs_nil fun v σ H Qt ⟨Fo, S, ds, Q, rs, r, h, k⟩ => by
  cases r with
  | nil => exact ⟨rfl, k S σ H (.refl _ _) rs h⟩
  | cons _ _ => exact h.elim
theorem dgs_cons {tgs : List Expr} {g : WG} {gs : WGs} (h1 : DG X tg g) (h2 : DGs X tgs gs) (hs : (assignEach (tg :: tgs) X.env).map (·.2) = assign tg X.env :: (assignEach tgs X.env).map (·.2) := by rfl) : DGs X (tg :: tgs) (gMore g gs) :=
  pgsWeak (pgs_cons h1 h2 hs) fun v σ H Qt ⟨Fo, S, ds, Q, rs, r, h, k⟩ => by
    cases r with
    | nil => exact h.elim
    | cons r rr => exact ⟨_, _, rfl, Fo, S, _, _, rs, r, h, fun S' σ' H' g' rs' q => ⟨Fo, S', _, Q, rs', rr.go g', q, k.go g'⟩⟩
/-- a tuple of n, a list of n -/
def gTp (n : Nat) (gs : WGs) : WG := fun d S Q => ∃ ds, seqOf S.M d = some ds ∧ ds.length = n ∧ gs ds S Q
theorem pgOr {t t' : TG} (h : PG X tg t) (h' : PG X tg t') : PG X tg (fun v σ H Q => t v σ H Q ∨ t' v σ H Q) := ⟨fun pins s σ H v u Q I r q => q.elim (h.run pins s σ H v u Q I r) (h'.run pins s σ H v u Q I r)⟩
theorem dg_tup {es : List Expr} {k n : Nat} {gs : WGs} (hc : X.calm = true) (h : DGs X es gs) (hn : (assignEach es X.env).length = n := by rfl) (hst : (assignEach es X.env).findIdx? (·.1) = none := by rfl) : DG X (.Tuple es k pos) (gTp n gs) :=
  pgWeak (pgOr (pg_tup hc h hn hst) (pg_unl hc h hn hst)) fun v σ H Qt ⟨Fo, S, d, Q, rs, r, ⟨ds, e, hl, h⟩, k⟩ => by
    obtain ⟨a, vs, rfl, h1, h2⟩ := seqOf_sq rs.mem r e
    rcases h1 with h1 | h1
    · exact .inr ⟨a, vs, rfl, h1, h2.length.symm.trans hl, Fo, S, ds, Q, rs, h2, h, k⟩
    · exact .inl ⟨a, vs, rfl, h1, h2.length.symm.trans hl, Fo, S, ds, Q, rs, h2, h, k⟩

/-! ### o[i] = v -/
def kD : Key → Dat
  | .inl i => .int i
  | .inr x => .str x
def keyOf : Dat → Option Key
  | .int i => some (.inl i)
  | .str x => some (.inr x)
  | _ => none
theorem keyOf_rep {K : KF} {M : Mh} {H : Hp} {d : Dat} {v : V} {k : Key} (r : Rep K M H d v) (h : keyOf d = some k) : v = kV k := by
  cases r <;> first | (cases h; rfl) | cases h
def putD {κ : Type} [DecidableEq κ] (kvs : List (κ × Dat)) (k : κ) (v : Dat) : List (κ × Dat) :=
  if kvs.any (fun kv => decide (kv.1 = k)) then kvs.map fun kv => if kv.1 = k then (kv.1, v) else kv else kvs ++ [(k, v)]
def getD {κ : Type} [DecidableEq κ] (kvs : List (κ × Dat)) (k : κ) : Option Dat := (kvs.find? fun kv => decide (kv.1 = k)).map (·.2)
theorem RepKV.any {κ : Type} [DecidableEq κ] {K : KF} {M : Mh} {H : Hp} {ds : List (κ × Dat)} {vs : List (κ × V)} (r : RepKV K M H ds vs) (k : κ) : (ds.any fun kv => decide (kv.1 = k)) = vs.any fun kv => decide (kv.1 = k) := by
  induction r with
  | nil => rfl
  | cons h t ih => rw [List.any_cons, List.any_cons, h.1, ih]
theorem RepKV.get {κ : Type} [DecidableEq κ] {K : KF} {M : Mh} {H : Hp} {ds : List (κ × Dat)} {vs : List (κ × V)} (r : RepKV K M H ds vs) (k : κ) :
    (∀ d, getD ds k = some d → ∃ v, valV vs k = some v ∧ Rep K M H d v) ∧ (getD ds k = none → valV vs k = none) := by
  unfold getD valV
  induction r with
  | nil => exact ⟨fun d h => (nomatch h), fun _ => rfl⟩
  | @cons p q ds vs h t ih =>
    obtain ⟨h1, h2⟩ := h
    rw [List.find?_cons, List.find?_cons, h1]
    by_cases e : q.1 = k
    · rw [decide_eq_true e]
      exact ⟨fun d hd => by cases hd; exact ⟨_, rfl, h2⟩, fun z => by cases z⟩
    · rw [decide_eq_false e]
      exact ih
theorem RepKV.len {κ : Type} {K : KF} {M : Mh} {H : Hp} {ds : List (κ × Dat)} {vs : List (κ × V)} (r : RepKV K M H ds vs) : ds.length = vs.length := Paired.length r
theorem RepKV.snoc {κ : Type} {K : KF} {M : Mh} {H : Hp} {k : κ} {d : Dat} {v : V} (h : Rep K M H d v) : ∀ {ds : List (κ × Dat)} {vs : List (κ × V)}, RepKV K M H ds vs → RepKV K M H (ds ++ [(k, d)]) (vs ++ [(k, v)])
  | _, _, .nil => .cons ⟨rfl, h⟩ .nil
  | _, _, .cons q t => .cons q (RepKV.snoc h t)
theorem RepKV.repl {κ : Type} [DecidableEq κ] {K : KF} {M : Mh} {H : Hp} {k : κ} {d : Dat} {v : V} (h : Rep K M H d v) : ∀ {ds : List (κ × Dat)} {vs : List (κ × V)}, RepKV K M H ds vs →
    RepKV K M H (ds.map fun kv => if kv.1 = k then (kv.1, d) else kv) (vs.map fun kv => if kv.1 = k then (kv.1, v) else kv)
  | _, _, .nil => .nil
  | p :: ds, q :: vs, .cons hh t => by
    refine .cons ?_ (RepKV.repl h t)
    obtain ⟨h1, h2⟩ := hh
    by_cases e : q.1 = k
    · show (if p.1 = k then (p.1, d) else p).1 = (if q.1 = k then (q.1, v) else q).1 ∧ Rep K M H (if p.1 = k then (p.1, d) else p).2 (if q.1 = k then (q.1, v) else q).2
      rw [if_pos e, if_pos (h1.trans e)]
      exact ⟨h1, h⟩
    · show (if p.1 = k then (p.1, d) else p).1 = (if q.1 = k then (q.1, v) else q).1 ∧ Rep K M H (if p.1 = k then (p.1, d) else p).2 (if q.1 = k then (q.1, v) else q).2
      rw [if_neg e, if_neg (fun z => e (h1.symm.trans z))]
      exact ⟨h1, h2⟩
theorem RepKV.put {κ : Type} [DecidableEq κ] {K : KF} {M : Mh} {H : Hp} {ds : List (κ × Dat)} {vs : List (κ × V)} (r : RepKV K M H ds vs) (k : κ) {d : Dat} {v : V} (h : Rep K M H d v) : RepKV K M H (putD ds k d) (putK vs k v) := by
  unfold putD putK
  rw [r.any k]
  split
  · exact RepKV.repl h r
  · exact r.snoc h
abbrev FSet := Dat → Dat → Dat → Mh → (Mh → Prop) → Prop
/-- a list's item, a dict's -/
def fSet : FSet := fun o i v M Q => match o with
  | .ref a => match M a with
    | some (.lst xs) => match i with
      | .int k => ∃ j, ixN xs.length k = some j ∧ Q (updM M a (.lst (xs.set j v)))
      | _ => False
    | some (.dk kvs) => ∃ k, keyOf i = some k ∧ kvs.length < sizeLine ∧ Q (updM M a (.dk (putD kvs k v)))
    | _ => False
  | _ => False
theorem psetOr {t t' : TSet} (h : PSet X t) (h' : PSet X t') : PSet X (fun o i v H Q => t o i v H Q ∨ t' o i v H Q) := fun pins s σ H o i v ov iv u Q I ro ri rv q =>
  q.elim (h pins s σ H o i v ov iv u Q I ro ri rv) (h' pins s σ H o i v ov iv u Q I ro ri rv)
def gSet (wo wi : WE) (f : FSet) : WG := fun v S Q => wo S fun o M1 => wi ⟨S.env, M1⟩ fun i M2 => f o i v M2 fun M3 => Q ⟨S.env, M3⟩
theorem set_ok {K : KF} {M : Mh} {H : Hp} {o i d : Dat} {vo vi v : V} {Q : Mh → Prop} {Qt : Hp → Prop} (m : RelM K M H) (ro : Rep K M H o vo) (ri : Rep K M H i vi) (r : Rep K M H d v) (h : fSet o i d M Q)
    (k : ∀ M' H', Go M H M' H' → RelM K M' H' → Q M' → Qt H') : rSetL vo vi v H Qt ∨ rSetD vo vi v H Qt := by
  cases ro with
  | ref a =>
    simp only [fSet] at h
    split at h
    · rename_i xs e
      cases ri with
      | int j =>
        simp only at h
        obtain ⟨jj, hj, q⟩ := h
        obtain ⟨vs, h1, h2⟩ := m.ob a _ e
        refine .inl ⟨a, vs, j, jj, rfl, rfl, h1, by rw [← h2.length]; exact hj, ?_⟩
        exact k _ _ (.write e) (m.write (mo' := .lst (xs.set jj d)) e ⟨_, upd_same, .set (r.go (.write e)) jj (h2.go (.write e))⟩) q
      | _ => exact h.elim
    · rename_i kvs e
      obtain ⟨kk, hk, hz, q⟩ := h
      obtain ⟨vs, h1, h2⟩ := m.ob a _ e
      refine .inr ⟨a, _, rfl, .inl ⟨vs, kk, h1, keyOf_rep ri hk, by rw [← h2.len]; exact hz, rfl⟩, ?_⟩
      exact k _ _ (.write e) (m.write (mo' := .dk (putD kvs kk d)) e ⟨_, upd_same, (RepKV.go (.write e) h2).put kk (r.go (.write e))⟩) q
    · exact h.elim
  | _ => exact h.elim
theorem dg_set {o i : Expr} {wo wi : WE} (hu : X.A.units + 1 < cLine) (ho : DE X o wo) (hi : DE X i wi)
    (ha : ∀ v, assign (.Subscript o i pos) X.env v = (do
      let ov ← holding [v] (eval o X.env)
      let iv ← holding [v, ov] (eval i X.env)
      standAt pos
      holding [v, ov, iv] (setItem ov iv v)
      release [v, ov, iv] []) := by intro _; rfl) : DG X (.Subscript o i pos) (gSet wo wi fSet) :=
  pgWeak (pg_sub ho hi (psetOr set_list (set_dict hu)) ha) fun v σ H Qt ⟨Fo, S, d, Q, rs, r, h, k⟩ => ⟨Fo, S, _, rs, h, fun v1 H1 d1 M1 g1 m1 r1 q1 =>
    ⟨Fo, ⟨S.env, M1⟩, _, rs.go g1 m1, q1, fun v2 H2 d2 M2 g2 m2 r2 q2 => set_ok m2 (r1.go g2) r2 (r.go (g1.trans g2)) q2 fun M' H' g m q => k ⟨S.env, M'⟩ σ H' (g1.trans (g2.trans g)) (rs.go (g1.trans (g2.trans g)) m) q⟩⟩

/-! ### assignments -/
def wAsg (w : WE) (g : WG) : WS := fun S D => w S fun d M => g d ⟨S.env, M⟩ D.nx
theorem ds_asg {g : WG} (he : DE X e we) (hg : DG X tg g) (hs : swapsWithSole [tg] e pos.line X.env = pure false := by rfl) (hw : swappedStores [tg] e X.env = pure none := by rfl)
    (h1 : (assignEach [tg] X.env).map (·.2) = [assign tg X.env] := by rfl) : DSt X (.Assign [tg] e pos) (wAsg we g) := psWeak (ps_asg he hg hs hw h1) fun Dt σ H ⟨Fo, S, D, rs, h, k⟩ =>
  ⟨Fo, S, _, rs, h, fun v H' d M' g m r q => ⟨Fo, ⟨S.env, M'⟩, d, _, rs.go g m, r, q, (show FinG ⟨X.K, Fo⟩ S.M H D.nx Dt.nx from k.nx).go g⟩⟩
def wSet (i : Nat) (w : WE) : WS := fun S D => w S fun d M => D.nx ⟨S.env.set i (some d), M⟩
/-- from a rule whose reading is «the value, then the slot» -/
theorem ds_set' {i : Nat} (h : PS X st (tAsg (LE X.K we) (gName i))) : DSt X st (wSet i we) := psWeak h fun Dt σ H ⟨Fo, S, D, rs, h, k⟩ =>
  ⟨Fo, S, _, rs, h, fun v H' d M' g m r q => k.nx ⟨_, M'⟩ _ H' g ((rs.go g m).set i r) q⟩
/-- .. of a new object: it may be changed from now on -/
def wSetNew (i : Nat) (w : WN) : WS := fun S D => w S fun mo M => ∀ p, M p = none → D.nx ⟨S.env.set i (some (.ref p)), updM M p mo⟩
theorem ds_setNew' {i : Nat} (h : PS X st (tAsg (LN X.K wn) (gName i))) : DSt X st (wSetNew i wn) := psWeak h fun Dt σ H ⟨Fo, S, D, rs, h, k⟩ =>
  ⟨Fo, S, _, rs, h, fun a H' mo M' g n m q => k.nx ⟨_, _⟩ _ H' g ((rs.go g m).set i (.ref a)) (q a n)⟩
end
end Lk

namespace Lk
open PySem PySem.Spec L2

/-! ### what is walked -/
/-- J gives ds, one after another, whatever happens meanwhile -/
structure Ity (K : KF) (M : Mh) (H : Hp) (J : It) (ds : List Dat) : Prop where
  go : ∀ F M1 H1, GoF K.fo F M H M1 H1 → RelM ⟨K.k, F⟩ M1 H1 → ∀ i, i < ds.length → J.go i H1
  yld : ∀ F M1 H1, GoF K.fo F M H M1 H1 → RelM ⟨K.k, F⟩ M1 H1 → ∀ i, i < ds.length → ∀ x H', J.yld i H1 x H' → ∃ d, ds[i]? = some d ∧ Go M1 H1 M1 H' ∧ RelM ⟨K.k, F⟩ M1 H' ∧ Rep ⟨K.k, F⟩ M1 H' d x
  stop : ∀ F M1 H1, GoF K.fo F M H M1 H1 → RelM ⟨K.k, F⟩ M1 H1 → J.stop ds.length H1
abbrev WI := DS → (List Dat → Mh → Prop) → Prop
def LI (K : PySem.W.Frag) (w : WI) : TI := fun σ H R => ∃ Fo S Q, RelS ⟨K, Fo⟩ S σ H ∧ w S Q ∧ ∀ J H' ds M', Go S.M H M' H' → RelM ⟨K, Fo⟩ M' H' → Ity ⟨K, Fo⟩ M' H' J ds → Q ds M' → R J H'
def DI (X : Cx) (tg iter : Expr) (w : WI) : Prop := PI X tg iter (LI X.K w)
section
variable {X : Cx} {tg e e2 a b : Expr} {pos p : Pos} {we wa wb : WE} {ws : WA}
theorem piWeak {t t' : TI} (h : PI X tg e t) (k : ∀ σ H R, t' σ H R → t σ H R) : PI X tg e t' := ⟨fun pins s σ H R I q => h.run pins s σ H R I (k σ H R q)⟩
theorem piOr {t t' : TI} (h : PI X tg e t) (h' : PI X tg e t') : PI X tg e (fun σ H R => t σ H R ∨ t' σ H R) := ⟨fun pins s σ H R I q => q.elim (h.run pins s σ H R I) (h'.run pins s σ H R I)⟩
theorem its_list {K : KF} {M : Mh} {H : Hp} {a : Addr} {ds : List Dat} {vs : List V} (q : ∀ F M1 H1, GoF K.fo F M H M1 H1 → SqL K.k H1 a vs) (r : Reps K M H ds vs) : Ity K M H (Itl K.k a) ds where
  go := fun F M1 H1 g _ i hi => by
    obtain ⟨d, hd⟩ : ∃ d, ds[i]? = some d := ⟨ds[i], by simp [hi]⟩
    obtain ⟨v, hv, _⟩ := r.get hd
    exact ⟨vs, v, q F M1 H1 g, hv⟩
  yld := fun F M1 H1 g m i hi x H' y => by
    obtain ⟨e, y⟩ := y
    subst e
    obtain ⟨d, hd, rd⟩ := r.get' (y vs (q F M1 _ g))
    exact ⟨d, hd, .refl _ _, m, rd.move g⟩
  stop := fun F M1 H1 g _ => ⟨vs, q F M1 H1 g, by rw [r.length]; exact Nat.le_refl _⟩
theorem its_tup {K : KF} {M : Mh} {H : Hp} {a : Addr} {ds : List Dat} {vs : List V} (f : FzT K M H a vs) (r : Reps K M H ds vs) : Ity K M H (Itt K.k a) ds where
  go := fun F M1 H1 g _ i hi => by
    obtain ⟨d, hd⟩ : ∃ d, ds[i]? = some d := ⟨ds[i], by simp [hi]⟩
    obtain ⟨v, hv, _⟩ := r.get hd
    exact ⟨vs, v, (f.move g).sq, hv⟩
  yld := fun F M1 H1 g m i hi x H' y => by
    obtain ⟨e, y⟩ := y
    subst e
    obtain ⟨d, hd, rd⟩ := r.get' (y vs (f.move g).sq)
    exact ⟨d, hd, .refl _ _, m, rd.move g⟩
  stop := fun F M1 H1 g _ => ⟨vs, (f.move g).sq, by rw [r.length]; exact Nat.le_refl _⟩
/-- a tuple or a list that no one changes -/
def frOf : Dat → Option (List Dat)
  | .tup xs => some xs
  | .fl xs => some xs
  | .rd xs => some xs
  | _ => none
/-- a text's signs -/
def signs (x : Str) : List Dat := x.cps.toList.map fun c => .str ⟨#[c]⟩
def itOf : Dat → Option (List Dat)
  | .str x => some (signs x)
  | d => frOf d
def wIter (w : WE) : WI := fun S Q => w S fun d M => ∃ ds, itOf d = some ds ∧ Q ds M
theorem its_str {K : KF} {M : Mh} {H : Hp} {x : Str} : Ity K M H (Its x) (signs x) where
  go := fun F M1 H1 g _ i hi => (walk_str (z := x)).goes i H1 (by simpa [signs] using hi) trivial
  yld := fun F M1 H1 g m i hi v H' y => by
    obtain ⟨e, c, hc, ev⟩ := (walk_str (z := x)).yields i H1 v H' (by simpa [signs] using hi) trivial y
    subst e; subst ev
    refine ⟨.str ⟨#[c]⟩, ?_, .refl _ _, m, .str _⟩
    unfold signs
    rw [List.getElem?_map, Array.getElem?_toList, hc]
    rfl
  stop := fun F M1 H1 g _ => by
    have h := (walk_str (z := x)).stops H1 trivial
    have e : (signs x).length = x.cps.size := by simp [signs]
    rw [e]; exact h
/-- iter(x), by values -/
def PIv (X : Cx) (tg : Expr) (r : V → Hp → (It → Hp → Prop) → Prop) : Prop := ∀ (pins : List (Addr × Obj)) (s : Shared) (σ : L2.St) (H : Hp) (x : V) (v : Value) (R : It → Hp → Prop), Inv X pins σ H s → RelV x v → r x H R → wpAny (model X.prog X.w) X.A (pyIter v) (PIE X pins σ tg R) X.xe s
theorem PIv.or {r r' : V → Hp → (It → Hp → Prop) → Prop} (h : PIv X tg r) (h' : PIv X tg r') : PIv X tg (fun x H R => r x H R ∨ r' x H R) := fun pins s σ H x v R I rx q => q.elim (h pins s σ H x v R I rx) (h' pins s σ H x v R I rx)
theorem pi_of {t : TE} {r : V → Hp → (It → Hp → Prop) → Prop} (he : PE X e t) (hr : PIv X tg r) : PI X tg e (fun σ H R => t σ H fun x H1 => r x H1 R) := ⟨fun pins s σ H R I h => thn (he.run pins s σ H _ I h) fun v s1 ⟨x, H1, I1, r1, q1⟩ => hr pins s1 σ H1 x v R I1 r1 q1⟩
theorem piv_list : PIv X tg (fun x H R => ∃ a xs, x = .ref a ∧ SqL X.K H a xs ∧ R (Itl X.K a) H) := fun pins s σ H x v R I rx ⟨a, xs, e, hq, q⟩ => by
  subst e
  cases rx
  obtain ⟨its, rv, p, hz⟩ := I.list hq
  exact wpAny_pyIter_list p.isList (pi_one (tk := s.toks) I _ (turn_list a _) ⟨_, Heap.get?_push_size _ rfl, rfl, rfl⟩ q)
theorem piv_tup : PIv X tg (fun x H R => ∃ a xs, x = .ref a ∧ SqT X.K H a xs ∧ R (Itt X.K a) H) := fun pins s σ H x v R I rx ⟨a, xs, e, hq, q⟩ => by
  subst e
  cases rx
  obtain ⟨its, rv, p, hz⟩ := I.tuple hq
  exact wpAny_pyIter_tuple (show s.heap.IsTuple a its.toArray from p) (pi_one (tk := s.toks) I _ (turn_tuple a _) ⟨_, Heap.get?_push_size _ rfl, rfl, rfl⟩ q)
theorem piv_str : PIv X tg (fun x H R => ∃ z, x = .str z ∧ R (L2.Its z) H) := fun pins s σ H x v R I rx ⟨z, e, q⟩ => by
  subst e
  obtain ⟨t, rfl⟩ := rx
  cases ha : z.cps.all (· < 128)
  · exact wpAny_pyIter_wide ha (pi_one (tk := s.toks) I _ (turn_str _ z t "str_iterator" (.inr rfl)) ⟨_, Heap.get?_push_size _ rfl, rfl, rfl⟩ q)
  · exact wpAny_pyIter_ascii ha (pi_one (tk := s.toks) I _ (turn_str _ z t "str_ascii_iterator" (.inl rfl)) ⟨_, Heap.get?_push_size _ rfl, rfl, rfl⟩ q)
theorem di_val (he : DE X e we) : DI X tg e (wIter we) := piWeak (pi_of he (piv_tup.or (piv_list.or piv_str))) fun σ H R ⟨Fo, S, Q, rs, h, k⟩ => ⟨Fo, S, _, rs, h, fun v H' d M' g m r ⟨ds, e, q⟩ => by
  cases r with
  | str x => cases e; exact .inr (.inr ⟨x, rfl, k _ _ _ _ g m its_str q⟩)
  | tup f rr => cases e; exact .inl ⟨_, _, rfl, f.sq, k _ _ _ _ g m (its_tup f rr) q⟩
  | fl f rr => cases e; exact .inr (.inl ⟨_, _, rfl, f.sq, k _ _ _ _ g m (its_list (fun F M1 H1 g1 => (f.move g1).sq) rr) q⟩)
  | rd f rr => cases e; exact .inr (.inl ⟨_, _, rfl, f.sq, k _ _ _ _ g m (its_list (fun F M1 H1 g1 => (f.move g1).sq) rr) q⟩)
  | _ => cases e⟩
def intsD (lo : Int) (n : Nat) : List Dat := (List.range n).map fun (i : Nat) => Dat.int (lo + (i : Int))
theorem its_range {K : KF} {M : Mh} {H : Hp} {lo : Int} {n : Nat} : Ity K M H (Itr lo n) (intsD lo n) where
  go := fun F M1 H1 g _ i hi => show i < n by simpa [intsD] using hi
  yld := fun F M1 H1 g m i hi x H' y => by
    obtain ⟨e, ex⟩ := y
    subst e; subst ex
    have hi' : i < n := by simpa [intsD] using hi
    exact ⟨.int (lo + (i : Int)), by simp [intsD, hi'], .refl _ _, m, .int _⟩
  stop := fun F M1 H1 g _ => show n ≤ _ by simp [intsD]
/-- bounds of a range -/
def RB (i : Int) : Prop := -16777216 ≤ i ∧ i ≤ 16777216
theorem RB.in {i : Int} (h : RB i) : -(2 ^ 62) ≤ i ∧ i < 2 ^ 62 := by
  obtain ⟨h1, h2⟩ := h
  have e : (2 : Int) ^ 62 = 4611686018427387904 := by decide
  rw [e]
  omega
def wRange1 (w : WE) : WI := fun S Q => w S fun d M => match d with
  | .int j => RB j ∧ Q (intsD 0 j.toNat) M
  | _ => False
theorem di_range1 (hg : Gl X "range") (hm : X.mg "range" = none) (ha : DE X a we) (hs : starEach [a] X.env = [(false, eval a X.env)] := by rfl) (hs2 : starEach [a] X.env = (false, eval a X.env) :: starEach [] X.env := by rfl) : DI X tg (.Call (.Name "range" p) [a] [] pos) (wRange1 we) :=
  piWeak (pi_range1 hg hm (pa_cons ha pa_nil hs2) hs) fun σ H R ⟨Fo, S, Q, rs, h, k⟩ => ⟨Fo, S, _, rs, h, fun v H' d M' g m r q => by
    cases r with
    | int j => exact ⟨j, rfl, q.1.in.1, q.1.in.2, k _ _ _ _ g m its_range q.2⟩
    | _ => exact q.elim⟩
def wRange2 (w u : WE) : WI := fun S Q => w S fun d M => u ⟨S.env, M⟩ fun d2 M2 => match d, d2 with
  | .int i, .int j => RB i ∧ RB j ∧ Q (intsD i (j - i).toNat) M2
  | _, _ => False
theorem di_range2 (hg : Gl X "range") (hm : X.mg "range" = none) (ha : DE X a wa) (hb : DE X b wb) (hs : starEach [a, b] X.env = [(false, eval a X.env), (false, eval b X.env)] := by rfl) (hs2 : starEach [b] X.env = [(false, eval b X.env)] := by rfl)
    (hs3 : starEach [a, b] X.env = (false, eval a X.env) :: starEach [b] X.env := by rfl) (hs4 : starEach [b] X.env = (false, eval b X.env) :: starEach [] X.env := by rfl) : DI X tg (.Call (.Name "range" p) [a, b] [] pos) (wRange2 wa wb) :=
  piWeak (pi_range2 hg hm (pa_cons ha (pa_cons hb pa_nil hs4) hs3) hs hs2) fun σ H R ⟨Fo, S, Q, rs, h, k⟩ => ⟨Fo, S, _, rs, h, fun v H' d M' g m r q => ⟨Fo, ⟨S.env, M'⟩, _, rs.go g m, q, fun v2 H2 d2 M2 g2 m2 r2 q2 => by
    cases r with
    | int i =>
      cases r2 with
      | int j => exact ⟨i, j, rfl, ⟨q2.1.in.1, q2.1.in.2, q2.2.1.in.1, q2.2.1.in.2⟩, k _ _ _ _ (g.trans g2) m2 its_range q2.2.2⟩
      | _ => exact q2.elim
    | _ => exact q2.elim⟩⟩
/-- going down by ones -/
def downD (lo : Int) (n : Nat) : List Dat := (List.range n).map fun (i : Nat) => Dat.int (lo - (i : Int))
theorem its_down {K : KF} {M : Mh} {H : Hp} {lo : Int} {n : Nat} : Ity K M H (Itc lo (-1) n) (downD lo n) where
  go := fun F M1 H1 g _ i hi => show i < n by simpa [downD] using hi
  yld := fun F M1 H1 g m i hi x H' y => by
    obtain ⟨e, ex⟩ := y
    subst e; subst ex
    have hi' : i < n := by simpa [downD] using hi
    have e2 : lo + (i : Int) * (-1) = lo - (i : Int) := by omega
    rw [e2]
    exact ⟨.int (lo - (i : Int)), by simp [downD, hi'], .refl _ _, m, .int _⟩
  stop := fun F M1 H1 g _ => show n ≤ _ by simp [downD]
def wRangeD (w u : WE) : WI := fun S Q => w S fun d M => u ⟨S.env, M⟩ fun d2 M2 => match d, d2 with
  | .int i, .int j => RB i ∧ RB j ∧ Q (downD i (i - j).toNat) M2
  | _, _ => False
theorem di_rangeD {c : Expr} {wc : WE} (hg : Gl X "range") (hm : X.mg "range" = none) (ha : DE X a wa) (hb : DE X b wb) (hc : DE X c (wUn fNeg (wC (.int 1))))
    (hs : starEach [a, b, c] X.env = (false, eval a X.env) :: starEach [b, c] X.env := by rfl) (hpl : (backTo pos (starEach [b, c] X.env)).any (·.1) = false := by rfl)
    (hs3 : starEach [b, c] X.env = (false, eval b X.env) :: starEach [c] X.env := by rfl) (hs4 : starEach [c] X.env = (false, eval c X.env) :: starEach [] X.env := by rfl) : DI X tg (.Call (.Name "range" p) [a, b, c] [] pos) (wRangeD wa wb) :=
  piWeak (pi_range3 hg hm (pa_cons ha (pa_cons hb (pa_cons hc pa_nil hs4) hs3) hs) hs hpl) fun σ H R ⟨Fo, S, Q, rs, h, k⟩ => ⟨Fo, S, _, rs, h, fun v H' d M' g m r q => ⟨Fo, ⟨S.env, M'⟩, _, rs.go g m, q, fun v2 H2 d2 M2 g2 m2 r2 q2 => ⟨Fo, ⟨S.env, M2⟩, fun d3 M3 => d3 = .int (-1) ∧ M3 = M2, (rs.go g m).go g2 m2, ⟨rfl, rfl⟩, fun v3 H3 d3 M3 g3 m3 r3 q3 => by
    obtain ⟨e3, em⟩ := q3
    subst e3; subst em
    cases r3
    cases r with
    | int i =>
      cases r2 with
      | int j => exact ⟨i, j, -1, (i - j).toNat, rfl, RgC.neg q2.1.in.1 q2.1.in.2 q2.2.1.in.1 q2.2.1.in.2, k _ _ _ _ (g.trans (g2.trans g3)) m3 its_down q2.2.2⟩
      | _ => exact q2.elim
    | _ => exact q2.elim⟩⟩⟩
/-- zip of two lists, of two tuples -/
def pairsD (xs ys : List Dat) : List Dat := (xs.zip ys).map fun p => .tup [p.1, p.2]
def zipOf : Dat → Dat → Option (List Dat)
  | .tup xs, .tup ys => some (pairsD xs ys)
  | .fl xs, .fl ys => some (pairsD xs ys)
  | _, _ => none
theorem zipOf_cases {d d2 : Dat} {ds : List Dat} (h : zipOf d d2 = some ds) : ∃ xs ys, ((∃ h : d = .tup xs, d2 = .tup ys) ∨ (∃ h : d = .fl xs, d2 = .fl ys)) ∧ ds = pairsD xs ys := by
  unfold zipOf at h
  split at h
  · cases h; exact ⟨_, _, .inl ⟨rfl, rfl⟩, rfl⟩
  · cases h; exact ⟨_, _, .inr ⟨rfl, rfl⟩, rfl⟩
  · cases h
def wZip (w u : WE) : WI := fun S Q => w S fun d M => u ⟨S.env, M⟩ fun d2 M2 => ∃ ds, zipOf d d2 = some ds ∧ Q ds M2
theorem its_pairs {K : KF} {M : Mh} {H : Hp} {J : It} {xs ys : List Dat} {vs ws : List V} (rx : Reps K M H xs vs) (ry : Reps K M H ys ws)
    (hgo : ∀ F M1 H1, GoF K.fo F M H M1 H1 → ∀ (i : Nat) x y, vs[i]? = some x → ws[i]? = some y → J.go i H1)
    (hy : ∀ F M1 H1, GoF K.fo F M H M1 H1 → ∀ (i : Nat) v H', J.yld i H1 v H' → ∃ T x y, v = .ref T ∧ H1 T = none ∧ H' = upd H1 T (.tup [x, y]) ∧ vs[i]? = some x ∧ ws[i]? = some y)
    (hst : ∀ F M1 H1, GoF K.fo F M H M1 H1 → ∀ i : Nat, vs.length ≤ i ∨ ws.length ≤ i → J.stop i H1) : Ity K M H J (pairsD xs ys) where
  go := fun F M1 H1 g _ i hi => by
    simp only [pairsD, List.length_map, List.length_zip] at hi
    have l1 := rx.length
    have l2 := ry.length
    exact hgo F M1 H1 g i vs[i] ws[i] (by simp) (by simp)
  yld := fun F M1 H1 g m i hi v H' y => by
    obtain ⟨T, x, y, e, hT, eH, h1, h2⟩ := hy F M1 H1 g i v H' y
    subst e; subst eH
    obtain ⟨d1, e1, r1⟩ := rx.get' h1
    obtain ⟨d2, e2, r2⟩ := ry.get' h2
    refine ⟨.tup [d1, d2], ?_, .fresh hT, m.fresh hT, .tup (.inl ⟨m.free hT, m.nfo hT, .inl upd_same⟩) (.cons ((r1.move g).go (.fresh hT)) (.cons ((r2.move g).go (.fresh hT)) .nil))⟩
    simp only [pairsD, List.getElem?_map, List.getElem?_zip_eq_some, Option.map_eq_some_iff, Prod.exists]
    exact ⟨d1, d2, ⟨e1, e2⟩, rfl⟩
  stop := fun F M1 H1 g _ => hst F M1 H1 g _ (by
    have l1 := rx.length
    have l2 := ry.length
    simp only [pairsD, List.length_map, List.length_zip]
    omega)
theorem di_zip {elts : List Expr} {kk : Nat} {tpos : Pos} (hg : Gl X "zip") (hm : X.mg "zip" = none) (ha : DE X a wa) (hb : DE X b wb)
    (hs : starEach [a, b] X.env = (false, eval a X.env) :: starEach [b] X.env := by rfl) (hpl : (backTo pos (starEach [b] X.env)).any (·.1) = false := by rfl) (hs4 : starEach [b] X.env = (false, eval b X.env) :: starEach [] X.env := by rfl) :
    DI X (.Tuple elts kk tpos) (.Call (.Name "zip" p) [a, b] [] pos) (wZip wa wb) :=
  piWeak (RZ.pi_zipA hg hm (pa_cons ha (pa_cons hb pa_nil hs4) hs) hs hpl) fun σ H R ⟨Fo, S, Q, rs, h, k⟩ => ⟨Fo, S, _, rs, h, fun v H' d M' g m r q => ⟨Fo, ⟨S.env, M'⟩, _, rs.go g m, q, fun v2 H2 d2 M2 g2 m2 r2 q2 => by
    obtain ⟨ds, hz, q2⟩ := q2
    obtain ⟨xs, ys, hh, eds⟩ := zipOf_cases hz
    subst eds
    rcases hh with ⟨e1, e2⟩ | ⟨e1, e2⟩
    · subst e1; subst e2
      cases r with
      | tup f1 rr1 =>
        cases r2 with
        | tup f2 rr2 =>
          have f1 := f1.go g2
          have rr1 := rr1.go g2
          refine ⟨_, _, _, _, rfl, .inr ⟨f1.sq, f2.sq, k _ _ _ _ (g.trans g2) m2 (its_pairs rr1 rr2 (fun F M1 H1 g i x y h1 h2 => ⟨_, _, x, y, (f1.move g).sq, (f2.move g).sq, h1, h2⟩) (fun F M1 H1 g i v H' ⟨T, x, y, e, hT, eH, h1, h2⟩ => ⟨T, x, y, e, hT, eH, h1 _ (f1.move g).sq, h2 _ (f2.move g).sq⟩) (fun F M1 H1 g i h => ⟨_, _, (f1.move g).sq, (f2.move g).sq, h⟩)) q2⟩⟩
    · subst e1; subst e2
      cases r with
      | fl f1 rr1 =>
        cases r2 with
        | fl f2 rr2 =>
          have f1 := f1.go g2
          have rr1 := rr1.go g2
          refine ⟨_, _, _, _, rfl, .inl ⟨f1.sq, f2.sq, k _ _ _ _ (g.trans g2) m2 (its_pairs rr1 rr2 (fun F M1 H1 g i x y h1 h2 => ⟨_, _, x, y, (f1.move g).sq, (f2.move g).sq, h1, h2⟩) (fun F M1 H1 g i v H' ⟨T, x, y, e, hT, eH, h1, h2⟩ => ⟨T, x, y, e, hT, eH, h1 _ (f1.move g).sq, h2 _ (f2.move g).sq⟩) (fun F M1 H1 g i h => ⟨_, _, (f1.move g).sq, (f2.move g).sq, h⟩)) q2⟩⟩⟩⟩

/-! ### for, while -/
variable {body : List Stmt} {t : WS} {wi : WI} {g : WG} {c : Expr} {wt : WT}
def wForL (g : WG) (t : WS) : List Dat → WS
  | [] => fun S D => D.nx S
  | d :: ds => fun S D => g d S fun S1 => t S1 { D with nx := fun S' => ∃ S0, Imp S' S0 ∧ wForL g t ds S0 D, ct := fun S' => ∃ S0, Imp S' S0 ∧ wForL g t ds S0 D, bk := D.nx }
def wFor (wi : WI) (g : WG) (t : WS) : WS := fun S D => wi S fun ds M => wForL g t ds ⟨S.env, M⟩ D
theorem ds_for (hp : PassesOwn (model X.prog X.w) X.A X.env X.xe) (hc : X.calm = true) (hi : DI X tg e wi) (hg : DG X tg g) (hb : DSs X body t) (hs : ∀ x, foldedSetIterable e X.env x = pure x := by intro _; rfl) : DSt X (.For tg e body [] pos) (wFor wi g t) :=
  psWeak (ps_for hp hc hi hg hb hs) fun Dt σ H ⟨Fo, S, D, rs, h, k⟩ => ⟨Fo, S, _, rs, h, fun J H1 ds M1 g1 m1 it q => by
    refine ⟨fun i m σ' H' => m = ds.length - i ∧ i ≤ ds.length ∧ ∃ S', Go M1 H1 S'.M H' ∧ RelS ⟨X.K, Fo⟩ S' σ' H' ∧ wForL g t (ds.drop i) S' D, ⟨ds.length, by simp, Nat.zero_le _, ⟨S.env, M1⟩, .refl _ _, rs.go g1 m1, by simpa using q⟩, ?_⟩
    rintro i m σ' H' ⟨rfl, hi, S', gg, rs', q'⟩
    by_cases hlt : i < ds.length
    · refine .inr ⟨it.go _ _ _ gg.f rs'.mem i hlt, fun σ2 H2 => ∃ S2, Go M1 H1 S2.M H2 ∧ RelS ⟨X.K, Fo⟩ S2 σ2 H2 ∧ wForL g t (ds.drop (i + 1)) S2 D, fun σ2 H2 ⟨S2, a, b, c⟩ => ⟨ds.length - (i + 1), by omega, rfl, hlt, S2, a, b, c⟩, fun x H2 y => ?_⟩
      obtain ⟨d, hd, g2, m2, r2⟩ := it.yld _ _ _ gg.f rs'.mem i hlt x H2 y
      have ed : ds.drop i = d :: ds.drop (i + 1) := by
        rw [List.drop_eq_getElem_cons hlt]
        rw [List.getElem?_eq_getElem hlt] at hd
        cases hd
        rfl
      rw [ed] at q'
      refine ⟨Fo, S', d, _, rs'.go g2 m2, r2, q', fun S3 σ3 H3 g3 rs3 q3 => ⟨Fo, S3, _, rs3, q3, ?_⟩⟩
      have gall : Go M1 H1 S3.M H3 := gg.trans (g2.trans g3)
      refine ⟨fun S4 σ4 H4 g4 rs4 ⟨S0, i0, q4⟩ => ⟨S0, gall.trans (g4.trans (i0 _ _ _ rs4).2), (i0 _ _ _ rs4).1, q4⟩, fun r M' v H4 ok q4 => k.rt r M' v H4 (ok.pre (g1.trans gall)) q4, fun S4 σ4 H4 g4 rs4 q4 => k.nx S4 σ4 H4 (g1.trans (gall.trans g4)) rs4 q4, fun S4 σ4 H4 g4 rs4 ⟨S0, i0, q4⟩ => ⟨S0, gall.trans (g4.trans (i0 _ _ _ rs4).2), (i0 _ _ _ rs4).1, q4⟩⟩
    · have e : i = ds.length := by omega
      subst e
      rw [List.drop_length] at q'
      exact .inl ⟨it.stop _ _ _ gg.f rs'.mem, k.nx S' σ' H' (g1.trans gg) rs' q'⟩⟩
def wWhile (c : WT) (t : WS) : WS := fun S D => ∃ W : Nat → DS → Prop, (∃ m S0, Imp S S0 ∧ W m S0) ∧ ∀ m S, W m S → c S fun b M => if b = true then t ⟨S.env, M⟩ { D with nx := fun S' => ∃ m' S0, m' < m ∧ Imp S' S0 ∧ W m' S0, ct := fun S' => ∃ m' S0, m' < m ∧ Imp S' S0 ∧ W m' S0, bk := D.nx } else D.nx ⟨S.env, M⟩
theorem ds_while (hp : PassesOwn (model X.prog X.w) X.A X.env X.xe) (hc : DT X c wt) (hb : DSs X body t) : DSt X (.While c body [] pos) (wWhile wt t) :=
  psWeak (ps_while hp hc hb) fun Dt σ H ⟨Fo, S, D, rs, ⟨W, ⟨m0, S0, i0, w0⟩, turn⟩, k⟩ => by
    refine ⟨fun m σ' H' => ∃ S', Go S.M H S'.M H' ∧ RelS ⟨X.K, Fo⟩ S' σ' H' ∧ W m S', ⟨m0, S0, (i0 _ _ _ rs).2, (i0 _ _ _ rs).1, w0⟩, ?_⟩
    rintro m σ' H' ⟨S', gg, rs', w'⟩
    refine ⟨Fo, S', _, rs', turn m S' w', fun b H1 M1 g1 m1 q => ?_⟩
    cases b with
    | true =>
      rw [if_pos rfl] at q ⊢
      refine ⟨fun σ2 H2 => ∃ m', m' < m ∧ ∃ S2, Go S.M H S2.M H2 ∧ RelS ⟨X.K, Fo⟩ S2 σ2 H2 ∧ W m' S2, fun σ2 H2 ⟨m', hm, S2, a, b, c⟩ => ⟨m', hm, S2, a, b, c⟩, Fo, ⟨S'.env, M1⟩, _, rs'.go g1 m1, q, ?_⟩
      exact ⟨fun S4 σ4 H4 g4 rs4 ⟨m', S0, hm, i0, q4⟩ => ⟨m', hm, S0, gg.trans (g1.trans (g4.trans (i0 _ _ _ rs4).2)), (i0 _ _ _ rs4).1, q4⟩, fun r M' v H4 ok q4 => k.rt r M' v H4 (ok.pre (gg.trans g1)) q4, fun S4 σ4 H4 g4 rs4 q4 => k.nx S4 σ4 H4 (gg.trans (g1.trans g4)) rs4 q4, fun S4 σ4 H4 g4 rs4 ⟨m', S0, hm, i0, q4⟩ => ⟨m', hm, S0, gg.trans (g1.trans (g4.trans (i0 _ _ _ rs4).2)), (i0 _ _ _ rs4).1, q4⟩⟩
    | false =>
      rw [if_neg Bool.false_ne_true] at q ⊢
      exact k.nx ⟨S'.env, M1⟩ σ' H1 (gg.trans g1) (rs'.go g1 m1) q
end
end Lk

namespace Lk
open PySem PySem.Spec L2

/-- what a def is worth: arguments, changeable objects, the wish -/
abbrev WF := List Dat → Mh → (Res → Mh → Prop) → Prop
def LF (K : PySem.W.Frag) (n : Nat) (w : WF) : Sp := fun vs H Q _ => vs.length = n ∧ ∃ Fo ds M Qd, RelM ⟨K, Fo⟩ M H ∧ Reps ⟨K, Fo⟩ M H ds vs ∧ w ds M Qd ∧ ∀ r M' v H', RetOk ⟨K, Fo⟩ M H r M' v H' → Qd r M' → Q v H'
structure Has (P : Program) (w : World) (K : PySem.W.Frag) (mg : Str → Option Value) (base : Heap) (x : Str) (k n : Nat) (wf : WF) : Prop where
  ex : ∃ (f : Addr) (fd : FuncData) (ps : List Str), mg x = some (.ref f) ∧ PySem.W.keepIn K (.ref f) = true ∧ Binds K fd ps [] ∧ FnOk P w K mg base CX0 k f fd ps (LF K n wf)
theorem Has.imp {P : Program} {w : World} {K : PySem.W.Frag} {mg : Str → Option Value} {base : Heap} {x : Str} {k n : Nat} {wf wf' : WF} (h : Has P w K mg base x k n wf) (i : ∀ ds M Q, ds.length = n → wf' ds M Q → wf ds M Q) : Has P w K mg base x k n wf' := by
  obtain ⟨f, fd, ps, a, b, c, d⟩ := h.ex
  exact ⟨f, fd, ps, a, b, c, d.imp fun vs H Q E ⟨hn, Fo, ds, M, Qd, m, r, q, z⟩ => ⟨hn, Fo, ds, M, Qd, m, r, i ds M Qd (r.length.trans hn) q, z⟩⟩
def onVal (Q : VD) : Res → Mh → Prop := fun r M => match r with
  | .val d => Q d M
  | .new (.lst xs) => Q (.fl xs) M
  | _ => False
def onNew (Q : MO → Mh → Prop) : Res → Mh → Prop := fun r M => match r with
  | .new mo => Q mo M
  | _ => False
def wCall (wf : WF) (ws : WA) : WE := fun S Q => ws S fun ds M => wf ds M (onVal Q)
def wCallN (wf : WF) (ws : WA) : WN := fun S Q => ws S fun ds M => wf ds M (onNew Q)
section
variable {X : Cx} {x : Str} {k n : Nat} {wf : WF} {ws : WA} {e : Expr} {es : List Expr} {p pos : Pos}
theorem RetOk.val {K : KF} {M M' : Mh} {H H' : Hp} {Q : VD} {Qt : VK} {r : Res} {v : V} (f : Fin K M H Q Qt) (ok : RetOk K M H r M' v H') (q : onVal Q r M') : Qt v H' := by
  cases r with
  | val d => exact f v H' d M' ok.1 ok.2.1 ok.2.2 q
  | new mo =>
    cases mo with
    | lst xs =>
      obtain ⟨a, rfl, nn, g, m⟩ := ok
      have l : LeM M' (updM M' a (.lst xs)) := .upd nn
      obtain ⟨vs, h1, h2⟩ : MOk K (updM M' a (.lst xs)) H' a (.lst xs) := m.ob a _ updM_same
      have nf : ¬ K.fo a := fun f => by
        have z := (m.fo a f).1
        rw [updM_same] at z; cases z
      exact f _ H' (.fl xs) M' (g.trans (.le l)) (m.le l) (.fl ⟨nn, nf, h1⟩ (h2.go (.le l))) q
    | _ => exact q.elim
theorem RetOk.new' {K : KF} {M M' : Mh} {H H' : Hp} {Q : MO → Mh → Prop} {Qt : VK} {r : Res} {v : V} (f : FinN K M H Q Qt) (ok : RetOk K M H r M' v H') (q : onNew Q r M') : Qt v H' := by
  cases r with
  | val d => exact q.elim
  | new mo =>
    obtain ⟨a, rfl, nn, g, m⟩ := ok
    exact f a H' mo M' g nn m q
theorem de_call (h : Has X.prog X.w X.K X.mg X.base x k n wf) (hr : Room k X.A) (hg : Gl X x) (ha : DA X (e :: es) n ws) (hdb : (x == ("__debug__" : Str)) = false := by decide)
    (he : starEach (e :: es) X.env = (false, eval e X.env) :: starEach es X.env := by rfl) (hpl : (backTo pos (starEach es X.env)).any (·.1) = false := by rfl) : DE X (.Call (.Name x p) (e :: es) [] pos) (wCall wf ws) := by
  obtain ⟨f, fd, ps, hm, hk, hb, F⟩ := h.ex
  refine peWeak (pe_call F hr hg hm hk hb .nil (E := E0) pass0 ha hdb he hpl) fun σ H Qt ⟨Fo, S, Q, rs, h, kk⟩ => ⟨Fo, S, _, rs, h, fun vs H' ds M' g m r q hn => ?_⟩
  refine ⟨by rw [List.append_nil]; exact hn, Fo, ds, M', _, m, by rw [List.append_nil]; exact r, q, fun r M2 v H2 ok q2 => ok.val (kk.go g) q2⟩
theorem dn_call (h : Has X.prog X.w X.K X.mg X.base x k n wf) (hr : Room k X.A) (hg : Gl X x) (ha : DA X (e :: es) n ws) (hdb : (x == ("__debug__" : Str)) = false := by decide)
    (he : starEach (e :: es) X.env = (false, eval e X.env) :: starEach es X.env := by rfl) (hpl : (backTo pos (starEach es X.env)).any (·.1) = false := by rfl) : DN X (.Call (.Name x p) (e :: es) [] pos) (wCallN wf ws) := by
  obtain ⟨f, fd, ps, hm, hk, hb, F⟩ := h.ex
  refine peWeak (pe_call F hr hg hm hk hb .nil (E := E0) pass0 ha hdb he hpl) fun σ H Qt ⟨Fo, S, Q, rs, h, kk⟩ => ⟨Fo, S, _, rs, h, fun vs H' ds M' g m r q hn => ?_⟩
  refine ⟨by rw [List.append_nil]; exact hn, Fo, ds, M', _, m, by rw [List.append_nil]; exact r, q, fun r M2 v H2 ok q2 => ok.new' (kk.go g) q2⟩
theorem de_call0 (h : Has X.prog X.w X.K X.mg X.base x k 0 wf) (hr : Room k X.A) (hg : Gl X x) (hdb : (x == ("__debug__" : Str)) = false := by decide) : DE X (.Call (.Name x p) [] [] pos) (wCall wf wNil) := by
  obtain ⟨f, fd, ps, hm, hk, hb, F⟩ := h.ex
  refine peWeak (pe_call0 F hr hg hm hk hb .nil (E := E0) pass0 hdb) fun σ H Qt ⟨Fo, S, Q, rs, h, kk⟩ => ?_
  exact ⟨rfl, Fo, [], S.M, _, rs.mem, .nil, h, fun r M2 v H2 ok q2 => ok.val kk q2⟩
end
/-- the ends of a def's body -/
def bodyEnds (Q : Res → Mh → Prop) : DEnds := { nx := fun S => ∃ M0, LeM M0 S.M ∧ Q (.val .non) M0, rt := fun r M' => ∃ M0, LeM M0 M' ∧ Q r M0 }
def startD (n : Nat) (ds : List Dat) : List (Option Dat) := ds.map some ++ List.replicate n none
section
variable {P : Program} {w : World} {K : PySem.W.Frag} {mg : Str → Option Value} {base : Heap}
theorem start_rel {K : KF} {M : Mh} {H : Hp} {N : List Str} {ds : List Dat} {vs : List V} (m : RelM K M H) (r : Reps K M H ds vs) : RelS K ⟨startD (N.length - vs.length) ds, M⟩ (L2.start N vs) H := by
  have hl := r.length
  refine ⟨by simp [startD, L2.start, hl], fun i d e => ?_, m⟩
  unfold startD at e
  unfold L2.start
  by_cases hi : i < ds.length
  · rw [List.getElem?_append_left (by simpa using hi)] at e
    rw [List.getElem?_append_left (by simpa [← hl] using hi)]
    rw [List.getElem?_map, Option.map_eq_some_iff] at e
    obtain ⟨d', h1, h2⟩ := e
    cases h2
    obtain ⟨v, h3, h4⟩ := r.get h1
    exact ⟨v, by rw [List.getElem?_map, h3]; rfl, h4⟩
  · rw [List.getElem?_append_right (by simpa using hi)] at e
    rw [List.getElem?_replicate] at e
    split at e <;> cases e
theorem has_mk {x qual : Str} {st : Stmt} {f : Addr} {fd : FuncData} {N ps : List Str} {k : Nat} (n : Nat) {wf : WF} {wb : WS} (F : Fun K x qual st f fd) (sc : FnScope N ps (defScope st)) (hn : ps.length = n) (hm : mg x = some (.ref f)) (hb : Binds K fd ps [])
    (body : ∀ (cdv : Value) (A : Around) (outer : List Env) (s : Shared) (H : Hp) (E : XK), Room k (A.deeper (PyProof.Rows.envOfC qual (defScope st) s.heap.objs.size f cdv)) → DSs (cxOf CX0 P w K mg base N qual (defScope st) f cdv A outer s H E).nox (defBody st) wb)
    (law : ∀ (ds : List Dat) (M : Mh) (Q : Res → Mh → Prop), ds.length = n → wf ds M Q → wb ⟨startD (N.length - n) ds, M⟩ (bodyEnds Q)) : Has P w K mg base x (k + 1) n wf := by
  refine ⟨f, fd, ps, hm, F.kp, hb, F.ok sc (fun vs H Q E h => h.1.trans hn.symm) fun cdv A outer s H vs Q E hr h => ?_⟩
  obtain ⟨hl, Fo, ds, M, Qd, m, r, q, z⟩ := h
  refine ⟨_, body cdv A outer s H E hr, Fo, ⟨_, M⟩, bodyEnds Qd, start_rel m r, ?_, ?_⟩
  · rw [hl]
    exact law ds M Qd (r.length.trans hl) q
  · exact ⟨fun S' σ' H' g rs ⟨M0, l, q⟩ => z (.val .non) M0 .non H' ⟨g.trans (.le l), rs.mem.le l, .non⟩ q, fun r M' v H' ok ⟨M0, l, q⟩ => z r M0 v H' (ok.le l) q, fun _ _ _ _ _ h => h.elim, fun _ _ _ _ _ h => h.elim⟩
end
end Lk

namespace Lk
open PySem PySem.Spec L2

/-! ### o[i] -/
/-- the item at i, from the end for a negative one -/
def pyIx {α : Type} (xs : List α) (i : Int) : Option α := if 0 ≤ i then xs[i.toNat]? else if -(xs.length : Int) ≤ i then xs[(i + xs.length).toNat]? else none
theorem atI_eq {α : Type} (xs : List α) (i : Int) : atI xs i = pyIx xs i := by
  unfold atI ixN pyIx
  by_cases h : 0 ≤ i
  · rw [if_pos h, if_pos h]
    by_cases h2 : i < xs.length
    · rw [if_pos h2]; rfl
    · rw [if_neg h2, List.getElem?_eq_none (by omega)]; rfl
  · rw [if_neg h, if_neg h]
    by_cases h2 : -(xs.length : Int) ≤ i
    · rw [if_pos h2, if_pos h2]; rfl
    · rw [if_neg h2, if_neg h2]; rfl
theorem pyIx_rep {K : KF} {M : Mh} {H : Hp} {ds : List Dat} {vs : List V} {i : Int} {d : Dat} (r : Reps K M H ds vs) (h : pyIx ds i = some d) : ∃ v, atI vs i = some v ∧ Rep K M H d v := by
  rw [atI_eq]
  unfold pyIx at h ⊢
  rw [← r.length]
  split at h
  · rename_i e
    rw [if_pos e]
    exact r.get h
  · rename_i e
    rw [if_neg e]
    split at h
    · rename_i e2
      rw [if_pos e2]
      exact r.get h
    · cases h
def ixOf (M : Mh) : Dat → Dat → Option Dat
  | .tup xs, .int i => pyIx xs i
  | .fl xs, .int i => pyIx xs i
  | .rd xs, .int i => pyIx xs i
  | .str z, .int i => if z.length ≤ sizeLine then (pyIx z.cps.toList i).map fun c => .str ⟨#[c]⟩ else none
  | .ref a, k => match M a with
    | some (.lst xs) => match k with
      | .int i => pyIx xs i
      | _ => none
    | some (.dk kvs) => (keyOf k).bind (getD kvs)
    | _ => none
  | _, _ => none
def fIx : F2 := fun x y M Q => ∃ d, ixOf M x y = some d ∧ Q d M
def rDix : R2 := fun x y H Q => ∃ a v, x = .ref a ∧ DGet H a y (some v) ∧ Q v H
section
variable {X : Cx} {K : PySem.W.Frag}
open PyProof.Rows in
theorem ix_dict (hu : X.A.units + 1 < cLine) : IxR X rDix := by
  intro value slice pins s σ H x y v u Q I rx ry h hs
  obtain ⟨a, z, rfl, g, q⟩ := h
  cases rx
  have hT := dict_typeIs I g
  unfold subscriptTail
  refine wpAny_bind ?_
  rw [getitemInPython_of_ne hT.not_modules]
  refine wpAny_bind (wpAny_specialOf hT PySem.F.slot_dict_getitem.lookup ?_)
  have fin : wpAny (model X.prog X.w) X.A (subscripted slice false (.ref a) u) (fun r s₃ => wpAny (model X.prog X.w) X.A (letTemporaryGo value (.ref a) r >>= fun _ => pure r) (EP X pins σ Q) X.xe s₃) X.xe s := by
    rw [hs]
    exact wpAny_operating (d_getItem hu I g ry fun w' s3 I3 rw' => wpAny_bind (wpAny_letTemporaryGo (wpAny_pure ⟨z, H, I3, rw', q⟩)))
  first
    | exact wpAny_pure (wpAny_bind fin)
    | exact wpAny_bind (wpAny_pure (wpAny_bind fin))
    | exact wpAny_bind fin
theorem ok_ix : Ok2 K (fun x y H Q => rIx K x y H Q ∨ rDix x y H Q) fIx := fun Fo x y vx vy M H Q Qt m rx ry h k => by
  obtain ⟨d, e, q⟩ := h
  cases rx with
  | tup f rr =>
    cases ry with
    | int i =>
      obtain ⟨v, h1, h2⟩ := pyIx_rep rr e
      exact .inl (.inr (.inl ⟨_, _, i, v, rfl, rfl, f.sq, h1, k.here m h2 q⟩))
    | _ => cases e
  | fl f rr =>
    cases ry with
    | int i =>
      obtain ⟨v, h1, h2⟩ := pyIx_rep rr e
      exact .inl (.inl ⟨_, _, i, v, rfl, rfl, f.sq, h1, k.here m h2 q⟩)
    | _ => cases e
  | rd f rr =>
    cases ry with
    | int i =>
      obtain ⟨v, h1, h2⟩ := pyIx_rep rr e
      exact .inl (.inl ⟨_, _, i, v, rfl, rfl, f.sq, h1, k.here m h2 q⟩)
    | _ => cases e
  | str z =>
    cases ry with
    | int i =>
      simp only [ixOf] at e
      split at e
      · rename_i hz
        rw [Option.map_eq_some_iff] at e
        obtain ⟨c, h1, h2⟩ := e
        cases h2
        exact .inl (.inr (.inr ⟨z, i, c, rfl, rfl, hz, by rw [atI_eq]; exact h1, k.here m (.str _) q⟩))
      · cases e
    | _ => cases e
  | ref a =>
    simp only [ixOf] at e
    split at e
    · rename_i xs ea
      obtain ⟨vs, h1, h2⟩ := m.ob a _ ea
      cases ry with
      | int i =>
        obtain ⟨v, h3, h4⟩ := pyIx_rep h2 e
        exact .inl (.inl ⟨_, _, i, v, rfl, rfl, .of h1, h3, k.here m h4 q⟩)
      | _ => cases e
    · rename_i kvs ea
      obtain ⟨vs, h1, h2⟩ := m.ob a _ ea
      rw [Option.bind_eq_some_iff] at e
      obtain ⟨kk, e1, e2⟩ := e
      obtain ⟨v, h3, h4⟩ := (h2.get kk).1 d e2
      exact .inr ⟨a, v, rfl, by rw [keyOf_rep ry e1, ← h3]; exact .k h1, k.here m h4 q⟩
    · cases e
  | _ => cases e

/-! ### o[a:b] -/
abbrev WO := DS → (Option Int → Mh → Prop) → Prop
def LO (K : PySem.W.Frag) (w : WO) : TO := fun σ H Qt => ∃ Fo S Q, RelS ⟨K, Fo⟩ S σ H ∧ w S Q ∧ ∀ o H' M', Go S.M H M' H' → RelM ⟨K, Fo⟩ M' H' → Q o M' → Qt o H'
def DO (X : Cx) (e : Option Expr) (w : WO) : Prop := PO X e (LO X.K w)
def wNoPart : WO := fun S Q => Q none S.M
def wPart (w : WE) : WO := fun S Q => w S fun d M => match d with
  | .int i => Q (some i) M
  | _ => False
theorem poWeak {e : Option Expr} {t t' : TO} (h : PO X e t) (k : ∀ σ H Q, t' σ H Q → t σ H Q) : PO X e t' := ⟨fun pins s σ H Q I q => h.run pins s σ H Q I (k σ H Q q)⟩
theorem do_none : DO X none wNoPart := poWeak po_none fun σ H Qt ⟨Fo, S, Q, rs, h, k⟩ => k none H S.M (.refl _ _) rs.mem h
theorem do_some {e : Expr} {w : WE} (h : DE X e w) : DO X (some e) (wPart w) := poWeak (po_some h) fun σ H Qt ⟨Fo, S, Q, rs, h, k⟩ => ⟨Fo, S, _, rs, h, fun v H' d M' g m r q => by
  cases r <;> first
    | exact ⟨_, rfl, k _ H' M' g m q⟩
    | exact q.elim⟩
/-- the items from lo to hi -/
def cutD {α : Type} (xs : List α) (lo hi : Option Int) : List α := (xs.drop (HT.sIx xs.length 0 lo)).take (HT.sIx xs.length xs.length hi - HT.sIx xs.length 0 lo)
theorem Reps.cut {K : KF} {M : Mh} {H : Hp} {ds : List Dat} {vs : List V} (r : Reps K M H ds vs) (lo hi : Option Int) : Reps K M H (cutD ds lo hi) (cutV vs lo hi) := by
  unfold cutD cutV
  rw [r.length]
  exact (r.drop _).take _
def slOf : Dat → Option Int → Option Int → Option Dat
  | .tup xs, lo, hi => some (.tup (cutD xs lo hi))
  | .str z, lo, hi => if z.length ≤ sizeLine then some (.str (cutS z lo hi)) else none
  | _, _, _ => none
def wSlice (w : WE) (lo hi : WO) : WE := fun S Q => w S fun x M1 => lo ⟨S.env, M1⟩ fun a M2 => hi ⟨S.env, M2⟩ fun b M3 => ∃ d, slOf x a b = some d ∧ Q d M3
theorem cutV_all {vs : List V} {lo hi : Option Int} (h : HT.sIx vs.length 0 lo = 0 ∧ HT.sIx vs.length vs.length hi = vs.length) : cutV vs lo hi = vs := by
  unfold cutV
  rw [h.1, h.2]
  simp
theorem de_slice {e : Expr} {lo hi : Option Expr} {w : WE} {wl wh : WO} {pos p2 : Pos} (he : DE X e w) (hl : DO X lo wl) (hh : DO X hi wh) : DE X (.Subscript e (.Slice lo hi none p2) pos) (wSlice w wl wh) :=
  peWeak (pe_slice (sl_tupA.or sl_str) he hl hh) fun σ H Qt ⟨Fo, S, Q, rs, h, k⟩ => ⟨Fo, S, _, rs, h, fun v H1 x M1 g1 m1 r1 q1 => ⟨Fo, ⟨S.env, M1⟩, _, rs.go g1 m1, q1, fun a H2 M2 g2 m2 q2 => ⟨Fo, ⟨S.env, M2⟩, _, (rs.go g1 m1).go g2 m2, q2, fun b H3 M3 g3 m3 ⟨d, e, q3⟩ => by
    have r3 := r1.go (g2.trans g3)
    have k3 := k.go (g1.trans (g2.trans g3))
    cases r3 with
    | tup f rr =>
      cases e
      refine .inl ⟨_, _, rfl, f.sq, fun hw => ?_, fun _ p hp => k3.tup m3 (rr.cut a b) hp q3⟩
      have ec := cutV_all hw
      have rc := rr.cut a b
      rw [ec] at rc
      exact k3.here m3 (.tup f rc) q3
    | str z =>
      simp only [slOf] at e
      split at e
      · rename_i hz
        cases e
        exact .inr ⟨z, rfl, hz, k3.here m3 (.str _) q3⟩
      · cases e
    | _ => cases e⟩⟩⟩
def wSliceN (w : WE) (lo hi : WO) : WN := fun S Q => w S fun x M1 => lo ⟨S.env, M1⟩ fun a M2 => hi ⟨S.env, M2⟩ fun b M3 => ∃ xs, lstOf M3 x = some xs ∧ Q (.lst (cutD xs a b)) M3
theorem dn_slice {e : Expr} {lo hi : Option Expr} {w : WE} {wl wh : WO} {pos p2 : Pos} (he : DE X e w) (hl : DO X lo wl) (hh : DO X hi wh) : DN X (.Subscript e (.Slice lo hi none p2) pos) (wSliceN w wl wh) :=
  peWeak (pe_slice sl_list he hl hh) fun σ H Qt ⟨Fo, S, Q, rs, h, k⟩ => ⟨Fo, S, _, rs, h, fun v H1 x M1 g1 m1 r1 q1 => ⟨Fo, ⟨S.env, M1⟩, _, rs.go g1 m1, q1, fun a H2 M2 g2 m2 q2 => ⟨Fo, ⟨S.env, M2⟩, _, (rs.go g1 m1).go g2 m2, q2, fun b H3 M3 g3 m3 ⟨xs, e, q3⟩ => by
    obtain ⟨ad, vs, rfl, h1, h2⟩ := lstOf_sq m3 (r1.go (g2.trans g3)) e
    exact ⟨ad, vs, rfl, h1, fun p hp => (k.go (g1.trans (g2.trans g3))).lst m3 (h2.cut a b) hp q3⟩⟩⟩⟩
end
section
variable {X : Cx} {e a b o : Expr} {es : List Expr} {wa wb wo : WE} {ws : WA} {pos p apos cpos : Pos}
theorem de_ix (hu : X.A.units + 1 < cLine) (ha : DE X a wa) (hb : DE X b wb) (hs : PlainIx b := by intro _ _; rfl) : DE X (.Subscript a b pos) (wBin fIx wa wb) :=
  peWeak (pe_ix (ix_seq.or (ix_dict hu)) ha hb hs) fun _ _ _ h => le_bin ok_ix h

/-! ### built-ins by name -/
def wBlt (f : FL) (ws : WA) : WE := fun S Q => ws S fun ds M => f ds M Q
def wBltN (f : FLN) (ws : WA) : WN := fun S Q => ws S fun ds M => f ds M Q
theorem de_blt {x : Str} {id : String} {n : Nat} {r : List V → Hp → VK → Prop} {f : FL} (hc : CallR X (.builtin id) r) (ok : OkL X.K r f) (hg : Gl X x) (hm : X.mg x = none) (hv : bootBuiltins x = some (.builtin id)) (ha : DA X (e :: es) n ws) (hn : x ≠ "__name__" := by decide) (hdb : (x == ("__debug__" : Str)) = false := by decide)
    (he : starEach (e :: es) X.env = (false, eval e X.env) :: starEach es X.env := by rfl) (hpl : (backTo pos (starEach es X.env)).any (·.1) = false := by rfl) : DE X (.Call (.Name x p) (e :: es) [] pos) (wBlt f ws) :=
  peWeak (pe_callB hc hg hm hv ha.pa hn hdb he hpl) fun σ H Qt ⟨Fo, S, Q, rs, h, k⟩ => ⟨Fo, S, _, rs, h, fun vs H' ds M' g m r q => ok _ _ _ _ _ _ _ m r q (k.go g)⟩
theorem de_bty {x : Str} {T : String} {n : Nat} {r : List V → Hp → VK → Prop} {f : FL} (hc : CallR X (.type T) r) (ok : OkL X.K r f) (hg : Gl X x) (hm : X.mg x = none) (hv : bootBuiltins x = some (.type T)) (ha : DA X (e :: es) n ws) (hn : x ≠ "__name__" := by decide) (hdb : (x == ("__debug__" : Str)) = false := by decide)
    (he : starEach (e :: es) X.env = (false, eval e X.env) :: starEach es X.env := by rfl) (hpl : (backTo pos (starEach es X.env)).any (·.1) = false := by rfl) : DE X (.Call (.Name x p) (e :: es) [] pos) (wBlt f ws) :=
  peWeak (pe_callTy hc hg hm hv ha.pa hn hdb he hpl) fun σ H Qt ⟨Fo, S, Q, rs, h, k⟩ => ⟨Fo, S, _, rs, h, fun vs H' ds M' g m r q => ok _ _ _ _ _ _ _ m r q (k.go g)⟩
theorem dn_blt {x : Str} {id : String} {n : Nat} {r : List V → Hp → VK → Prop} {f : FLN} (hc : CallR X (.builtin id) r) (ok : OkLN X.K r f) (hg : Gl X x) (hm : X.mg x = none) (hv : bootBuiltins x = some (.builtin id)) (ha : DA X (e :: es) n ws) (hn : x ≠ "__name__" := by decide) (hdb : (x == ("__debug__" : Str)) = false := by decide)
    (he : starEach (e :: es) X.env = (false, eval e X.env) :: starEach es X.env := by rfl) (hpl : (backTo pos (starEach es X.env)).any (·.1) = false := by rfl) : DN X (.Call (.Name x p) (e :: es) [] pos) (wBltN f ws) :=
  peWeak (pe_callB hc hg hm hv ha.pa hn hdb he hpl) fun σ H Qt ⟨Fo, S, Q, rs, h, k⟩ => ⟨Fo, S, _, rs, h, fun vs H' ds M' g m r q => ok _ _ _ _ _ _ _ m r q (k.go g)⟩
theorem dn_bty {x : Str} {T : String} {n : Nat} {r : List V → Hp → VK → Prop} {f : FLN} (hc : CallR X (.type T) r) (ok : OkLN X.K r f) (hg : Gl X x) (hm : X.mg x = none) (hv : bootBuiltins x = some (.type T)) (ha : DA X (e :: es) n ws) (hn : x ≠ "__name__" := by decide) (hdb : (x == ("__debug__" : Str)) = false := by decide)
    (he : starEach (e :: es) X.env = (false, eval e X.env) :: starEach es X.env := by rfl) (hpl : (backTo pos (starEach es X.env)).any (·.1) = false := by rfl) : DN X (.Call (.Name x p) (e :: es) [] pos) (wBltN f ws) :=
  peWeak (pe_callTy hc hg hm hv ha.pa hn hdb he hpl) fun σ H Qt ⟨Fo, S, Q, rs, h, k⟩ => ⟨Fo, S, _, rs, h, fun vs H' ds M' g m r q => ok _ _ _ _ _ _ _ m r q (k.go g)⟩
end
section
variable {X : Cx} {K : PySem.W.Frag}
theorem Reps.one {K : KF} {M : Mh} {H : Hp} {d : Dat} {vs : List V} (r : Reps K M H [d] vs) : ∃ v, vs = [v] ∧ Rep K M H d v := by
  cases r with
  | cons h t => cases t; exact ⟨_, rfl, h⟩
theorem Reps.two {K : KF} {M : Mh} {H : Hp} {d e : Dat} {vs : List V} (r : Reps K M H [d, e] vs) : ∃ v u, vs = [v, u] ∧ Rep K M H d v ∧ Rep K M H e u := by
  cases r with
  | cons h t =>
    obtain ⟨u, rfl, h2⟩ := t.one
    exact ⟨_, u, rfl, h, h2⟩
/-- one argument -/
def f1 (f : Dat → Mh → VD → Prop) : FL := fun ds M Q => match ds with
  | [d] => f d M Q
  | _ => False
def f2 (f : F2) : FL := fun ds M Q => match ds with
  | [d, e] => f d e M Q
  | _ => False
def f1N (f : Dat → Mh → (MO → Mh → Prop) → Prop) : FLN := fun ds M Q => match ds with
  | [d] => f d M Q
  | _ => False
theorem ok1 {r : List V → Hp → VK → Prop} {f : Dat → Mh → VD → Prop} (h : ∀ (Fo : Addr → Prop) (x : Dat) (v : V) (M : Mh) (H : Hp) (Q : VD) (Qt : VK), RelM ⟨K, Fo⟩ M H → Rep ⟨K, Fo⟩ M H x v → f x M Q → Fin ⟨K, Fo⟩ M H Q Qt → r [v] H Qt) : OkL K r (f1 f) := fun Fo xs vs M H Q Qt m rr q k => by
  match xs, rr with
  | [d], rr =>
    obtain ⟨v, rfl, rv⟩ := rr.one
    exact h Fo d v M H Q Qt m rv q k
  | [], _ => exact q.elim
  | _ :: _ :: _, _ => exact q.elim
theorem ok1N {r : List V → Hp → VK → Prop} {f : Dat → Mh → (MO → Mh → Prop) → Prop} (h : ∀ (Fo : Addr → Prop) (x : Dat) (v : V) (M : Mh) (H : Hp) (Q : MO → Mh → Prop) (Qt : VK), RelM ⟨K, Fo⟩ M H → Rep ⟨K, Fo⟩ M H x v → f x M Q → FinN ⟨K, Fo⟩ M H Q Qt → r [v] H Qt) : OkLN K r (f1N f) := fun Fo xs vs M H Q Qt m rr q k => by
  match xs, rr with
  | [d], rr =>
    obtain ⟨v, rfl, rv⟩ := rr.one
    exact h Fo d v M H Q Qt m rv q k
  | [], _ => exact q.elim
  | _ :: _ :: _, _ => exact q.elim
theorem ok2L {r : List V → Hp → VK → Prop} {f : F2} (h : ∀ (Fo : Addr → Prop) (x y : Dat) (v u : V) (M : Mh) (H : Hp) (Q : VD) (Qt : VK), RelM ⟨K, Fo⟩ M H → Rep ⟨K, Fo⟩ M H x v → Rep ⟨K, Fo⟩ M H y u → f x y M Q → Fin ⟨K, Fo⟩ M H Q Qt → r [v, u] H Qt) : OkL K r (f2 f) := fun Fo xs vs M H Q Qt m rr q k => by
  match xs, rr with
  | [d, e], rr =>
    obtain ⟨v, u, rfl, rv, ru⟩ := rr.two
    exact h Fo d e v u M H Q Qt m rv ru q k
  | [], _ => exact q.elim
  | [_], _ => exact q.elim
  | _ :: _ :: _ :: _, _ => exact q.elim
/-- len -/
def lenOf (M : Mh) : Dat → Option Nat
  | .str z => if z.length ≤ sizeLine then some z.length else none
  | .ref a => match M a with
    | some (.lst xs) => some xs.length
    | some (.dk kvs) => some kvs.length
    | _ => none
  | d => (frOf d).map List.length
def fLen (x : Dat) (M : Mh) (Q : VD) : Prop := ∃ n : Nat, lenOf M x = some n ∧ Q (.int n) M
theorem c_lenD : CallR X (.builtin "len") (fun xs H Q => ∃ a kvs, xs = [V.ref a] ∧ Rd H a (.dK kvs) ∧ Q (.int kvs.length) H) := by
  intro pins s σ H xs us Q I r h
  obtain ⟨a, kvs, rfl, hd, q⟩ := h
  obtain ⟨u, rfl, rx⟩ := vals1 r
  cases rx
  exact d_len I hd fun t s' I' => ⟨.int kvs.length, H, I', ⟨t, rfl⟩, q⟩
theorem c_len : CallR X (.builtin "len") (fun xs H Q => (∃ p ys, xs = [.ref p] ∧ (SqL X.K H p ys ∨ SqT X.K H p ys) ∧ Q (.int ys.length) H) ∨ (∃ z, xs = [.str z] ∧ z.length ≤ sizeLine ∧ Q (.int z.length) H) ∨ ∃ a kvs, xs = [V.ref a] ∧ Rd H a (.dK kvs) ∧ Q (.int kvs.length) H) := call_len_seq.or (call_len_str.or c_lenD)
theorem ok_len : OkL K (fun xs H Q => (∃ p ys, xs = [.ref p] ∧ (SqL K H p ys ∨ SqT K H p ys) ∧ Q (.int ys.length) H) ∨ (∃ z, xs = [.str z] ∧ z.length ≤ sizeLine ∧ Q (.int z.length) H) ∨ ∃ a kvs, xs = [V.ref a] ∧ Rd H a (.dK kvs) ∧ Q (.int kvs.length) H) (f1 fLen) := ok1 fun Fo x v M H Q Qt m r h k => by
  obtain ⟨n, e, q⟩ := h
  cases r with
  | tup f rr => cases e; exact .inl ⟨_, _, rfl, .inr f.sq, by rw [← rr.length]; exact k.here m (.int _) q⟩
  | fl f rr => cases e; exact .inl ⟨_, _, rfl, .inl f.sq, by rw [← rr.length]; exact k.here m (.int _) q⟩
  | rd f rr => cases e; exact .inl ⟨_, _, rfl, .inl f.sq, by rw [← rr.length]; exact k.here m (.int _) q⟩
  | str z =>
    simp only [lenOf] at e
    split at e
    · rename_i hz
      cases e
      exact .inr (.inl ⟨z, rfl, hz, k.here m (.int _) q⟩)
    · cases e
  | ref a =>
    simp only [lenOf] at e
    split at e
    · rename_i xs ea
      cases e
      obtain ⟨vs, h1, h2⟩ := m.ob a _ ea
      exact .inl ⟨a, vs, rfl, .inl (.of h1), by rw [← h2.length]; exact k.here m (.int _) q⟩
    · rename_i kvs ea
      cases e
      obtain ⟨vs, h1, h2⟩ := m.ob a _ ea
      exact .inr (.inr ⟨a, vs, rfl, .inl h1, by rw [← h2.len]; exact k.here m (.int _) q⟩)
    · cases e
  | _ => cases e
end
end Lk

namespace Lk
open PySem PySem.Spec L2

/-! ### isinstance -/
inductive Tg where
  | N | B | I | S | T | L | D
  deriving DecidableEq
def Tg.name : Tg → String
  | .N => "NoneType" | .B => "bool" | .I => "int" | .S => "str" | .T => "tuple" | .L => "list" | .D => "dict"
def isTag : Tg → Tg → Bool
  | .N, .N => true | .B, .B => true | .B, .I => true | .I, .I => true | .S, .S => true | .T, .T => true | .L, .L => true | .D, .D => true
  | _, _ => false
def tagOf (M : Mh) : Dat → Option Tg
  | .non => some .N
  | .bl _ => some .B
  | .int _ => some .I
  | .str _ => some .S
  | .tup _ => some .T
  | .fl _ => some .L
  | .rd _ => some .L
  | .stp _ => some .T
  | .ref a => match M a with
    | some (.lst _) => some .L
    | some (.dk _) => some .D
    | some (.dt _) => some .D
    | _ => none
  | .ty _ => none
theorem tag_kit (a b : Tg) (h : b ≠ .N) (h2 : b ≠ .D) : kitB a.name b.name = some (isTag a b) := by
  cases b <;> first
    | exact absurd rfl h
    | exact absurd rfl h2
    | (cases a <;> decide +kernel)
section
variable {X : Cx} {K : PySem.W.Frag}
theorem tag_ty {K : KF} {M : Mh} {H : Hp} {x : Dat} {v : V} {t : Tg} (m : RelM K M H) (r : Rep K M H x v) (h : tagOf M x = some t) : TyX K.k H v (.type t.name) := by
  cases r with
  | non => cases h; exact .base .non
  | bl b => cases h; exact .base (.bl b)
  | int i => cases h; exact .base (.int i)
  | str i => cases h; exact .base (.str i)
  | tup f rr =>
    cases h
    rcases f with ⟨_, _, f | ⟨o, f⟩⟩ | ⟨o, its, n, f1, f2, _⟩
    · exact .base (.tup f)
    · exact .fTuple f
    · exact .kTuple f1 f2
  | stp f rr =>
    cases h
    rcases f.t with ⟨_, _, f | ⟨o, f⟩⟩ | ⟨o, its, n, f1, f2, _⟩
    · exact .base (.tup f)
    · exact .fTuple f
    · exact .kTuple f1 f2
  | fl f rr => cases h; exact .base (.lst f.2.2)
  | rd f rr =>
    cases h
    rcases f with ⟨_, _, f | ⟨o, f⟩⟩ | ⟨o, its, n, f1, f2, _⟩
    · exact .base (.lst f)
    · exact .base (.frz f)
    · exact .kList f1 f2
  | ref a =>
    simp only [tagOf] at h
    split at h
    · rename_i xs e
      cases h
      obtain ⟨vs, h1, _⟩ := m.ob a _ e
      exact .base (.lst h1)
    · rename_i xs e
      cases h
      obtain ⟨vs, h1, _⟩ := m.ob a _ e
      exact .base (.dK h1)
    · rename_i xs e
      cases h
      obtain ⟨vs, h1, _⟩ := m.ob a _ e
      exact .base (.dT h1)
    · cases h
  | ty n => cases h
def fIsi (n : Tg) (x : Dat) (M : Mh) (Q : VD) : Prop := ∃ t, tagOf M x = some t ∧ Q (.bl (isTag t n)) M
end
section
variable {X : Cx} {e e2 a b o : Expr} {es : List Expr} {we wa wb wo : WE} {ws : WA} {pos p p2 apos cpos : Pos}
theorem de_isi {x : Str} {n : Tg} (hg : Gl X "isinstance") (hm : X.mg "isinstance" = none) (he : DE X e we) (hg2 : Gl X x) (hm2 : X.mg x = none) (hv2 : bootBuiltins x = some (.type n.name)) (hn : n ≠ .N) (hd : n ≠ .D) (hx : x ≠ "__name__" := by decide) (hdb : (x == ("__debug__" : Str)) = false := by decide)
    (hs : starEach [e, .Name x p2] X.env = (false, eval e X.env) :: starEach [.Name x p2] X.env := by rfl) (hpl : (backTo pos (starEach [.Name x p2] X.env)).any (·.1) = false := by rfl) (hs2 : starEach [.Name x p2] X.env = (false, eval (.Name x p2) X.env) :: starEach [] X.env := by rfl) :
    DE X (.Call (.Name "isinstance" p) [e, .Name x p2] [] pos) (wUn (fIsi n) we) :=
  peWeak (pe_callB call_isi hg hm (by decide +kernel) (pa_cons he (pa_cons (pe_bltn (v := .ty n.name) (pos := p2) hg2 hm2 hv2 rfl hx hdb) pa_nil hs2) hs) (by decide) (by decide) hs hpl) fun σ H Qt ⟨Fo, S, Q, rs, h, k⟩ => ⟨Fo, S, _, rs, h, fun v H' d M' g m r ⟨t, e, q⟩ =>
    ⟨v, .ty n.name, .type t.name, .type n.name, isTag t n, rfl, .ty _, tag_ty m r e, kit_ty (tag_kit t n hn hd), (k.go g).here m (.bl _) q⟩⟩

/-! ### in -/
def flatD : Dat → Bool
  | .non => true
  | .bl _ => true
  | .int _ => true
  | .str _ => true
  | _ => false
def inFlat (x : Dat) (xs : List Dat) : Option Bool := if flatD x = true ∧ xs.all flatD = true then some (xs.any fun y => eqv y x) else none
def inOf (M : Mh) (x y : Dat) : Option Bool := match y with
  | .str z => match x with
    | .str s => match s.cps.toList with
      | [c] => some (decide (c ∈ z.cps.toList))
      | _ => none
    | _ => none
  | .ref a => match M a with
    | some (.lst xs) => inFlat x xs
    | some (.dk kvs) => (keyOf x).map fun k => (getD kvs k).isSome
    | _ => none
  | y => (frOf y).bind (inFlat x)
end
section
variable {X : Cx} {K : PySem.W.Frag}
theorem flat_rep {K : KF} {M : Mh} {H : Hp} {x : Dat} {v : V} (r : Rep K M H x v) : flatD x = true → flatV v = true := by cases r <;> intro h <;> first | rfl | exact Bool.noConfusion (show false = true from h)
theorem eqv_rep {K : KF} {M : Mh} {H : Hp} {x y : Dat} {v u : V} (rx : Rep K M H x v) (ry : Rep K M H y u) (hx : flatD x = true) (hy : flatD y = true) : eqV v u = eqv x y := by
  cases rx <;> cases ry <;> first | exact Bool.noConfusion (show false = true from hx) | exact Bool.noConfusion (show false = true from hy) | (simp only [eqv, toPy, PyData.eqv, eqV])
theorem inFlat_rep {K : KF} {M : Mh} {H : Hp} {x : Dat} {v : V} {xs : List Dat} {vs : List V} {b : Bool} (rx : Rep K M H x v) (r : Reps K M H xs vs) (h : inFlat x xs = some b) : flatV v = true ∧ vs.all flatV = true ∧ inV v vs = b := by
  unfold inFlat at h
  split at h
  · rename_i hh
    obtain ⟨h1, h2⟩ := hh
    cases h
    refine ⟨flat_rep rx h1, ?_⟩
    induction xs generalizing vs with
    | nil => cases r; exact ⟨rfl, rfl⟩
    | cons d ds ih =>
      cases r with
      | cons rd rr =>
        rw [List.all_cons, Bool.and_eq_true] at h2
        obtain ⟨i1, i2⟩ := ih rr h2.2
        refine ⟨by rw [List.all_cons, flat_rep rd h2.1, i1]; rfl, ?_⟩
        unfold inV at i2 ⊢
        rw [List.any_cons, List.any_cons, i2, eqv_rep rd rx h2.1 h1]
  · cases h
def fIn : F2 := fun x y M Q => ∃ b, inOf M x y = some b ∧ Q (.bl b) M
def fNotIn : F2 := fun x y M Q => ∃ b, inOf M x y = some b ∧ Q (.bl (!b)) M
def rDIn (neg : Bool) : R2 := fun y x H Q => ∃ a o, x = V.ref a ∧ DGet H a y o ∧ Q (.bl (if neg then !o.isSome else o.isSome)) H
theorem o_dIn (hu : X.A.units + 1 < cLine) : OpR X (compareOp .In) (rDIn false) := by
  intro pins s σ H x y v u Q I rx ry h
  obtain ⟨a, o, rfl, g, q⟩ := h
  cases ry
  exact d_in hu I g rx fun s' I' => ⟨.bl o.isSome, H, I', rfl, q⟩
theorem o_dNotIn (hu : X.A.units + 1 < cLine) : OpR X (compareOp .NotIn) (rDIn true) := by
  intro pins s σ H x y v u Q I rx ry h
  obtain ⟨a, o, rfl, g, q⟩ := h
  cases ry
  exact d_notIn hu I g rx fun s' I' => ⟨.bl (!o.isSome), H, I', rfl, q⟩
def rSign (neg : Bool) : R2 := fun x y H Q => ∃ (c : Nat) (z : Str), x = .str ⟨#[c]⟩ ∧ y = .str z ∧ Q (.bl (if neg then !decide (c ∈ z.cps.toList) else decide (c ∈ z.cps.toList))) H
def rIns (K : PySem.W.Frag) (neg : Bool) : R2 := fun x y H Q => rIn K neg x y H Q ∨ rSign neg x y H Q ∨ rDIn neg x y H Q
theorem o_in (hu : X.A.units + 1 < cLine) : OpR X (compareOp .In) (rIns X.K false) := op_in_seq.or (OpR.or (r := rSign false) op_in_sign (o_dIn hu))
theorem o_notIn (hu : X.A.units + 1 < cLine) : OpR X (compareOp .NotIn) (rIns X.K true) := op_notIn_seq.or (OpR.or (r := rSign true) op_notIn_sign (o_dNotIn hu))
theorem ins_of {K : KF} {neg : Bool} {x y : Dat} {vx vy : V} {M : Mh} {H : Hp} {Q : VD} {Qt : VK} {b : Bool} (m : RelM K M H) (rx : Rep K M H x vx) (ry : Rep K M H y vy) (e : inOf M x y = some b) (q : Q (.bl (if neg then !b else b)) M) (k : Fin K M H Q Qt) : rIns K.k neg vx vy H Qt := by
  cases ry with
  | str z =>
    simp only [inOf] at e
    split at e
    · rename_i s
      split at e
      · rename_i c hc
        cases e
        cases rx
        have es : s = ⟨#[c]⟩ := by
          obtain ⟨cps⟩ := s
          have : cps = #[c] := by
            apply Array.toList_inj.mp
            exact hc
          rw [this]
        subst es
        exact .inr (.inl ⟨c, z, rfl, rfl, k.here m (.bl _) q⟩)
      · cases e
    · cases e
  | ref a =>
    simp only [inOf] at e
    split at e
    · rename_i xs ea
      obtain ⟨vs, h1, h2⟩ := m.ob a _ ea
      obtain ⟨i1, i2, i3⟩ := inFlat_rep rx h2 e
      exact .inl ⟨a, vs, rfl, .inl (.of h1), i1, i2, by rw [i3]; exact k.here m (.bl _) q⟩
    · rename_i kvs ea
      obtain ⟨vs, h1, h2⟩ := m.ob a _ ea
      rw [Option.map_eq_some_iff] at e
      obtain ⟨kk, e1, e2⟩ := e
      subst e2
      refine .inr (.inr ⟨a, valV vs kk, rfl, by rw [keyOf_rep rx e1]; exact .k h1, ?_⟩)
      have ee : (valV vs kk).isSome = (getD kvs kk).isSome := by
        cases z : getD kvs kk with
        | none => rw [(h2.get kk).2 z]; rfl
        | some d =>
          obtain ⟨v, h3, _⟩ := (h2.get kk).1 d z
          rw [h3]; rfl
      rw [ee]
      exact k.here m (.bl _) q
    · cases e
  | tup f rr =>
    obtain ⟨i1, i2, i3⟩ := inFlat_rep rx rr e
    exact .inl ⟨_, _, rfl, .inr f.sq, i1, i2, by rw [i3]; exact k.here m (.bl _) q⟩
  | fl f rr =>
    obtain ⟨i1, i2, i3⟩ := inFlat_rep rx rr e
    exact .inl ⟨_, _, rfl, .inl f.sq, i1, i2, by rw [i3]; exact k.here m (.bl _) q⟩
  | rd f rr =>
    obtain ⟨i1, i2, i3⟩ := inFlat_rep rx rr e
    exact .inl ⟨_, _, rfl, .inl f.sq, i1, i2, by rw [i3]; exact k.here m (.bl _) q⟩
  | _ => cases e
theorem ok_in : Ok2 K (rIns K false) fIn := fun Fo x y vx vy M H Q Qt m rx ry ⟨b, e, q⟩ k => ins_of m rx ry e q k
theorem ok_notIn : Ok2 K (rIns K true) fNotIn := fun Fo x y vx vy M H Q Qt m rx ry ⟨b, e, q⟩ k => ins_of m rx ry e q k
end
section
variable {X : Cx} {e e2 a b o : Expr} {es : List Expr} {we wa wb wo : WE} {ws : WA} {pos p p2 apos cpos : Pos}
theorem de_in (hu : X.A.units + 1 < cLine) (ha : DE X a wa) (hb : DE X b wb) (hm : behindInMarks .In b = false := by with_unfolding_all rfl) : DE X (.Compare a [.In] [b] pos) (wBin fIn wa wb) := de_cmp (o_in hu) ok_in ha hb hm
theorem de_notIn (hu : X.A.units + 1 < cLine) (ha : DE X a wa) (hb : DE X b wb) (hm : behindInMarks .NotIn b = false := by with_unfolding_all rfl) : DE X (.Compare a [.NotIn] [b] pos) (wBin fNotIn wa wb) := de_cmp (o_notIn hu) ok_notIn ha hb hm
theorem dt_in (hu : X.A.units + 1 < cLine) (ha : DE X a wa) (hb : DE X b wb) (hm : behindInMarks .In b = false := by with_unfolding_all rfl) : DT X (.Compare a [.In] [b] pos) (wTest (wBin fIn wa wb)) := dt_cmp (o_in hu) ok_in ha hb hm
theorem dt_notIn (hu : X.A.units + 1 < cLine) (ha : DE X a wa) (hb : DE X b wb) (hm : behindInMarks .NotIn b = false := by with_unfolding_all rfl) : DT X (.Compare a [.NotIn] [b] pos) (wTest (wBin fNotIn wa wb)) := dt_cmp (o_notIn hu) ok_notIn ha hb hm
end

/-! ### tuple, list, all, any, sum, max, min, abs, int -/
section
variable {X : Cx} {K : PySem.W.Frag}
def fTupOf (x : Dat) (M : Mh) (Q : VD) : Prop := ∃ ds, seqOf M x = some ds ∧ Q (.tup ds) M
def rTupOf (K : PySem.W.Frag) : List V → Hp → VK → Prop := fun xs H Q => ∃ p ys, xs = [.ref p] ∧ ((SqL K H p ys ∧ ∀ l, H l = none → Q (.ref l) (upd H l (.tup ys))) ∨ (SqT K H p ys ∧ Q (.ref p) H))
theorem ok_tupOf : OkL K (rTupOf K) (f1 fTupOf) := ok1 fun Fo x v M H Q Qt m r ⟨ds, e, q⟩ k => by
  cases r with
  | tup f rr => cases e; exact ⟨_, _, rfl, .inr ⟨f.sq, k.here m (.tup f rr) q⟩⟩
  | fl f rr =>
    obtain ⟨a, vs, e1, h1, h2⟩ := lstOf_sq m (.fl f rr) e
    cases e1
    exact ⟨_, vs, rfl, .inl ⟨h1, fun p hp => k.tup m h2 hp q⟩⟩
  | rd f rr =>
    obtain ⟨a, vs, e1, h1, h2⟩ := lstOf_sq m (.rd f rr) e
    cases e1
    exact ⟨_, vs, rfl, .inl ⟨h1, fun p hp => k.tup m h2 hp q⟩⟩
  | ref a =>
    obtain ⟨a, vs, e1, h1, h2⟩ := lstOf_sq m (.ref a) e
    cases e1
    exact ⟨_, vs, rfl, .inl ⟨h1, fun p hp => k.tup m h2 hp q⟩⟩
  | _ => cases e
def fLstOf (x : Dat) (M : Mh) (Q : MO → Mh → Prop) : Prop := ∃ ds, seqOf M x = some ds ∧ Q (.lst ds) M
theorem ok_lstOf : OkLN K (fun xs H Q => ∃ p ys, xs = [.ref p] ∧ (SqL K H p ys ∨ SqT K H p ys) ∧ ∀ l, H l = none → Q (.ref l) (upd H l (.lst ys))) (f1N fLstOf) := ok1N fun Fo x v M H Q Qt m r ⟨ds, e, q⟩ k => by
  obtain ⟨a, vs, rfl, h1, h2⟩ := seqOf_sq m r e
  exact ⟨a, vs, rfl, h1, fun l hl => k.lst m h2 hl q⟩
def fAll (x : Dat) (M : Mh) (Q : VD) : Prop := ∃ bs : List Bool, lstOf M x = some (bs.map .bl) ∧ Q (.bl (bs.all id)) M
def fAny (x : Dat) (M : Mh) (Q : VD) : Prop := ∃ bs : List Bool, lstOf M x = some (bs.map .bl) ∧ Q (.bl (bs.any id)) M
def fSum (x : Dat) (M : Mh) (Q : VD) : Prop := ∃ ns : List Int, lstOf M x = some (ns.map .int) ∧ Q (.int ns.sum) M
def fMaxL (x : Dat) (M : Mh) (Q : VD) : Prop := ∃ ns : List Int, lstOf M x = some (ns.map .int) ∧ 0 < ns.length ∧ ∀ m, m ∈ ns → (∀ y, y ∈ ns → y ≤ m) → Q (.int m) M
def fMinL (x : Dat) (M : Mh) (Q : VD) : Prop := ∃ ns : List Int, lstOf M x = some (ns.map .int) ∧ 0 < ns.length ∧ ∀ m, m ∈ ns → (∀ y, y ∈ ns → m ≤ y) → Q (.int m) M
theorem ok_all : OkL K (rAll K) (f1 fAll) := ok1 fun Fo x v M H Q Qt m r ⟨bs, e, q⟩ k => by
  obtain ⟨a, vs, rfl, h1, h2⟩ := lstOf_sq m r e
  rw [h2.bls] at h1
  exact ⟨a, bs, rfl, h1, k.here m (.bl _) q⟩
theorem ok_any : OkL K (rAny K) (f1 fAny) := ok1 fun Fo x v M H Q Qt m r ⟨bs, e, q⟩ k => by
  obtain ⟨a, vs, rfl, h1, h2⟩ := lstOf_sq m r e
  rw [h2.bls] at h1
  exact ⟨a, bs, rfl, h1, k.here m (.bl _) q⟩
theorem ok_sum : OkL K (rSum K) (f1 fSum) := ok1 fun Fo x v M H Q Qt m r ⟨bs, e, q⟩ k => by
  obtain ⟨a, vs, rfl, h1, h2⟩ := lstOf_sq m r e
  rw [h2.ints] at h1
  exact ⟨a, bs, rfl, h1, k.here m (.int _) q⟩
theorem ok_maxL : OkL K (rMax K) (f1 fMaxL) := ok1 fun Fo x v M H Q Qt m r ⟨bs, e, hl, q⟩ k => by
  obtain ⟨a, vs, rfl, h1, h2⟩ := lstOf_sq m r e
  rw [h2.ints] at h1
  exact ⟨a, bs, rfl, h1, hl, fun z z1 z2 => k.here m (.int _) (q z z1 z2)⟩
theorem ok_minL : OkL K (rMin K) (f1 fMinL) := ok1 fun Fo x v M H Q Qt m r ⟨bs, e, hl, q⟩ k => by
  obtain ⟨a, vs, rfl, h1, h2⟩ := lstOf_sq m r e
  rw [h2.ints] at h1
  exact ⟨a, bs, rfl, h1, hl, fun z z1 z2 => k.here m (.int _) (q z z1 z2)⟩
def fAbs (x : Dat) (M : Mh) (Q : VD) : Prop := match x with
  | .int i => Q (.int (if i < 0 then -i else i)) M
  | _ => False
theorem ok_abs : OkL K (fun xs H Q => ∃ i, xs = [.int i] ∧ Q (.int (if i < 0 then -i else i)) H) (f1 fAbs) := ok1 fun Fo x v M H Q Qt m r h k => by
  cases r <;> first | exact ⟨_, rfl, k.here m (.int _) h⟩ | exact h.elim
def fInt (x : Dat) (M : Mh) (Q : VD) : Prop := match x with
  | .int i => Q (.int i) M
  | .bl b => Q (.int (if b then 1 else 0)) M
  | .str z => ∃ n, PySem.intText? z = some n ∧ z.length ≤ 640 ∧ Q (.int n) M
  | _ => False
theorem c_int : CallR X (.type "int") (fun xs H Q => ((∃ i, xs = [.int i] ∧ Q (.int i) H) ∨ ∃ k, xs = [.bl k] ∧ Q (.int (if k then 1 else 0)) H) ∨ ∃ a n, xs = [.str a] ∧ PySem.intText? a = some n ∧ a.length ≤ 640 ∧ Q (.int n) H) := call_int1.or call_int_str
theorem ok_int : OkL K (fun xs H Q => ((∃ i, xs = [.int i] ∧ Q (.int i) H) ∨ ∃ k, xs = [.bl k] ∧ Q (.int (if k then 1 else 0)) H) ∨ ∃ a n, xs = [.str a] ∧ PySem.intText? a = some n ∧ a.length ≤ 640 ∧ Q (.int n) H) (f1 fInt) := ok1 fun Fo x v M H Q Qt m r h k => by
  cases r with
  | int i => exact .inl (.inl ⟨i, rfl, k.here m (.int _) h⟩)
  | bl b => exact .inl (.inr ⟨b, rfl, k.here m (.int _) h⟩)
  | str z =>
    obtain ⟨n, h1, h2, q⟩ := h
    exact .inr ⟨z, n, rfl, h1, h2, k.here m (.int _) q⟩
  | _ => exact h.elim
def fMax2 : F2 := fun x y M Q => match x, y with
  | .int i, .int j => Q (.int (if j > i then j else i)) M
  | _, _ => False
def fMin2 : F2 := fun x y M Q => match x, y with
  | .int i, .int j => Q (.int (if j < i then j else i)) M
  | _, _ => False
theorem ok_max2 : OkL K (fun xs H Q => ∃ i j, xs = [.int i, .int j] ∧ Q (.int (if j > i then j else i)) H) (f2 fMax2) := ok2L fun Fo x y v u M H Q Qt m rx ry h k => by
  cases rx <;> cases ry <;> first | exact ⟨_, _, rfl, k.here m (.int _) h⟩ | exact h.elim
theorem ok_min2 : OkL K (fun xs H Q => ∃ i j, xs = [.int i, .int j] ∧ Q (.int (if j < i then j else i)) H) (f2 fMin2) := ok2L fun Fo x y v u M H Q Qt m rx ry h k => by
  cases rx <;> cases ry <;> first | exact ⟨_, _, rfl, k.here m (.int _) h⟩ | exact h.elim
def fStrI (x : Dat) (M : Mh) (Q : VD) : Prop := match x with
  | .int i => i.natAbs.log2 < 1920 ∧ Q (.str (PySem.Str.ofString (toString i))) M
  | .str z => Q (.str z) M
  | _ => False
end
section
variable {X : Cx} {e a : Expr} {es : List Expr} {we wa wo : WE} {ws : WA} {pos p : Pos} {n : Nat}
theorem de_len (hg : Gl X "len") (hm : X.mg "len" = none) (ha : DA X (e :: es) n ws) (he : starEach (e :: es) X.env = (false, eval e X.env) :: starEach es X.env := by rfl) (hpl : (backTo pos (starEach es X.env)).any (·.1) = false := by rfl) : DE X (.Call (.Name "len" p) (e :: es) [] pos) (wBlt (f1 fLen) ws) := de_blt c_len ok_len hg hm PySem.boot_len ha (by decide) (by decide) he hpl
theorem de_tupOf (hg : Gl X "tuple") (hm : X.mg "tuple" = none) (ha : DA X (e :: es) n ws) (he : starEach (e :: es) X.env = (false, eval e X.env) :: starEach es X.env := by rfl) (hpl : (backTo pos (starEach es X.env)).any (·.1) = false := by rfl) : DE X (.Call (.Name "tuple" p) (e :: es) [] pos) (wBlt (f1 fTupOf) ws) := de_bty (r := rTupOf X.K) call_tuple_of ok_tupOf hg hm (by decide +kernel) ha (by decide) (by decide) he hpl
theorem dn_lstOf (hg : Gl X "list") (hm : X.mg "list" = none) (ha : DA X (e :: es) n ws) (he : starEach (e :: es) X.env = (false, eval e X.env) :: starEach es X.env := by rfl) (hpl : (backTo pos (starEach es X.env)).any (·.1) = false := by rfl) : DN X (.Call (.Name "list" p) (e :: es) [] pos) (wBltN (f1N fLstOf) ws) := dn_bty call_list_of ok_lstOf hg hm (by decide +kernel) ha (by decide) (by decide) he hpl
theorem de_all (hc : X.calm = true) (hg : Gl X "all") (hm : X.mg "all" = none) (ha : DA X (e :: es) n ws) (he : starEach (e :: es) X.env = (false, eval e X.env) :: starEach es X.env := by rfl) (hpl : (backTo pos (starEach es X.env)).any (·.1) = false := by rfl) : DE X (.Call (.Name "all" p) (e :: es) [] pos) (wBlt (f1 fAll) ws) := de_blt (cr_all hc) ok_all hg hm (by decide +kernel) ha (by decide) (by decide) he hpl
theorem de_any (hc : X.calm = true) (hg : Gl X "any") (hm : X.mg "any" = none) (ha : DA X (e :: es) n ws) (he : starEach (e :: es) X.env = (false, eval e X.env) :: starEach es X.env := by rfl) (hpl : (backTo pos (starEach es X.env)).any (·.1) = false := by rfl) : DE X (.Call (.Name "any" p) (e :: es) [] pos) (wBlt (f1 fAny) ws) := de_blt (cr_any hc) ok_any hg hm (by decide +kernel) ha (by decide) (by decide) he hpl
theorem de_sum (hc : X.calm = true) (hg : Gl X "sum") (hm : X.mg "sum" = none) (ha : DA X (e :: es) n ws) (he : starEach (e :: es) X.env = (false, eval e X.env) :: starEach es X.env := by rfl) (hpl : (backTo pos (starEach es X.env)).any (·.1) = false := by rfl) : DE X (.Call (.Name "sum" p) (e :: es) [] pos) (wBlt (f1 fSum) ws) := de_blt (cr_sum hc) ok_sum hg hm (by decide +kernel) ha (by decide) (by decide) he hpl
theorem de_max2 (hc : X.calm = true) (hg : Gl X "max") (hm : X.mg "max" = none) (ha : DA X (e :: es) n ws) (he : starEach (e :: es) X.env = (false, eval e X.env) :: starEach es X.env := by rfl) (hpl : (backTo pos (starEach es X.env)).any (·.1) = false := by rfl) : DE X (.Call (.Name "max" p) (e :: es) [] pos) (wBlt (f2 fMax2) ws) := de_blt (call_max2 hc) ok_max2 hg hm (by decide +kernel) ha (by decide) (by decide) he hpl
theorem de_min2 (hc : X.calm = true) (hg : Gl X "min") (hm : X.mg "min" = none) (ha : DA X (e :: es) n ws) (he : starEach (e :: es) X.env = (false, eval e X.env) :: starEach es X.env := by rfl) (hpl : (backTo pos (starEach es X.env)).any (·.1) = false := by rfl) : DE X (.Call (.Name "min" p) (e :: es) [] pos) (wBlt (f2 fMin2) ws) := de_blt (call_min2 hc) ok_min2 hg hm (by decide +kernel) ha (by decide) (by decide) he hpl
theorem de_maxL (hc : X.calm = true) (hg : Gl X "max") (hm : X.mg "max" = none) (ha : DA X (e :: es) n ws) (he : starEach (e :: es) X.env = (false, eval e X.env) :: starEach es X.env := by rfl) (hpl : (backTo pos (starEach es X.env)).any (·.1) = false := by rfl) : DE X (.Call (.Name "max" p) (e :: es) [] pos) (wBlt (f1 fMaxL) ws) := de_blt (cr_max hc) ok_maxL hg hm (by decide +kernel) ha (by decide) (by decide) he hpl
theorem de_minL (hc : X.calm = true) (hg : Gl X "min") (hm : X.mg "min" = none) (ha : DA X (e :: es) n ws) (he : starEach (e :: es) X.env = (false, eval e X.env) :: starEach es X.env := by rfl) (hpl : (backTo pos (starEach es X.env)).any (·.1) = false := by rfl) : DE X (.Call (.Name "min" p) (e :: es) [] pos) (wBlt (f1 fMinL) ws) := de_blt (cr_min hc) ok_minL hg hm (by decide +kernel) ha (by decide) (by decide) he hpl
theorem de_abs (hg : Gl X "abs") (hm : X.mg "abs" = none) (ha : DA X (e :: es) n ws) (he : starEach (e :: es) X.env = (false, eval e X.env) :: starEach es X.env := by rfl) (hpl : (backTo pos (starEach es X.env)).any (·.1) = false := by rfl) : DE X (.Call (.Name "abs" p) (e :: es) [] pos) (wBlt (f1 fAbs) ws) := de_blt call_abs ok_abs hg hm (by decide +kernel) ha (by decide) (by decide) he hpl
theorem de_intOf (hg : Gl X "int") (hm : X.mg "int" = none) (ha : DA X (e :: es) n ws) (he : starEach (e :: es) X.env = (false, eval e X.env) :: starEach es X.env := by rfl) (hpl : (backTo pos (starEach es X.env)).any (·.1) = false := by rfl) : DE X (.Call (.Name "int" p) (e :: es) [] pos) (wBlt (f1 fInt) ws) := de_bty c_int ok_int hg hm (by decide +kernel) ha (by decide) (by decide) he hpl
end

/-! ### methods of lists -/
section
variable {X : Cx} {e o : Expr} {es : List Expr} {we wo : WE} {ws : WA} {pos apos cpos : Pos} {n : Nat}
def isL (M : Mh) (x : Dat) : Prop := ∃ a xs, x = .ref a ∧ M a = some (.lst xs)
/-- o.m(e, ..) that changes the list o -/
def wMetL (f : Dat → FL) (wo : WE) (ws : WA) : WE := fun S Q => wo S fun x M1 => isL M1 x ∧ ws ⟨S.env, M1⟩ fun ds M2 => f x ds M2 Q
def OkM (K : PySem.W.Frag) (r : V → List V → Hp → VK → Prop) (f : Dat → FL) : Prop := ∀ (Fo : Addr → Prop) (x : Dat) (vx : V) (xs : List Dat) (vs : List V) (M : Mh) (H : Hp) (Q : VD) (Qt : VK), RelM ⟨K, Fo⟩ M H → Rep ⟨K, Fo⟩ M H x vx → Reps ⟨K, Fo⟩ M H xs vs → f x xs M Q → Fin ⟨K, Fo⟩ M H Q Qt → r vx vs H Qt
theorem isL_ty {K : KF} {M : Mh} {H : Hp} {x : Dat} {v : V} (m : RelM K M H) (r : Rep K M H x v) (h : isL M x) : tyV K.k "list" v H := by
  obtain ⟨a, xs, rfl, e⟩ := h
  cases r
  obtain ⟨vs, h1, _⟩ := m.ob a _ e
  exact .inl ⟨rfl, vs, .of h1⟩
def mAppend (x : Dat) : FL := fun ds M Q => match x, ds with
  | .ref a, [d] => ∃ xs, M a = some (.lst xs) ∧ xs.length < sizeLine ∧ Q .non (updM M a (.lst (xs ++ [d])))
  | _, _ => False
def mExtend (x : Dat) : FL := fun ds M Q => match x, ds with
  | .ref a, [d] => ∃ xs ys, M a = some (.lst xs) ∧ ownOf M d = some ys ∧ xs.length + ys.length ≤ sizeLine ∧ Q .non (updM M a (.lst (xs ++ ys)))
  | _, _ => False
def mPop (x : Dat) : FL := fun ds M Q => match x, ds with
  | .ref a, [] => ∃ xs d, M a = some (.lst xs) ∧ xs[xs.length - 1]? = some d ∧ Q d (updM M a (.lst xs.dropLast))
  | _, _ => False
theorem ok_append {K : PySem.W.Frag} : OkM K rAppend mAppend := fun Fo x vx xs vs M H Q Qt m rx rr h k => by
  unfold mAppend at h
  split at h
  · obtain ⟨ys, e, hl, q⟩ := h
    cases rx
    obtain ⟨v, rfl, rv⟩ := rr.one
    obtain ⟨ws, h1, h2⟩ := m.ob _ _ e
    refine ⟨_, ws, v, rfl, rfl, h1, by rw [← h2.length]; exact hl, ?_⟩
    exact k _ _ .non _ (.write e) (m.write (mo' := .lst _) e ⟨_, upd_same, (h2.go (.write e)).append (.cons (rv.go (.write e)) .nil)⟩) .non q
  · exact h.elim
theorem ok_extend {K : PySem.W.Frag} : OkM K rExtend mExtend := fun Fo x vx xs vs M H Q Qt m rx rr h k => by
  unfold mExtend at h
  split at h
  · obtain ⟨ys, zs, e, e2, hl, q⟩ := h
    cases rx
    obtain ⟨v, rfl, rv⟩ := rr.one
    obtain ⟨ws, h1, h2⟩ := m.ob _ _ e
    obtain ⟨b, us, rfl, h3, h4⟩ := ownOf_lst m rv e2
    refine ⟨_, b, ws, us, rfl, rfl, h1, h3, by rw [← h2.length, ← h4.length]; exact hl, ?_⟩
    exact k _ _ .non _ (.write e) (m.write (mo' := .lst _) e ⟨_, upd_same, (h2.go (.write e)).append (h4.go (.write e))⟩) .non q
  · exact h.elim
theorem ok_pop {K : PySem.W.Frag} : OkM K rPop mPop := fun Fo x vx xs vs M H Q Qt m rx rr h k => by
  unfold mPop at h
  split at h
  · obtain ⟨ys, d, e, hd, q⟩ := h
    cases rx
    cases rr
    obtain ⟨ws, h1, h2⟩ := m.ob _ _ e
    obtain ⟨v, h3, h4⟩ := h2.get hd
    refine ⟨_, ws, v, rfl, rfl, h1, by rw [← h2.length]; exact h3, ?_⟩
    exact k _ _ d _ (.write e) (m.write (mo' := .lst _) e ⟨_, upd_same, (h2.dropLast).go (.write e)⟩) (h4.go (.write e)) q
  · exact h.elim
theorem de_metL {id : String} {name : Str} {r : V → List V → Hp → VK → Prop} {f : Dat → FL} (slot : Slot "list" name id) (hty : typeOf (.builtin id) = pure (.type "method_descriptor")) (hm : MtR X id r) (ok : OkM X.K r f) (ho : DE X o wo) (ha : DA X (e :: es) n ws)
    (hbase : attributeBase o name X.env (eval o X.env) = eval o X.env)
    (hfew : ((backTo cpos (starEach (e :: es) X.env)).all (fun x => !x.1) && (backToKw cpos (keywordEach [] X.env)).all (fun x => x.1.isSome)
      && decide ((e :: es).length + ([] : List Keyword).length + (if ([] : List Keyword).isEmpty then 0 else 1) < 30)) = true)
    (hline : (apos.endLine == cpos.line) = true) (hs : starEach (e :: es) X.env = (false, eval e X.env) :: starEach es X.env) (hplain : (backTo cpos (starEach es X.env)).any (·.1) = false) : DE X (.Call (.Attribute o name apos) (e :: es) [] cpos) (wMetL f wo ws) :=
  peWeak (pe_bm PySem.F.plainAttrs_list slot hty hm ho ha.pa hbase hfew hline hs hplain) fun σ H Qt ⟨Fo, S, Q, rs, h, k⟩ => ⟨Fo, S, _, rs, h, fun v H' d M' g m r ⟨il, q⟩ => ⟨isL_ty m r il, Fo, ⟨S.env, M'⟩, _, rs.go g m, q, fun vs H2 ds M2 g2 m2 r2 q2 => ok _ _ _ _ _ _ _ _ _ m2 (r.go g2) r2 q2 (k.go (g.trans g2))⟩⟩
theorem de_append (ho : DE X o wo) (ha : DA X (e :: es) n ws)
    (hbase : attributeBase o "append" X.env (eval o X.env) = eval o X.env := by rfl)
    (hfew : ((backTo cpos (starEach (e :: es) X.env)).all (fun x => !x.1) && (backToKw cpos (keywordEach [] X.env)).all (fun x => x.1.isSome)
      && decide ((e :: es).length + ([] : List Keyword).length + (if ([] : List Keyword).isEmpty then 0 else 1) < 30)) = true := by rfl)
    (hline : (apos.endLine == cpos.line) = true := by rfl) (hs : starEach (e :: es) X.env = (false, eval e X.env) :: starEach es X.env := by rfl) (hplain : (backTo cpos (starEach es X.env)).any (·.1) = false := by rfl) : DE X (.Call (.Attribute o "append" apos) (e :: es) [] cpos) (wMetL mAppend wo ws) :=
  de_metL PySem.F.slot_list_append PySem.F.type_list_append mt_append ok_append ho ha hbase hfew hline hs hplain
theorem de_extend (ho : DE X o wo) (ha : DA X (e :: es) n ws)
    (hbase : attributeBase o "extend" X.env (eval o X.env) = eval o X.env := by rfl)
    (hfew : ((backTo cpos (starEach (e :: es) X.env)).all (fun x => !x.1) && (backToKw cpos (keywordEach [] X.env)).all (fun x => x.1.isSome)
      && decide ((e :: es).length + ([] : List Keyword).length + (if ([] : List Keyword).isEmpty then 0 else 1) < 30)) = true := by rfl)
    (hline : (apos.endLine == cpos.line) = true := by rfl) (hs : starEach (e :: es) X.env = (false, eval e X.env) :: starEach es X.env := by rfl) (hplain : (backTo cpos (starEach es X.env)).any (·.1) = false := by rfl) : DE X (.Call (.Attribute o "extend" apos) (e :: es) [] cpos) (wMetL mExtend wo ws) :=
  de_metL PySem.F.slot_list_extend PySem.F.type_list_extend mt_extend ok_extend ho ha hbase hfew hline hs hplain
theorem de_pop (ho : DE X o wo) (hbase : attributeBase o "pop" X.env (eval o X.env) = eval o X.env := by rfl) (hline : (apos.endLine == cpos.line) = true := by rfl) : DE X (.Call (.Attribute o "pop" apos) [] [] cpos) (wMetL mPop wo wNil) :=
  peWeak (pe_bm0 PySem.F.plainAttrs_list PySem.F.slot_list_pop PySem.F.type_list_pop mt_pop ho hbase hline) fun σ H Qt ⟨Fo, S, Q, rs, h, k⟩ => ⟨Fo, S, _, rs, h, fun v H' d M' g m r ⟨il, q⟩ => ⟨isL_ty m r il, ok_pop _ _ _ _ _ _ _ _ _ m r .nil q (k.go g)⟩⟩
end
end Lk

namespace Lk
open PySem PySem.Spec L2

def wipeD (env : List (Option Dat)) : List Nat → List (Option Dat)
  | [] => env
  | v :: vs => (wipeD env vs).set v none
theorem wipeD_length (env : List (Option Dat)) : ∀ vs : List Nat, (wipeD env vs).length = env.length
  | [] => rfl
  | v :: vs => by unfold wipeD; rw [List.length_set, wipeD_length env vs]
theorem wipeD_some {env : List (Option Dat)} {i : Nat} {d : Dat} : ∀ {vs : List Nat}, (wipeD env vs)[i]? = some (some d) → env[i]? = some (some d) ∧ i ∉ vs
  | [], h => ⟨h, by simp⟩
  | v :: vs, h => by
    unfold wipeD at h
    by_cases hi : v = i
    · subst hi
      by_cases hv : v < (wipeD env vs).length
      · rw [List.getElem?_set_self hv] at h; cases h
      · rw [List.getElem?_eq_none (by simpa using hv)] at h; cases h
    · rw [List.getElem?_set_ne hi] at h
      obtain ⟨h1, h2⟩ := wipeD_some h
      exact ⟨h1, by simp only [List.mem_cons, not_or]; exact ⟨fun e => hi e.symm, h2⟩⟩
theorem wipe_keep {σ : L2.St} {i : Nat} {v : V} : ∀ {vs : List Nat}, σ[i]? = some (some v) → i ∉ vs → (wipe σ vs)[i]? = some (some v)
  | [], h, _ => h
  | u :: vs, h, n => by
    unfold wipe
    rw [List.mem_cons, not_or] at n
    rw [List.getElem?_set_ne (fun e => n.1 e.symm)]
    exact wipe_keep h n.2
theorem RelS.wipe {K : KF} {S : DS} {σ : L2.St} {H : Hp} (r : RelS K S σ H) (vs : List Nat) : RelS K ⟨wipeD S.env vs, S.M⟩ (L2.wipe σ vs) H :=
  ⟨by rw [wipeD_length, wipe_length]; exact r.len, fun i d e => by
    obtain ⟨h1, h2⟩ := wipeD_some e
    obtain ⟨v, h3, h4⟩ := r.env i d h1
    exact ⟨v, wipe_keep h3 h2, h4⟩, r.mem⟩

theorem set_wiped {σ : L2.St} {w : Nat} : ∀ {vs : List Nat}, w ∈ vs → (L2.wipe σ vs).set w none = L2.wipe σ vs
  | [], h => by simp at h
  | v :: vs, h => by
    unfold L2.wipe
    by_cases e : w = v
    · subst e; rw [List.set_set]
    · have h' : w ∈ vs := by simpa [e] using h
      rw [List.set_comm _ _ (fun z => e z.symm), set_wiped h']
theorem wipe_sub {σ : L2.St} {vs : List Nat} : ∀ {ws : List Nat}, (∀ w ∈ ws, w ∈ vs) → L2.wipe (L2.wipe σ vs) ws = L2.wipe σ vs
  | [], _ => rfl
  | w :: ws, h => by
    show (L2.wipe (L2.wipe σ vs) ws).set w none = _
    rw [wipe_sub fun x hx => h x (List.mem_cons_of_mem _ hx), set_wiped (h w List.mem_cons_self)]
theorem wipe_wipe {σ : L2.St} {vs : List Nat} : L2.wipe (L2.wipe σ vs) vs = L2.wipe σ vs := wipe_sub fun _ h => h

/-! ### targets of a comprehension: its own slots alone -/
def LGc (K : PySem.W.Frag) (vs : List Nat) (g : WG) : TG := fun v σ H Qt => ∃ Fo S d Q, RelS ⟨K, Fo⟩ S σ H ∧ Rep ⟨K, Fo⟩ S.M H d v ∧ g d S Q ∧ ∀ S' σ' H', Go S.M H S'.M H' → RelS ⟨K, Fo⟩ S' σ' H' → L2.wipe σ' vs = L2.wipe σ vs → Q S' → Qt σ' H'
def LGsc (K : PySem.W.Frag) (vs : List Nat) (g : WGs) : TGs := fun us σ H Qt => ∃ Fo S ds Q, RelS ⟨K, Fo⟩ S σ H ∧ Reps ⟨K, Fo⟩ S.M H ds us ∧ g ds S Q ∧ ∀ S' σ' H', Go S.M H S'.M H' → RelS ⟨K, Fo⟩ S' σ' H' → L2.wipe σ' vs = L2.wipe σ vs → Q S' → Qt σ' H'
def DGc (X : Cx) (tg : Expr) (vs : List Nat) (g : WG) : Prop := PG X tg (LGc X.K vs g)
def DGsc (X : Cx) (tgs : List Expr) (vs : List Nat) (g : WGs) : Prop := PGs X tgs (LGsc X.K vs g)
theorem wipe_set {σ : L2.St} {i : Nat} {x : Option V} : ∀ {vs : List Nat}, i ∈ vs → L2.wipe (σ.set i x) vs = L2.wipe σ vs
  | [], h => by simp at h
  | u :: vs, h => by
    unfold L2.wipe
    by_cases hi : i ∈ vs
    · rw [wipe_set hi]
    · have e : i = u := by simpa [hi] using h
      subst e
      clear h
      have key : ∀ ws : List Nat, i ∉ ws → L2.wipe (σ.set i x) ws = (L2.wipe σ ws).set i x := by
        intro ws
        induction ws with
        | nil => intro _; rfl
        | cons w ws ih =>
          intro hn
          rw [List.mem_cons, not_or] at hn
          show (L2.wipe (σ.set i x) ws).set w none = ((L2.wipe σ ws).set w none).set i x
          rw [ih hn.2, List.set_comm _ _ hn.1]
      rw [key vs hi, List.set_set]
section
variable {X : Cx} {tg : Expr} {tgs : List Expr} {vs : List Nat} {pos : Pos}
theorem dgc_name {i : Nat} (h : PG X tg (gName i)) (hi : i ∈ vs) : DGc X tg vs (gN i) := pgWeak h fun v σ H Qt ⟨Fo, S, d, Q, rs, r, h, k⟩ => k ⟨S.env.set i (some d), S.M⟩ _ H (.refl _ _) (rs.set i r) (wipe_set hi) h
theorem dgsc_nil : DGsc X [] vs gEnd := pgsWeak pgs_nil fun v σ H Qt ⟨Fo, S, ds, Q, rs, r, h, k⟩ => by
  cases r with
  | nil => exact ⟨rfl, k S σ H (.refl _ _) rs rfl h⟩
  | cons _ _ => exact h.elim
theorem dgsc_cons {g : WG} {gs : WGs} (h1 : DGc X tg vs g) (h2 : DGsc X tgs vs gs) (hs : (assignEach (tg :: tgs) X.env).map (·.2) = assign tg X.env :: (assignEach tgs X.env).map (·.2) := by rfl) : DGsc X (tg :: tgs) vs (gMore g gs) :=
  pgsWeak (pgs_cons h1 h2 hs) fun v σ H Qt ⟨Fo, S, ds, Q, rs, r, h, k⟩ => by
    cases r with
    | nil => exact h.elim
    | cons r rr => exact ⟨_, _, rfl, Fo, S, _, _, rs, r, h, fun S' σ' H' g' rs' w q => ⟨Fo, S', _, Q, rs', rr.go g', q, fun S2 σ2 H2 g2 rs2 w2 q2 => k S2 σ2 H2 (g'.trans g2) rs2 (w2.trans w) q2⟩⟩
theorem dgc_tup {es : List Expr} {k n : Nat} {gs : WGs} (hc : X.calm = true) (h : DGsc X es vs gs) (hn : (assignEach es X.env).length = n := by rfl) (hst : (assignEach es X.env).findIdx? (·.1) = none := by rfl) : DGc X (.Tuple es k pos) vs (gTp n gs) :=
  pgWeak (pgOr (pg_tup hc h hn hst) (pg_unl hc h hn hst)) fun v σ H Qt ⟨Fo, S, d, Q, rs, r, ⟨ds, e, hl, h⟩, k⟩ => by
    obtain ⟨a, us, rfl, h1, h2⟩ := seqOf_sq rs.mem r e
    rcases h1 with h1 | h1
    · exact .inr ⟨a, us, rfl, h1, h2.length.symm.trans hl, Fo, S, ds, Q, rs, h2, h, k⟩
    · exact .inl ⟨a, us, rfl, h1, h2.length.symm.trans hl, Fo, S, ds, Q, rs, h2, h, k⟩
end
/-! ### tests of a comprehension -/
def DTs (X : Cx) (ifs : List Expr) (w : WT) : Prop := PTs X ifs (LT X.K w)
def wYes : WT := fun S Q => Q true S.M
theorem ptsWeak {X : Cx} {ifs : List Expr} {t t' : TT} (h : PTs X ifs t) (k : ∀ σ H Q, t' σ H Q → t σ H Q) : PTs X ifs t' := ⟨fun pins s σ H Q I q => h.run pins s σ H Q I (k σ H Q q)⟩
theorem dts_nil {X : Cx} : DTs X [] wYes := ptsWeak pts_nil fun σ H Qt ⟨Fo, S, Q, rs, h, k⟩ => k true H S.M (.refl _ _) rs.mem h
theorem dts_one {X : Cx} {c : Expr} {w : WT} (h : DT X c w) : DTs X [c] w := pts_one h

/-! ### an object set apart while it is filled -/
def foAdd (F : Addr → Prop) (D : Addr) : Addr → Prop := fun a => F a ∨ a = D
section
variable {k : PySem.W.Frag} {F : Addr → Prop} {M : Mh} {H : Hp} {D : Addr} {o : HO}
theorem fo_new (h : H D = none) : GoF F (foAdd F D) M H M (upd H D o) := fun a u m f e => by
  have n : a ≠ D := ne_of_none e h
  exact ⟨m, fun z => z.elim f n, by rw [upd_ne n]; exact e⟩
theorem RelM.apart (m : RelM ⟨k, F⟩ M H) (h : H D = none) : RelM ⟨k, foAdd F D⟩ M (upd H D o) := ⟨fun a mo e => by
  obtain ⟨u, hu⟩ := (m.ob a mo e).some
  exact (m.ob a mo e).move (fo_new h) (upd_ne (ne_of_none hu h)), fun a f => by
    rcases f with f | f
    · obtain ⟨h1, u, h2⟩ := m.fo a f
      exact ⟨h1, u, by rw [upd_ne (ne_of_none h2 h)]; exact h2⟩
    · rw [f]
      exact ⟨m.free h, o, upd_same⟩⟩
theorem fo_chg : GoF (foAdd F D) (foAdd F D) M H M (upd H D o) := fun a u m f e => by
  have n : a ≠ D := fun z => f (.inr z)
  exact ⟨m, f, by rw [upd_ne n]; exact e⟩
theorem RelM.chg (m : RelM ⟨k, foAdd F D⟩ M H) : RelM ⟨k, foAdd F D⟩ M (upd H D o) := by
  have hD : M D = none := (m.fo D (.inr rfl)).1
  refine ⟨fun a mo e => ?_, fun a f => ?_⟩
  · have n : a ≠ D := fun z => by rw [z, hD] at e; cases e
    exact (m.ob a mo e).move fo_chg (upd_ne n)
  · obtain ⟨h1, u, h2⟩ := m.fo a f
    by_cases n : a = D
    · rw [n]; exact ⟨hD, o, upd_same⟩
    · exact ⟨h1, u, by rw [upd_ne n]; exact h2⟩
theorem fo_less : GoF (foAdd F D) F M H M H := fun a u m f e => ⟨m, fun z => f (.inl z), e⟩
theorem RelM.less (m : RelM ⟨k, foAdd F D⟩ M H) : RelM ⟨k, F⟩ M H := ⟨fun a mo e => (m.ob a mo e).move fo_less rfl, fun a f => m.fo a (.inl f)⟩
theorem fo_own {mo : MO} : GoF (foAdd F D) F M H (updM M D mo) H := fun a u m f e => ⟨by rw [updM_ne (fun z => f (.inr z))]; exact m, fun z => f (.inl z), e⟩
theorem RelM.own (m : RelM ⟨k, foAdd F D⟩ M H) (nf : ¬ F D) {mo : MO} (h : MOk ⟨k, F⟩ (updM M D mo) H D mo) : RelM ⟨k, F⟩ (updM M D mo) H := ⟨fun a u e => by
  by_cases n : a = D
  · subst n; rw [updM_same] at e; cases e; exact h
  · rw [updM_ne n] at e
    exact (m.ob a u e).move fo_own rfl, fun a f => by
      have n : a ≠ D := fun z => nf (z ▸ f)
      rw [updM_ne n]
      exact m.fo a (.inl f)⟩
end

/-! ### [elt for target in iter if ..] -/
def wCompL (g : WG) (wt : WT) (we : WE) (env : List (Option Dat)) : List Dat → List Dat → Mh → (List Dat → Mh → Prop) → Prop
  | [], acc, M, Q => Q acc M
  | d :: ds, acc, M, Q => g d ⟨env, M⟩ fun S1 => wt S1 fun b M1 => if b = true then we ⟨S1.env, M1⟩ fun y M2 => wCompL g wt we env ds (acc ++ [y]) M2 Q else wCompL g wt we env ds acc M1 Q
def wComp (vs : List Nat) (wi : WI) (g : WG) (wt : WT) (we : WE) : WN := fun S Q => wi S fun ds M => ds.length ≤ sizeLine ∧ wCompL g wt we (wipeD S.env vs) ds [] M fun acc M' => Q (.lst acc) M'
section
variable {X : Cx} {tg iter elt : Expr} {ifs : List Expr} {scope : Scope} {own : List (Str × Nat)} {pos : Pos} {wi : WI} {g : WG} {wt : WT} {we : WE}
theorem lc_read {K : PySem.W.Frag} {vs : List Nat} {σ : L2.St} {H : Hp} {Qt : VK} (h : LN K (wComp vs wi g wt we) σ H Qt) : tLc (LI K wi) (LGc K vs g) (LT K wt) (LE K we) vs σ H Qt := by
  obtain ⟨Fo, S, Q, rs, h, kk⟩ := h
  refine ⟨Fo, S, _, rs, h, fun J H1 ds M1 g1 m1 it q D hD => ?_⟩
  obtain ⟨hz, q⟩ := q
  have nf : ¬ Fo D := m1.nfo hD
  refine ⟨fun i m Hh => m = ds.length - i ∧ i ≤ ds.length ∧ ∃ M acc vsA, Go M1 H1 M Hh ∧ RelM ⟨K, foAdd Fo D⟩ M Hh ∧ Hh D = some (.lst vsA) ∧ Reps ⟨K, foAdd Fo D⟩ M Hh acc vsA ∧ acc.length ≤ i ∧ wCompL g wt we (wipeD S.env vs) (ds.drop i) acc M (fun acc M' => Q (.lst acc) M'), ?_, ?_⟩
  · exact ⟨ds.length, by simp, Nat.zero_le _, M1, [], [], .fresh hD, m1.apart hD, upd_same, .nil, Nat.le_refl _, by simpa using q⟩
  rintro i m Hh ⟨rfl, hi, M, acc, vsA, gg, mm, hDh, ra, hl, q'⟩
  have gf : GoF Fo (foAdd Fo D) M1 H1 M Hh := fun a u z1 z2 z3 => ⟨(gg a u z1 z3).1, fun z => z.elim z2 (ne_of_none z3 hD), (gg a u z1 z3).2⟩
  by_cases hlt : i < ds.length
  · refine .inr ⟨it.go _ _ _ gf mm i hlt, fun H' => ∃ M acc vsA, Go M1 H1 M H' ∧ RelM ⟨K, foAdd Fo D⟩ M H' ∧ H' D = some (.lst vsA) ∧ Reps ⟨K, foAdd Fo D⟩ M H' acc vsA ∧ acc.length ≤ i + 1 ∧ wCompL g wt we (wipeD S.env vs) (ds.drop (i + 1)) acc M (fun acc M' => Q (.lst acc) M'),
      fun H' ⟨M', acc', vsA', a, b, c, d, e, f⟩ => ⟨ds.length - (i + 1), by omega, rfl, hlt, M', acc', vsA', a, b, c, d, e, f⟩, fun x H2 y => ?_⟩
    obtain ⟨d, hd, g2, m2, r2⟩ := it.yld _ _ _ gf mm i hlt x H2 y
    have ed : ds.drop i = d :: ds.drop (i + 1) := by
      rw [List.drop_eq_getElem_cons hlt]
      rw [List.getElem?_eq_getElem hlt] at hd
      cases hd
      rfl
    rw [ed] at q'
    have q' : g d ⟨wipeD S.env vs, M⟩ fun S1 => wt S1 fun b M1 => if b = true then we ⟨S1.env, M1⟩ fun y M2 => wCompL g wt we (wipeD S.env vs) (ds.drop (i + 1)) (acc ++ [y]) M2 (fun acc M' => Q (.lst acc) M') else wCompL g wt we (wipeD S.env vs) (ds.drop (i + 1)) acc M1 (fun acc M' => Q (.lst acc) M') := q'
    have hDM : M D = none := (mm.fo D (.inr rfl)).1
    have rsw : RelS ⟨K, foAdd Fo D⟩ ⟨wipeD S.env vs, M⟩ (L2.wipe σ vs) H2 := by
      have r0 := rs.wipe vs
      refine ⟨r0.len, fun j e he => ?_, m2⟩
      obtain ⟨v, h1, h2⟩ := r0.env j e he
      exact ⟨v, h1, (h2.move (g1.f.trans gf)).go g2⟩
    refine ⟨foAdd Fo D, ⟨wipeD S.env vs, M⟩, d, _, rsw, r2, q', fun S3 σ3 H3 g3 rs3 w3 q3 => ⟨w3.trans wipe_wipe, foAdd Fo D, S3, _, rs3, q3, fun b H4 M4 g4 m4 q4 => ?_⟩⟩
    cases b with
    | true =>
      rw [if_pos rfl] at q4 ⊢
      refine ⟨foAdd Fo D, ⟨S3.env, M4⟩, _, rs3.go g4 m4, q4, fun u H5 e M5 g5 m5 r5 q5 => ?_⟩
      have gall : Go M Hh M5 H5 := g2.trans (g3.trans (g4.trans g5))
      have hD5 : H5 D = some (.lst vsA) := (gall D _ hDM hDh).2
      refine ⟨vsA, hD5, by rw [← ra.length]; omega, M5, acc ++ [e], vsA ++ [u], ?_, m5.chg, upd_same, (((ra.go gall).append (.cons r5 .nil)).move fo_chg), by simp; omega, q5⟩
      intro a o z1 z2
      have z3 := (gg.trans gall) a o z1 z2
      exact ⟨z3.1, by rw [upd_ne (ne_of_none z2 hD)]; exact z3.2⟩
    | false =>
      rw [if_neg Bool.false_ne_true] at q4 ⊢
      have gall : Go M Hh M4 H4 := g2.trans (g3.trans g4)
      exact ⟨M4, acc, vsA, gg.trans gall, m4, (gall D _ hDM hDh).2, ra.go gall, Nat.le_succ_of_le hl, q4⟩
  · have e : i = ds.length := by omega
    subst e
    rw [List.drop_length] at q'
    have hDM : M D = none := (mm.fo D (.inr rfl)).1
    refine .inl ⟨it.stop _ _ _ gf mm, kk D Hh (.lst acc) M ?_ hDM (mm.own nf ⟨vsA, hDh, ra.move fo_own⟩) q'⟩
    refine g1.trans fun a o z1 z2 => ?_
    have z3 := gg a o z1 z2
    exact ⟨by rw [updM_ne (ne_of_none z2 hD)]; exact z3.1, z3.2⟩
theorem dn_comp (hc : X.calm = true) (hN : X.N.Nodup) (hi : DI X tg iter wi) (ok : BlkOk X.N X.env.scope scope own)
    (hg : ∀ (s : Shared) (H : Hp) (C : Addr) (cl : List (Str × Addr)) (fp : List Addr), DGc (X.blk s H scope (compEnvC scope cl C X.env) fp) tg (own.map (·.2)) g) (ht : ∀ (s : Shared) (H : Hp) (C : Addr) (cl : List (Str × Addr)) (fp : List Addr), DTs (X.blk s H scope (compEnvC scope cl C X.env) fp) ifs wt)
    (he : ∀ (s : Shared) (H : Hp) (C : Addr) (cl : List (Str × Addr)) (fp : List Addr), DE (X.blk s H scope (compEnvC scope cl C X.env) fp) elt we) (hs : ∀ x, foldedSetIterable iter X.env x = pure x := by intro _; rfl) :
    DN X (.ListComp elt [⟨tg, iter, ifs, 0⟩] scope pos) (wComp (own.map (·.2)) wi g wt we) :=
  peWeak (pe_lc (g := LGc X.K (own.map fun (z : Str × Nat) => z.2) g) (tt := LT X.K wt) (te := LE X.K we) hc hN hi ok hg ht he hs) fun σ H Qt h => lc_read h
/-- name = [..] on one line -/
theorem ds_setComp {i : Nat} {y : Str} {py spos : Pos} (hc : X.calm = true) (hN : X.N.Nodup) (hy : X.N[i]? = some y) (hyl : X.env.scope.names.lookup y = some .local)
    (hsw : swapsWith (.ListComp elt [⟨tg, iter, ifs, 0⟩] scope pos) (some (.Name y py)) spos.line X.env = pure true) (hi : DI X tg iter wi) (ok : BlkOk X.N X.env.scope scope own)
    (hg : ∀ (s : Shared) (H : Hp) (C : Addr) (cl : List (Str × Addr)) (fp : List Addr), DGc (X.blk s H scope (compEnvC scope cl C X.env) fp) tg (own.map (·.2)) g) (ht : ∀ (s : Shared) (H : Hp) (C : Addr) (cl : List (Str × Addr)) (fp : List Addr), DTs (X.blk s H scope (compEnvC scope cl C X.env) fp) ifs wt)
    (he : ∀ (s : Shared) (H : Hp) (C : Addr) (cl : List (Str × Addr)) (fp : List Addr), DE (X.blk s H scope (compEnvC scope cl C X.env) fp) elt we) (hs : ∀ x, foldedSetIterable iter X.env x = pure x := by intro _; rfl) :
    PS X (.Assign [.Name y py] (.ListComp elt [⟨tg, iter, ifs, 0⟩] scope pos) spos) (tAsg (LN X.K (wComp (own.map (·.2)) wi g wt we)) (gName i)) :=
  psWeak (ps_setLc (g := LGc X.K (own.map fun (z : Str × Nat) => z.2) g) (tt := LT X.K wt) (te := LE X.K we) hc hN hy hyl hsw hi ok hg ht he hs) fun D σ H h => lc_read h
end
end Lk

namespace Lk
open PySem PySem.Spec L2
/-- a def of the text as it stands behind the top -/
structure Def (K : PySem.W.Frag) (mg : Str → Option Value) (x : Str) (st : Stmt) (ps : List Str) : Prop where
  ex : ∃ (f : Addr) (fd : FuncData), Fun K x x st f fd ∧ mg x = some (.ref f) ∧ Binds K fd ps []
theorem has_def {P : Program} {w : World} {K : PySem.W.Frag} {mg : Str → Option Value} {base : Heap} {x : Str} {st : Stmt} {N ps : List Str} {k : Nat} (n : Nat) {wf : WF} {wb : WS} (D : Def K mg x st ps) (sc : FnScope N ps (defScope st)) (hn : ps.length = n)
    (body : ∀ (f : Addr) (cdv : Value) (A : Around) (outer : List Env) (s : Shared) (H : Hp) (E : XK), Room k (A.deeper (PyProof.Rows.envOfC x (defScope st) s.heap.objs.size f cdv)) → DSs (cxOf CX0 P w K mg base N x (defScope st) f cdv A outer s H E).nox (defBody st) wb)
    (law : ∀ (ds : List Dat) (M : Mh) (Q : Res → Mh → Prop), ds.length = n → wf ds M Q → wb ⟨startD (N.length - n) ds, M⟩ (bodyEnds Q)) : Has P w K mg base x (k + 1) n wf := by
  obtain ⟨f, fd, F, hm, hb⟩ := D.ex
  exact has_mk n F sc hn hm hb (fun cdv A outer s H E hr => body f cdv A outer s H E hr) law
section
variable {X : Cx} {st : Stmt} {we : WE} {wn : WN}
/-- .. a new list that no one changes -/
theorem ds_setFz' {i : Nat} (h : PS X st (tAsg (LN X.K wn) (gName i))) : DSt X st (wSet i (wFz wn)) := psWeak h fun Dt σ H ⟨Fo, S, D, rs, h, k⟩ =>
  ⟨Fo, S, _, rs, h, .fz (Q' := fun d M' => D.nx ⟨S.env.set i (some d), M'⟩) (fun v H' d M' g m r q => k.nx ⟨_, M'⟩ _ H' g ((rs.go g m).set i r) q) fun _ _ q => q⟩
end
end Lk

/-! LkSetC: set comprehensions of keys, one source or two. -/
namespace Lk
open PySem PySem.Spec PyProof.Rows
open L2 hiding St
open PpSet (newSet_ok eval_SetComp codeAny_compStart_set compLoopS_any)
section
variable {X : Cx}
def tSk (w : World) (wi : TI) (g : TG) (tt : TT) (te : TE) (vs : List Nat) : TE := fun σ H Q => wi σ H fun J H1 => ∀ D, H1 D = none → ∃ W : Nat → Nat → Hp → Prop, (∃ m, W 0 m (upd H1 D (SetMO w D []))) ∧ ∀ i m H, W i m H →
  (J.stop i H ∧ Q (.ref D) H) ∨ (J.go i H ∧ ∃ Nx : Hp → Prop, (∀ H', Nx H' → ∃ m', m' < m ∧ W (i + 1) m' H') ∧ ∀ x H', J.yld i H x H' → g x (wipe σ vs) H' fun σ2 H2 => wipe σ2 vs = wipe σ vs ∧ tt σ2 H2 fun b H3 =>
    if b = true then te σ2 H3 fun y H4 => ∃ (c : Key) (ks : List Key), y = kV c ∧ H4 D = some (SetMO w D ks) ∧ ks.length + 1 < scanBound ∧ Nx (upd H4 D (SetMO w D (addK ks c))) else Nx H3)
theorem sk_core {pins : List (Addr × Obj)} {s : Shared} {σ : L2.St} {H : Hp} {Q : VK} {el tg src : Expr} {cs : List Expr} {sp : Scope} {own : List (PySem.Str × Nat)} {ps ps' : Pos} {wi : TI} {g : TG} {tt : TT} {te : TE} {use : Option (Value → Sem Unit)} {Qf : Value → Shared → Prop}
    (hc : X.calm = true) (hN : X.N.Nodup) (I : Inv X pins σ H s) (hi : PI X tg src wi) (ok : BlkOk X.N X.env.scope sp own)
    (hg : ∀ (s : Shared) (H : Hp) (C : Addr) (cl : List (PySem.Str × Addr)) (fa : List Addr), PG (X.blk s H sp (compEnvC sp cl C X.env) fa) tg g) (ht : ∀ (s : Shared) (H : Hp) (C : Addr) (cl : List (PySem.Str × Addr)) (fa : List Addr), PTs (X.blk s H sp (compEnvC sp cl C X.env) fa) cs tt)
    (he : ∀ (s : Shared) (H : Hp) (C : Addr) (cl : List (PySem.Str × Addr)) (fa : List Addr), PE (X.blk s H sp (compEnvC sp cl C X.env) fa) el te) (hs : ∀ x, foldedSetIterable src X.env x = pure x)
    (h : tSk X.w wi g tt te (own.map (·.2)) σ H Q)
    (hRR : ∀ D C s' m H', Inv X pins σ H' s' → Q (.ref D) H' → s'.heap.Ns C m → FpOk X pins H' C → compPost (model X.prog X.w) X.A X.xe use Qf (.ref D) C (.ok .next) s') :
    wpAny (model X.prog X.w) X.A (comprehension (.SetComp el [⟨tg, src, cs, 0⟩] sp ps) sp X.env ps' (newSet (.type "set")) false (eval src X.env) use) Qf X.xe s := by
  have free0 : ∀ y ∈ sp.names, y.2 = .free → ∃ c, X.env.cells.lookup y.1 = some c := fun y hy e => by
    rcases ok.free y hy e with k | k
    · exact I.ok.has _ (.inl k)
    · exact I.ok.has _ (.inr k)
  refine wpAny_comprehension_free (use := use) rfl hs (closure_ok free0) ok.kind (fun y hy e => by rw [ok.uniq y hy, e])
    (thn (hi.run pins s σ H _ I h) fun xv s1 hx => thn hx fun itv s2 h2 => ?_)
  obtain ⟨it, fa, tm, J, H2, e, I2, T, st2, f2, q⟩ := h2
  subst e
  refine newSet_ok (newEnv_comp ?_)
  generalize hD : s2.heap.objs.size = D
  have hDn : H2 D = none := I2.hok.fresh (Nat.le_of_eq hD)
  obtain ⟨W, ⟨m0, w0⟩, turn⟩ := q D hDn
  -- the new list
  generalize hs3 : ({ s2 with heap := s2.heap.push { cls := .type "set", dict := none, data := .set #[] 0 (.fresh 0 0 (!X.w.params.followText "set-order")) } } : Shared) = s3
  have I3 : Inv X pins σ (upd H2 D (SetMO X.w D [])) s3 := by
    rw [← hs3]
    refine I2.laid (t' := s2.toks) (fun b o e => Heap.get?_push_of_some _ e) (Nat.le_of_eq hD) ?_
    rw [← hD]
    exact setMO_new (setL_fresh X.w)
  have h3 : s3.heap = s2.heap.push { cls := .type "set", dict := none, data := .set #[] 0 (.fresh 0 0 (!X.w.params.followText "set-order")) } := by rw [← hs3]
  have sz : ∀ b ∈ fa, b < s2.heap.objs.size := fun b hb => by
    obtain ⟨o, e, _⟩ := T.obj _ _ st2 b hb
    exact Heap.lt_size e
  have f3 : ∀ b ∈ fa, FpOk X pins (upd H2 D (SetMO X.w D [])) b ∧ b < s3.heap.objs.size := fun b hb => by
    have hb0 := sz b hb
    refine ⟨⟨?_, (f2 b hb).2⟩, by rw [h3, Heap.size_push]; exact Nat.lt_succ_of_lt hb0⟩
    rw [upd_ne (by rw [← hD]; exact Nat.ne_of_lt hb0)]
    exact (f2 b hb).1
  have st3 : tm 0 s3.heap := T.keep _ _ _ st2 fun b _ o e => by rw [h3]; exact Heap.get?_push_of_some _ e
  have I4 := block_start I3 ok hN f3
  have pg := hg s3 (upd H2 D (SetMO X.w D [])) s3.heap.objs.size (cellsFrom (s3.heap.objs.size + 1) sp.names (cloFrom X.env.cells sp.names [])) fa
  have pt := ht s3 (upd H2 D (SetMO X.w D [])) s3.heap.objs.size (cellsFrom (s3.heap.objs.size + 1) sp.names (cloFrom X.env.cells sp.names [])) fa
  have pe := he s3 (upd H2 D (SetMO X.w D [])) s3.heap.objs.size (cellsFrom (s3.heap.objs.size + 1) sp.names (cloFrom X.env.cells sp.names [])) fa
  show codeAny _ _ (.compStart (.SetComp el [⟨tg, src, cs, 0⟩] sp ps) 0 (.ref it) (.ref D) (compEnvC sp (cellsFrom (s3.heap.objs.size + 1) sp.names (cloFrom X.env.cells sp.names [])) s3.heap.objs.size X.env)) (compPost (model X.prog X.w) X.A X.xe use Qf (.ref D) s3.heap.objs.size) { s3 with heap := pushCells (s3.heap.push { cls := .type "dict", data := .dict #[] }) sp.names }
  have nfp : ∀ b ∈ fa, (upd H2 D (SetMO X.w D [])) b = none := fun b hb => (f3 b hb).1.1
  generalize hce : compEnvC sp (cellsFrom (s3.heap.objs.size + 1) sp.names (cloFrom X.env.cells sp.names [])) s3.heap.objs.size X.env = ce at I4 pg pt pe ⊢
  have cL : ce.locals = s3.heap.objs.size := by subst hce; rfl
  generalize hH3 : upd H2 D (SetMO X.w D []) = H3 at I3 I4 pg pt pe w0 nfp f3
  generalize hs4 : ({ s3 with heap := pushCells (s3.heap.push { cls := .type "dict", data := .dict #[] }) sp.names } : Shared) = s4 at I4 ⊢
  have st4 : tm 0 s4.heap := T.keep _ _ _ st3 fun b _ o e => by rw [← hs4]; exact pushCells_keeps _ _ _ _ (Heap.get?_push_of_some _ e)
  have still : ∀ {σ' : L2.St} {H' : Hp} {s' : Shared}, Inv (X.blk s3 H3 sp ce fa) [] σ' H' s' → (∀ b ∈ fa, H' b = none) → ∀ b ∈ fa, FpOk (X.blk s3 H3 sp ce fa) [] H' b := fun {σ' H' s'} I' hn b hb =>
    ⟨hn b hb, (I'.ok.exf b hb).1, I'.ok.exfs b hb, .inl hb, fun x c e => (I'.ok.exf b hb).2 x c e, fun p hp => absurd (show p ∈ ([] : List (Addr × Obj)) ++ [] from hp) (by simp)⟩
  have loop : codeAny (model X.prog X.w) X.A (.compLoop (.SetComp el [⟨tg, src, cs, 0⟩] sp ps) 0 (.ref it) (.ref D) ce) (compPost (model X.prog X.w) X.A X.xe use Qf (.ref D) s3.heap.objs.size) s4 := by
    refine compLoopS_any (fun n s' => ∃ i H', Inv (X.blk s3 H3 sp ce fa) [] (wipe σ (own.map (·.2))) H' s' ∧ tm i s'.heap ∧ (∀ b ∈ fa, H' b = none) ∧ W i n H') ?_ m0 ⟨0, H3, I4, st4, nfp, w0⟩
    rintro n s5 ⟨i, H5, I5, st5, n5, w5⟩
    rcases turn i n H5 w5 with ⟨stop, qq⟩ | ⟨go, Nx, hNx, step⟩
    · have td := T.done (X.blk s3 H3 sp ce fa) rfl rfl rfl hc i [] s5 _ H5 (fun _ _ => False) I5 (still I5 n5) st5 stop
      refine thnF td fun r s6 ⟨hr, I6⟩ => ?_
      subst hr
      -- back in the def's context
      have I7 : Inv X pins σ H5 s6 := I3.call' (ch := fa) I6.os I6.base I6.hok I6.bare fun b hb => ⟨(f3 b hb).1.2.2.2.1, (f3 b hb).1.2.1, (f3 b hb).1.2.2.2.2.1, (f3 b hb).1.2.2.2.2.2⟩
      have nC : H5 s3.heap.objs.size = none := by
        have z : H5 ce.locals = none := I6.free
        rw [cL] at z
        exact z
      obtain ⟨m, hn, _⟩ := I6.loc
      have hn : s6.heap.Ns ce.locals m := hn
      rw [cL] at hn
      exact hRR D s3.heap.objs.size s6 m H5 I7 qq hn (I3.fpOk (Nat.le_refl _) nC)
    · have ti := T.item (X.blk s3 H3 sp ce fa) rfl rfl rfl hc i [] s5 _ H5 (fun _ _ => False) I5 (still I5 n5) st5 go
      refine thnF ti fun r s6 ⟨u, hr, h6⟩ => ?_
      subst hr
      refine thnF h6 fun _ s7 ⟨x, H7, I7, r7, y7, st7, n7⟩ => ?_
      have I7' := I7.pinned (still I7 n7) (T.obj _ _ st7)
      refine thnF (pg.run _ s7 _ H7 x u _ I7' r7 (step x H7 y7)) fun _ s8 ⟨σ8, H8, I8, hw8, q8⟩ => ?_
      refine thnF (pt.run _ s8 σ8 H8 _ I8 q8) fun b s9 ⟨H9, I9, q9⟩ => ?_
      -- the turn's end
      have close : ∀ {s' : Shared} {H' : Hp}, Inv (X.blk s3 H3 sp ce fa) ([] ++ pinsAt fa s7.heap) σ8 H' s' → Nx H' → ∃ m, m < n ∧ ∃ i H', Inv (X.blk s3 H3 sp ce fa) [] (wipe σ (own.map (·.2))) H' s' ∧ tm i s'.heap ∧ (∀ b ∈ fa, H' b = none) ∧ W i m H' := fun {s' H'} I' nx => by
        obtain ⟨m', hm, w'⟩ := hNx H' nx
        have pinned0 : ∀ b ∈ fa, ∀ o, s7.heap.get? b = some o → s'.heap.get? b = some o ∧ H' b = none := fun b hb o e =>
          let z := I'.pin (b, o) (List.mem_append_right _ (List.mem_append_right _ (mem_pinsAt hb e)))
          ⟨z.1, z.2.1⟩
        have hl : (wipe σ (own.map (·.2))).length = σ8.length := by rw [← hw8, wipe_length]
        refine ⟨m', hm, i + 1, H', (I'.unpinned (pins := [])).weak hl (fun j v e => ?_), T.keep _ _ _ st7 fun b hb o e => (pinned0 b hb o e).1, fun b hb => ?_, w'⟩
        · rw [← hw8] at e
          exact (wipe_some e).1
        · obtain ⟨o, e, _⟩ := T.obj _ _ st7 b hb
          exact (pinned0 b hb o e).2
      cases b with
      | false =>
        simp only [Bool.false_eq_true, if_false] at q9 ⊢
        exact close I9 q9
      | true =>
        simp only [if_true] at q9 ⊢
        refine thnF (pe.run _ s9 σ8 H9 _ I9 q9) fun z s10 ⟨yv, H10, I10, r10, cb, ks0, ey, hD10, hz10, nx⟩ => ?_
        subst ey
        exact addM_ok (X := X.blk s3 H3 sp ce fa) I10 r10 hD10 hz10 fun s11 I11 => close I11 nx
  exact codeAny_compStart_set loop (T.self X.A 0 _ _ _ st4 loop)
/-- as a value -/
theorem pe_sk {el tg src : Expr} {cs : List Expr} {sp : Scope} {own : List (PySem.Str × Nat)} {ps : Pos} {wi : TI} {g : TG} {tt : TT} {te : TE} (hc : X.calm = true) (hN : X.N.Nodup) (hi : PI X tg src wi) (ok : BlkOk X.N X.env.scope sp own)
    (hg : ∀ (s : Shared) (H : Hp) (C : Addr) (cl : List (PySem.Str × Addr)) (fa : List Addr), PG (X.blk s H sp (compEnvC sp cl C X.env) fa) tg g) (ht : ∀ (s : Shared) (H : Hp) (C : Addr) (cl : List (PySem.Str × Addr)) (fa : List Addr), PTs (X.blk s H sp (compEnvC sp cl C X.env) fa) cs tt)
    (he : ∀ (s : Shared) (H : Hp) (C : Addr) (cl : List (PySem.Str × Addr)) (fa : List Addr), PE (X.blk s H sp (compEnvC sp cl C X.env) fa) el te) (hs : ∀ x, foldedSetIterable src X.env x = pure x := by intro _; rfl) :
    PE X (.SetComp el [⟨tg, src, cs, 0⟩] sp ps) (tSk X.w wi g tt te (own.map (·.2))) := by
  refine ⟨fun pins s σ H Q I h => ?_⟩
  rw [eval_SetComp]
  refine sk_core hc hN I hi ok hg ht he hs h fun D C s' m H' I' q hn f => ⟨m, hn, fun h'' sb => ?_⟩
  obtain ⟨f0, f1, f2, f3, f4, f5⟩ := f
  exact ⟨.ref D, H', I'.turned (t' := s'.toks) (fun b o hb e => (sb.2 b hb).trans e) f0 f1 f3 f4 f5, rfl, q⟩
end
theorem skTurn2_out (el t0 i0 t1 i1 : Expr) (cs0 cs1 : List Expr) (sp : Scope) (ps : Pos) (it acc : Value) (env : Env) :
    compTurn (.SetComp el [⟨t0, i0, cs0, 0⟩, ⟨t1, i1, cs1, 0⟩] sp ps) 0 it acc env = (do
      standAt i0.pos
      match ← pyNext it with
      | none => pure (.done .next)
      | some v =>
        letOwnedTupleGo t0 it v
        assign t0 env v
        let mut ok := true
        for c in cs0 do
          if ok then ok ← isTrue c env (eval c env)
        if ok then
          let x ← eval i1 env
          standAt i1.pos
          let x ← foldedSetIterable i1 env x
          let _ ← runOwn (.compStart (.SetComp el [⟨t0, i0, cs0, 0⟩, ⟨t1, i1, cs1, 0⟩] sp ps) 1 (← holding [x] (pyIter x)) acc env) env
        again (.compLoop (.SetComp el [⟨t0, i0, cs0, 0⟩, ⟨t1, i1, cs1, 0⟩] sp ps) 0 it acc env)) := by rfl
theorem skTurn2_in (el t0 i0 t1 i1 : Expr) (cs0 cs1 : List Expr) (sp : Scope) (ps : Pos) (it acc : Value) (env : Env) :
    compTurn (.SetComp el [⟨t0, i0, cs0, 0⟩, ⟨t1, i1, cs1, 0⟩] sp ps) 1 it acc env = (do
      standAt i1.pos
      match ← pyNext it with
      | none => pure (.done .next)
      | some v =>
        letOwnedTupleGo t1 it v
        assign t1 env v
        let mut ok := true
        for c in cs1 do
          if ok then ok ← isTrue c env (eval c env)
        if ok then
          (do let v ← eval el env; standAt el.pos; let _ ← call (.builtin "set.add") [acc, v])
        again (.compLoop (.SetComp el [⟨t0, i0, cs0, 0⟩, ⟨t1, i1, cs1, 0⟩] sp ps) 1 it acc env)) := by rfl

section
variable {prog : Program} {w : World} {A : Around} {R : Result → Shared → Prop} {s : Shared} {el t0 i0 t1 i1 : Expr} {cs0 cs1 : List Expr} {sp : Scope} {ps : Pos} {it acc : Value} {env : Env}
/-- the loop of the first clause -/
theorem skLoop2_out (hs : ∀ x, foldedSetIterable i1 env x = pure x) (I : Nat → Shared → Prop)
    (turn : ∀ n s, I n s → wpAny (model prog w) A (pyNext it) (fun r z₁ => match r with
      | none => R (.ok .next) z₁
      | some v => wpAny (model prog w) A (letOwnedTupleGo t0 it v) (fun _ z₁' => wpAny (model prog w) A (assign t0 env v) (fun _ z₂ =>
          wpAny (model prog w) A (forIn cs0 true fun c r => if r = true then do let ok ← isTrue c env (eval c env); pure (ForInStep.yield ok) else pure (ForInStep.yield r)) (fun ok z₃ =>
            if ok = true then wpAny (model prog w) A (eval i1 env) (fun x z₄ => wpAny (model prog w) A (pyIter x) (fun it1 z₅ =>
              codeAny (model prog w) A (.compStart (.SetComp el [⟨t0, i0, cs0, 0⟩, ⟨t1, i1, cs1, 0⟩] sp ps) 1 it1 acc env) (fun r s' => match r with
                | .ok _ => ∃ m, m < n ∧ I m s'
                | .error _ => False) z₅) (notedBy (model prog w) A env fun e s' => R (.error e) s') z₄) (notedBy (model prog w) A env fun e s' => R (.error e) s') z₃
            else ∃ m, m < n ∧ I m z₃) (notedBy (model prog w) A env fun e s' => R (.error e) s') z₂) (notedBy (model prog w) A env fun e s' => R (.error e) s') z₁') (notedBy (model prog w) A env fun e s' => R (.error e) s') z₁) (notedBy (model prog w) A env fun e s' => R (.error e) s') s)
    (n : Nat) (h : I n s) :
    codeAny (model prog w) A (.compLoop (.SetComp el [⟨t0, i0, cs0, 0⟩, ⟨t1, i1, cs1, 0⟩] sp ps) 0 it acc env) R s := by
  refine codeAny_loop rfl I (fun n s hI => ?_) n h
  show wpAny _ A ((compTurn (.SetComp el [⟨t0, i0, cs0, 0⟩, ⟨t1, i1, cs1, 0⟩] sp ps) 0 it acc env).onRaise (fun x => do noteFrame x env; theTreesLotGoes x)) _ _ s
  refine wpAny_noted ?_
  rw [skTurn2_out]
  refine wpAny_bind (wpAny_standAt (wpAny_bind (wpAny_mono (turn n s hI) (fun r z₁ q₁ => ?_) fun _ _ qq => qq)))
  cases r with
  | none => exact wpAny_pure q₁
  | some v =>
    refine wpAny_bind (wpAny_mono q₁ (fun _ z₁' q₁' => ?_) fun _ _ qq => qq)
    refine wpAny_bind (wpAny_mono q₁' (fun _ z₂ q₂ => wpAny_bind (wpAny_mono q₂ (fun ok z₃ q₃ => ?_) fun _ _ qq => qq)) fun _ _ qq => qq)
    cases ok with
    | false => exact wpAny_pure ⟨rfl, q₃⟩
    | true =>
      refine wpAny_bind (wpAny_mono q₃ (fun x z₄ q₄ => ?_) fun _ _ qq => qq)
      refine wpAny_bind (wpAny_standAt (wpAny_bind (wpAny_of_eq (hs x) (wpAny_bind (wpAny_holding (wpAny_mono q₄ (fun it1 z₅ q₅ => ?_) fun _ _ qq => qq))))))
      refine wpAny_bind (wpAny_runOwn ?_)
      rw [Around.mark_none]
      refine codeAny_mono q₅ fun r s' hr => ?_
      cases r with
      | ok f =>
        first
          | exact wpAny_pure ⟨rfl, hr⟩
          | exact wpAny_bind (wpAny_pure (wpAny_pure ⟨rfl, hr⟩))
      | error e => exact hr.elim
/-- the loop of the second -/
theorem skLoop2_in (I : Nat → Shared → Prop)
    (turn : ∀ n s, I n s → wpAny (model prog w) A (pyNext it) (fun r z₁ => match r with
      | none => R (.ok .next) z₁
      | some v => wpAny (model prog w) A (letOwnedTupleGo t1 it v) (fun _ z₁' => wpAny (model prog w) A (assign t1 env v) (fun _ z₂ =>
          wpAny (model prog w) A (forIn cs1 true fun c r => if r = true then do let ok ← isTrue c env (eval c env); pure (ForInStep.yield ok) else pure (ForInStep.yield r)) (fun ok z₃ =>
            if ok = true then wpAny (model prog w) A (eval el env) (fun x z₄ =>
              wpAny (model prog w) A (call (.builtin "set.add") [acc, x]) (fun _ z₅ => ∃ m, m < n ∧ I m z₅) (notedBy (model prog w) A env fun e s' => R (.error e) s') z₄) (notedBy (model prog w) A env fun e s' => R (.error e) s') z₃
            else ∃ m, m < n ∧ I m z₃) (notedBy (model prog w) A env fun e s' => R (.error e) s') z₂) (notedBy (model prog w) A env fun e s' => R (.error e) s') z₁') (notedBy (model prog w) A env fun e s' => R (.error e) s') z₁) (notedBy (model prog w) A env fun e s' => R (.error e) s') s)
    (n : Nat) (h : I n s) :
    codeAny (model prog w) A (.compLoop (.SetComp el [⟨t0, i0, cs0, 0⟩, ⟨t1, i1, cs1, 0⟩] sp ps) 1 it acc env) R s := by
  refine codeAny_loop rfl I (fun n s hI => ?_) n h
  show wpAny _ A ((compTurn (.SetComp el [⟨t0, i0, cs0, 0⟩, ⟨t1, i1, cs1, 0⟩] sp ps) 1 it acc env).onRaise (fun x => do noteFrame x env; theTreesLotGoes x)) _ _ s
  refine wpAny_noted ?_
  rw [skTurn2_in]
  refine wpAny_bind (wpAny_standAt (wpAny_bind (wpAny_mono (turn n s hI) (fun r z₁ q₁ => ?_) fun _ _ qq => qq)))
  cases r with
  | none => exact wpAny_pure q₁
  | some v =>
    refine wpAny_bind (wpAny_mono q₁ (fun _ z₁' q₁' => ?_) fun _ _ qq => qq)
    refine wpAny_bind (wpAny_mono q₁' (fun _ z₂ q₂ => wpAny_bind (wpAny_mono q₂ (fun ok z₃ q₃ => ?_) fun _ _ qq => qq)) fun _ _ qq => qq)
    cases ok with
    | false => exact wpAny_pure ⟨rfl, q₃⟩
    | true =>
      exact wpAny_bind (wpAny_bind (wpAny_mono q₃ (fun x z₄ q₄ => wpAny_bind (wpAny_standAt (wpAny_bind (wpAny_mono q₄ (fun _ z₅ q₅ => wpAny_pure (wpAny_pure ⟨rfl, q₅⟩)) fun _ _ qq => qq)))) fun _ _ qq => qq))
/-- the second clause's start -/
theorem skStart1_ok (h0 : codeAny (model prog w) A (.compLoop (.SetComp el [⟨t0, i0, cs0, 0⟩, ⟨t1, i1, cs1, 0⟩] sp ps) 1 it acc env) R s)
    (h : wpAny (model prog w) A (pyIter it) (fun it' s' => codeAny (model prog w) A (.compLoop (.SetComp el [⟨t0, i0, cs0, 0⟩, ⟨t1, i1, cs1, 0⟩] sp ps) 1 it' acc env) R s')
      (notedBy (model prog w) A env fun x s' => R (.error x) s') s) :
    codeAny (model prog w) A (.compStart (.SetComp el [⟨t0, i0, cs0, 0⟩, ⟨t1, i1, cs1, 0⟩] sp ps) 1 it acc env) R s := by
  refine codeAny_of_tree ?_
  show wpAny _ _ ((compStart (.SetComp el [⟨t0, i0, cs0, 0⟩, ⟨t1, i1, cs1, 0⟩] sp ps) 1 it acc env).onRaise (fun x => do noteFrame x env; standAt theWindowsPlace)) _ _ s
  refine wpAny_notedAt ?_
  unfold compStart
  show wpAny _ _ (ask >>= _) _ _ s
  refine wpAny_bind (wpAny_askSetting (wpAny_ite ?_))
  split
  · first
      | exact wpAny_bind (wpAny_pure (wpAny_pure (And.intro rfl h0)))
      | exact wpAny_pure (And.intro rfl h0)
  · first
      | exact wpAny_bind (wpAny_rule (wpAny_bind (wpAny_standAt (wpAny_bind (wpAny_mono h (fun it' s' qq => wpAny_pure (And.intro rfl qq)) fun _ _ x => x)))))
      | (refine wpAny_bind (wpAny_rule ?_); show wpAny _ _ (standAt i1.pos >>= _) _ _ s; exact wpAny_bind (wpAny_standAt (wpAny_bind (wpAny_mono h (fun it' s' qq => wpAny_pure (And.intro rfl qq)) fun _ _ x => x))))
end

section
variable {X : Cx}
/-- [el for tg in src if .. for tg1 in src1 if ..]: behind the first clause's store and tests the second source's own loop, from which Nx is reached. vs: the block's names; vs1: those of the second target -/
def tSk2 (w : World) (wi : TI) (g : TG) (tt : TT) (wi1 : TI) (g1 : TG) (tt1 : TT) (te : TE) (vs vs1 : List Nat) : TE := fun σ H Q => wi σ H fun J H1 => ∀ D, H1 D = none → ∃ W : Nat → Nat → Hp → Prop, (∃ m, W 0 m (upd H1 D (SetMO w D []))) ∧ ∀ i m H, W i m H →
  (J.stop i H ∧ Q (.ref D) H) ∨ (J.go i H ∧ ∃ Nx : Hp → Prop, (∀ H', Nx H' → ∃ m', m' < m ∧ W (i + 1) m' H') ∧ ∀ x H', J.yld i H x H' → g x (wipe σ vs) H' fun σ2 H2 => wipe σ2 vs = wipe σ vs ∧ tt σ2 H2 fun b H3 =>
    if b = true then wi1 σ2 H3 fun J1 H4 => ∃ W1 : Nat → Nat → Hp → Prop, (∃ m, W1 0 m H4) ∧ ∀ j k H, W1 j k H →
      (J1.stop j H ∧ Nx H) ∨ (J1.go j H ∧ ∃ Nx1 : Hp → Prop, (∀ H', Nx1 H' → ∃ k', k' < k ∧ W1 (j + 1) k' H') ∧ ∀ x H', J1.yld j H x H' → g1 x (wipe σ2 vs1) H' fun σ3 H5 => wipe σ3 vs1 = wipe σ2 vs1 ∧ tt1 σ3 H5 fun b H6 =>
        if b = true then te σ3 H6 fun y H7 => ∃ (c : Key) (ks : List Key), y = kV c ∧ H7 D = some (SetMO w D ks) ∧ ks.length + 1 < scanBound ∧ Nx1 (upd H7 D (SetMO w D (addK ks c))) else Nx1 H6)
    else Nx H3)
theorem sk2_core {pins : List (Addr × Obj)} {s : Shared} {σ : L2.St} {H : Hp} {Q : VK} {el tg src tg1 src1 : Expr} {cs cs1 : List Expr} {sp : Scope} {own : List (Str × Nat)} {vs1 : List Nat} {ps ps' : Pos} {wi wi1 : TI} {g g1 : TG} {tt tt1 : TT} {te : TE} {use : Option (Value → Sem Unit)} {Qf : Value → Shared → Prop}
    (hc : X.calm = true) (hN : X.N.Nodup) (I : Inv X pins σ H s) (hi : PI X tg src wi) (ok : BlkOk X.N X.env.scope sp own) (hv : ∀ i ∈ vs1, i ∈ own.map (·.2))
    (hg : ∀ (s : Shared) (H : Hp) (C : Addr) (cl : List (Str × Addr)) (fa : List Addr), PG (X.blk s H sp (compEnvC sp cl C X.env) fa) tg g) (ht : ∀ (s : Shared) (H : Hp) (C : Addr) (cl : List (Str × Addr)) (fa : List Addr), PTs (X.blk s H sp (compEnvC sp cl C X.env) fa) cs tt)
    (he : ∀ (s : Shared) (H : Hp) (C : Addr) (cl : List (Str × Addr)) (fa : List Addr), PE (X.blk s H sp (compEnvC sp cl C X.env) fa) el te) (hs : ∀ x, foldedSetIterable src X.env x = pure x)
    (hi1 : ∀ (s : Shared) (H : Hp) (C : Addr) (cl : List (Str × Addr)) (fa : List Addr), PI (X.blk s H sp (compEnvC sp cl C X.env) fa) tg1 src1 wi1)
    (hg1 : ∀ (s : Shared) (H : Hp) (C : Addr) (cl : List (Str × Addr)) (fa : List Addr), PG (X.blk s H sp (compEnvC sp cl C X.env) fa) tg1 g1)
    (ht1 : ∀ (s : Shared) (H : Hp) (C : Addr) (cl : List (Str × Addr)) (fa : List Addr), PTs (X.blk s H sp (compEnvC sp cl C X.env) fa) cs1 tt1)
    (hs1 : ∀ env x, foldedSetIterable src1 env x = pure x)
    (h : tSk2 X.w wi g tt wi1 g1 tt1 te (own.map (·.2)) vs1 σ H Q)
    (hRR : ∀ D C s' m H', Inv X pins σ H' s' → Q (.ref D) H' → s'.heap.Ns C m → FpOk X pins H' C → compPost (model X.prog X.w) X.A X.xe use Qf (.ref D) C (.ok .next) s') :
    wpAny (model X.prog X.w) X.A (comprehension (.SetComp el [⟨tg, src, cs, 0⟩, ⟨tg1, src1, cs1, 0⟩] sp ps) sp X.env ps' (newSet (.type "set")) false (eval src X.env) use) Qf X.xe s := by
  have free0 : ∀ y ∈ sp.names, y.2 = .free → ∃ c, X.env.cells.lookup y.1 = some c := fun y hy e => by
    rcases ok.free y hy e with k | k
    · exact I.ok.has _ (.inl k)
    · exact I.ok.has _ (.inr k)
  refine wpAny_comprehension_free (use := use) rfl hs (closure_ok free0) ok.kind (fun y hy e => by rw [ok.uniq y hy, e])
    (thn (hi.run pins s σ H _ I h) fun xv s1 hx => thn hx fun itv s2 h2 => ?_)
  obtain ⟨it, fa, tm, J, H2, e, I2, T, st2, f2, q⟩ := h2
  subst e
  refine newSet_ok (newEnv_comp ?_)
  generalize hD : s2.heap.objs.size = D
  have hDn : H2 D = none := I2.hok.fresh (Nat.le_of_eq hD)
  obtain ⟨W, ⟨m0, w0⟩, turn⟩ := q D hDn
  -- the new list
  generalize hs3 : ({ s2 with heap := s2.heap.push { cls := .type "set", dict := none, data := .set #[] 0 (.fresh 0 0 (!X.w.params.followText "set-order")) } } : Shared) = s3
  have I3 : Inv X pins σ (upd H2 D (SetMO X.w D [])) s3 := by
    rw [← hs3]
    refine I2.laid (t' := s2.toks) (fun b o e => Heap.get?_push_of_some _ e) (Nat.le_of_eq hD) ?_
    rw [← hD]
    exact setMO_new (setL_fresh X.w)
  have h3 : s3.heap = s2.heap.push { cls := .type "set", dict := none, data := .set #[] 0 (.fresh 0 0 (!X.w.params.followText "set-order")) } := by rw [← hs3]
  have sz : ∀ b ∈ fa, b < s2.heap.objs.size := fun b hb => by
    obtain ⟨o, e, _⟩ := T.obj _ _ st2 b hb
    exact Heap.lt_size e
  have f3 : ∀ b ∈ fa, FpOk X pins (upd H2 D (SetMO X.w D [])) b ∧ b < s3.heap.objs.size := fun b hb => by
    have hb0 := sz b hb
    refine ⟨⟨?_, (f2 b hb).2⟩, by rw [h3, Heap.size_push]; exact Nat.lt_succ_of_lt hb0⟩
    rw [upd_ne (by rw [← hD]; exact Nat.ne_of_lt hb0)]
    exact (f2 b hb).1
  have st3 : tm 0 s3.heap := T.keep _ _ _ st2 fun b _ o e => by rw [h3]; exact Heap.get?_push_of_some _ e
  have I4 := block_start I3 ok hN f3
  have pg := hg s3 (upd H2 D (SetMO X.w D [])) s3.heap.objs.size (cellsFrom (s3.heap.objs.size + 1) sp.names (cloFrom X.env.cells sp.names [])) fa
  have pt := ht s3 (upd H2 D (SetMO X.w D [])) s3.heap.objs.size (cellsFrom (s3.heap.objs.size + 1) sp.names (cloFrom X.env.cells sp.names [])) fa
  have pe := he s3 (upd H2 D (SetMO X.w D [])) s3.heap.objs.size (cellsFrom (s3.heap.objs.size + 1) sp.names (cloFrom X.env.cells sp.names [])) fa
  have pi1 := hi1 s3 (upd H2 D (SetMO X.w D [])) s3.heap.objs.size (cellsFrom (s3.heap.objs.size + 1) sp.names (cloFrom X.env.cells sp.names [])) fa
  have pg1 := hg1 s3 (upd H2 D (SetMO X.w D [])) s3.heap.objs.size (cellsFrom (s3.heap.objs.size + 1) sp.names (cloFrom X.env.cells sp.names [])) fa
  have pt1 := ht1 s3 (upd H2 D (SetMO X.w D [])) s3.heap.objs.size (cellsFrom (s3.heap.objs.size + 1) sp.names (cloFrom X.env.cells sp.names [])) fa
  show codeAny _ _ (.compStart (.SetComp el [⟨tg, src, cs, 0⟩, ⟨tg1, src1, cs1, 0⟩] sp ps) 0 (.ref it) (.ref D) (compEnvC sp (cellsFrom (s3.heap.objs.size + 1) sp.names (cloFrom X.env.cells sp.names [])) s3.heap.objs.size X.env)) (compPost (model X.prog X.w) X.A X.xe use Qf (.ref D) s3.heap.objs.size) { s3 with heap := pushCells (s3.heap.push { cls := .type "dict", data := .dict #[] }) sp.names }
  have nfp : ∀ b ∈ fa, (upd H2 D (SetMO X.w D [])) b = none := fun b hb => (f3 b hb).1.1
  generalize hce : compEnvC sp (cellsFrom (s3.heap.objs.size + 1) sp.names (cloFrom X.env.cells sp.names [])) s3.heap.objs.size X.env = ce at I4 pg pt pe pi1 pg1 pt1 ⊢
  have cL : ce.locals = s3.heap.objs.size := by subst hce; rfl
  generalize hH3 : upd H2 D (SetMO X.w D []) = H3 at I3 I4 pg pt pe pi1 pg1 pt1 w0 nfp f3
  generalize hs4 : ({ s3 with heap := pushCells (s3.heap.push { cls := .type "dict", data := .dict #[] }) sp.names } : Shared) = s4 at I4 ⊢
  have st4 : tm 0 s4.heap := T.keep _ _ _ st3 fun b _ o e => by rw [← hs4]; exact pushCells_keeps _ _ _ _ (Heap.get?_push_of_some _ e)
  have still : ∀ {σ' : L2.St} {H' : Hp} {s' : Shared}, Inv (X.blk s3 H3 sp ce fa) [] σ' H' s' → (∀ b ∈ fa, H' b = none) → ∀ b ∈ fa, FpOk (X.blk s3 H3 sp ce fa) [] H' b := fun {σ' H' s'} I' hn b hb =>
    ⟨hn b hb, (I'.ok.exf b hb).1, I'.ok.exfs b hb, .inl hb, fun x c e => (I'.ok.exf b hb).2 x c e, fun p hp => absurd (show p ∈ ([] : List (Addr × Obj)) ++ [] from hp) (by simp)⟩
  have loop : codeAny (model X.prog X.w) X.A (.compLoop (.SetComp el [⟨tg, src, cs, 0⟩, ⟨tg1, src1, cs1, 0⟩] sp ps) 0 (.ref it) (.ref D) ce) (compPost (model X.prog X.w) X.A X.xe use Qf (.ref D) s3.heap.objs.size) s4 := by
    refine skLoop2_out (hs1 ce) (fun n s' => ∃ i H', Inv (X.blk s3 H3 sp ce fa) [] (wipe σ (own.map (·.2))) H' s' ∧ tm i s'.heap ∧ (∀ b ∈ fa, H' b = none) ∧ W i n H') ?_ m0 ⟨0, H3, I4, st4, nfp, w0⟩
    rintro n s5 ⟨i, H5, I5, st5, n5, w5⟩
    rcases turn i n H5 w5 with ⟨stop, qq⟩ | ⟨go, Nx, hNx, step⟩
    · have td := T.done (X.blk s3 H3 sp ce fa) rfl rfl rfl hc i [] s5 _ H5 (fun _ _ => False) I5 (still I5 n5) st5 stop
      refine thnF td fun r s6 ⟨hr, I6⟩ => ?_
      subst hr
      -- back in the def's context
      have I7 : Inv X pins σ H5 s6 := I3.call' (ch := fa) I6.os I6.base I6.hok I6.bare fun b hb => ⟨(f3 b hb).1.2.2.2.1, (f3 b hb).1.2.1, (f3 b hb).1.2.2.2.2.1, (f3 b hb).1.2.2.2.2.2⟩
      have nC : H5 s3.heap.objs.size = none := by
        have z : H5 ce.locals = none := I6.free
        rw [cL] at z
        exact z
      obtain ⟨m, hn, _⟩ := I6.loc
      have hn : s6.heap.Ns ce.locals m := hn
      rw [cL] at hn
      exact hRR D s3.heap.objs.size s6 m H5 I7 qq hn (I3.fpOk (Nat.le_refl _) nC)
    · have ti := T.item (X.blk s3 H3 sp ce fa) rfl rfl rfl hc i [] s5 _ H5 (fun _ _ => False) I5 (still I5 n5) st5 go
      refine thnF ti fun r s6 ⟨u, hr, h6⟩ => ?_
      subst hr
      refine thnF h6 fun _ s7 ⟨x, H7, I7, r7, y7, st7, n7⟩ => ?_
      have I7' := I7.pinned (still I7 n7) (T.obj _ _ st7)
      refine thnF (pg.run _ s7 _ H7 x u _ I7' r7 (step x H7 y7)) fun _ s8 ⟨σ8, H8, I8, hw8, q8⟩ => ?_
      refine thnF (pt.run _ s8 σ8 H8 _ I8 q8) fun b s9 ⟨H9, I9, q9⟩ => ?_
      -- the turn's end, from any slots that know what the block knew at its start
      have close : ∀ {σ9 : L2.St} {s' : Shared} {H' : Hp}, Inv (X.blk s3 H3 sp ce fa) ([] ++ pinsAt fa s7.heap) σ9 H' s' → (wipe σ (own.map (·.2))).length = σ9.length → (∀ (j : Nat) v, (wipe σ (own.map (·.2)))[j]? = some (some v) → σ9[j]? = some (some v)) → Nx H' →
          ∃ m, m < n ∧ ∃ i H', Inv (X.blk s3 H3 sp ce fa) [] (wipe σ (own.map (·.2))) H' s' ∧ tm i s'.heap ∧ (∀ b ∈ fa, H' b = none) ∧ W i m H' := fun {σ9 s' H'} I' hl hk nx => by
        obtain ⟨m', hm, w'⟩ := hNx H' nx
        have pinned0 : ∀ b ∈ fa, ∀ o, s7.heap.get? b = some o → s'.heap.get? b = some o ∧ H' b = none := fun b hb o e =>
          let z := I'.pin (b, o) (List.mem_append_right _ (List.mem_append_right _ (mem_pinsAt hb e)))
          ⟨z.1, z.2.1⟩
        refine ⟨m', hm, i + 1, H', (I'.unpinned (pins := [])).weak hl hk, T.keep _ _ _ st7 fun b hb o e => (pinned0 b hb o e).1, fun b hb => ?_, w'⟩
        obtain ⟨o, e, _⟩ := T.obj _ _ st7 b hb
        exact (pinned0 b hb o e).2
      have hl8 : (wipe σ (own.map (·.2))).length = σ8.length := by rw [← hw8, wipe_length]
      have hk8 : ∀ (j : Nat) v, (wipe σ (own.map (·.2)))[j]? = some (some v) → σ8[j]? = some (some v) := fun j v e => by
        rw [← hw8] at e
        exact (wipe_some e).1
      have hk9 : ∀ (j : Nat) v, (wipe σ (own.map (·.2)))[j]? = some (some v) → (wipe σ8 vs1)[j]? = some (some v) := fun j v e => by
        rw [← hw8] at e
        obtain ⟨e1, e2⟩ := wipe_some e
        rw [wipe_out fun z => e2 (hv j z)]
        exact e1
      cases b with
      | false =>
        simp only [Bool.false_eq_true, if_false] at q9 ⊢
        exact close I9 hl8 hk8 q9
      | true =>
        simp only [if_true] at q9 ⊢
        refine thnF (pi1.run _ s9 σ8 H9 _ I9 q9) fun xv s10 hx => thnF hx fun itv s11 h11 => ?_
        obtain ⟨it1, fa1, tm1, J1, H11, e1, I11, T1, st11, f11, W1, ⟨m1, w1⟩, turn1⟩ := h11
        subst e1
        -- the inner loop
        have still1 : ∀ {H' : Hp}, (∀ b ∈ fa1, H' b = none) → ∀ b ∈ fa1, FpOk (X.blk s3 H3 sp ce fa) ([] ++ pinsAt fa s7.heap) H' b := fun hn b hb => ⟨hn b hb, (f11 b hb).2⟩
        have loop1 : codeAny (model X.prog X.w) X.A (.compLoop (.SetComp el [⟨tg, src, cs, 0⟩, ⟨tg1, src1, cs1, 0⟩] sp ps) 1 (.ref it1) (.ref D) ce)
            (fun r s' => match r with
              | .ok _ => ∃ m, m < n ∧ ∃ i H', Inv (X.blk s3 H3 sp ce fa) [] (wipe σ (own.map (·.2))) H' s' ∧ tm i s'.heap ∧ (∀ b ∈ fa, H' b = none) ∧ W i m H'
              | .error _ => False) s11 := by
          refine skLoop2_in (fun k s' => ∃ j H', Inv (X.blk s3 H3 sp ce fa) ([] ++ pinsAt fa s7.heap) (wipe σ8 vs1) H' s' ∧ tm1 j s'.heap ∧ (∀ b ∈ fa1, H' b = none) ∧ W1 j k H') ?_ m1 ⟨0, H11, I11.weak (wipe_length _ _) (fun j v e => (wipe_some e).1), st11, fun b hb => (f11 b hb).1, w1⟩
          rintro k s12 ⟨j, H12, I12, st12, n12, w12⟩
          rcases turn1 j k H12 w12 with ⟨stop1, nx1⟩ | ⟨go1, Nx1, hNx1, step1⟩
          · refine thnF (T1.done (X.blk s3 H3 sp ce fa) rfl rfl rfl hc j _ s12 (wipe σ8 vs1) H12 (fun _ _ => False) I12 (still1 n12) st12 stop1) fun r s13 ⟨hr, I13⟩ => ?_
            subst hr
            exact close I13 (hl8.trans (wipe_length σ8 vs1).symm) hk9 nx1
          · refine thnF (T1.item (X.blk s3 H3 sp ce fa) rfl rfl rfl hc j _ s12 (wipe σ8 vs1) H12 (fun _ _ => False) I12 (still1 n12) st12 go1) fun r s13 ⟨u1, hr, h13⟩ => ?_
            subst hr
            refine thnF h13 fun _ s14 ⟨x1, H14, I14, r14, y14, st14, n14⟩ => ?_
            have I14' := I14.pinned (still1 n14) (T1.obj _ _ st14)
            refine thnF (pg1.run _ s14 (wipe σ8 vs1) H14 x1 u1 _ I14' r14 (step1 x1 H14 y14)) fun _ s15 ⟨σ15, H15, I15, hw15, q15⟩ => ?_
            refine thnF (pt1.run _ s15 σ15 H15 _ I15 q15) fun b1 s16 ⟨H16, I16, q16⟩ => ?_
            have close1 : ∀ {s' : Shared} {H' : Hp}, Inv (X.blk s3 H3 sp ce fa) (([] ++ pinsAt fa s7.heap) ++ pinsAt fa1 s14.heap) σ15 H' s' → Nx1 H' → ∃ m, m < k ∧ ∃ j H', Inv (X.blk s3 H3 sp ce fa) ([] ++ pinsAt fa s7.heap) (wipe σ8 vs1) H' s' ∧ tm1 j s'.heap ∧ (∀ b ∈ fa1, H' b = none) ∧ W1 j m H' := fun {s' H'} I' nx => by
              obtain ⟨m', hm, w'⟩ := hNx1 H' nx
              have pinned0 : ∀ b ∈ fa1, ∀ o, s14.heap.get? b = some o → s'.heap.get? b = some o ∧ H' b = none := fun b hb o e =>
                let z := I'.pin (b, o) (List.mem_append_right _ (List.mem_append_right _ (mem_pinsAt hb e)))
                ⟨z.1, z.2.1⟩
              refine ⟨m', hm, j + 1, H', I'.unpinned.weak (by rw [← hw15, wipe_length]) (fun j v e => by rw [← hw15] at e; exact (wipe_some e).1), T1.keep _ _ _ st14 fun b hb o e => (pinned0 b hb o e).1, fun b hb => ?_, w'⟩
              obtain ⟨o, e, _⟩ := T1.obj _ _ st14 b hb
              exact (pinned0 b hb o e).2
            cases b1 with
            | false =>
              simp only [Bool.false_eq_true, if_false] at q16 ⊢
              exact close1 I16 q16
            | true =>
              simp only [if_true] at q16 ⊢
              refine thnF (pe.run _ s16 σ15 H16 _ I16 q16) fun z s17 ⟨yv, H17, I17, r17, cb, ks0, ey, hD17, hz17, nx⟩ => ?_
              subst ey
              exact addM_ok (X := X.blk s3 H3 sp ce fa) I17 r17 hD17 hz17 fun s18 I18 => close1 I18 nx
        exact skStart1_ok loop1 (T1.self X.A 0 _ _ _ st11 loop1)
  exact codeAny_compStart_set loop (T.self X.A 0 _ _ _ st4 loop)
/-- as a value -/
theorem pe_sk2 {el tg src tg1 src1 : Expr} {cs cs1 : List Expr} {sp : Scope} {own : List (Str × Nat)} {vs1 : List Nat} {ps : Pos} {wi wi1 : TI} {g g1 : TG} {tt tt1 : TT} {te : TE} (hc : X.calm = true) (hN : X.N.Nodup) (hi : PI X tg src wi) (ok : BlkOk X.N X.env.scope sp own) (hv : ∀ i ∈ vs1, i ∈ own.map (·.2))
    (hg : ∀ (s : Shared) (H : Hp) (C : Addr) (cl : List (Str × Addr)) (fa : List Addr), PG (X.blk s H sp (compEnvC sp cl C X.env) fa) tg g) (ht : ∀ (s : Shared) (H : Hp) (C : Addr) (cl : List (Str × Addr)) (fa : List Addr), PTs (X.blk s H sp (compEnvC sp cl C X.env) fa) cs tt)
    (hi1 : ∀ (s : Shared) (H : Hp) (C : Addr) (cl : List (Str × Addr)) (fa : List Addr), PI (X.blk s H sp (compEnvC sp cl C X.env) fa) tg1 src1 wi1)
    (hg1 : ∀ (s : Shared) (H : Hp) (C : Addr) (cl : List (Str × Addr)) (fa : List Addr), PG (X.blk s H sp (compEnvC sp cl C X.env) fa) tg1 g1) (ht1 : ∀ (s : Shared) (H : Hp) (C : Addr) (cl : List (Str × Addr)) (fa : List Addr), PTs (X.blk s H sp (compEnvC sp cl C X.env) fa) cs1 tt1)
    (he : ∀ (s : Shared) (H : Hp) (C : Addr) (cl : List (Str × Addr)) (fa : List Addr), PE (X.blk s H sp (compEnvC sp cl C X.env) fa) el te) (hs : ∀ x, foldedSetIterable src X.env x = pure x := by intro _; rfl) (hs1 : ∀ env x, foldedSetIterable src1 env x = pure x := by intro _ _; rfl) :
    PE X (.SetComp el [⟨tg, src, cs, 0⟩, ⟨tg1, src1, cs1, 0⟩] sp ps) (tSk2 X.w wi g tt wi1 g1 tt1 te (own.map (·.2)) vs1) := by
  refine ⟨fun pins s σ H Q I h => ?_⟩
  rw [eval_SetComp]
  refine sk2_core hc hN I hi ok hv hg ht he hs hi1 hg1 ht1 hs1 h fun D C s' m H' I' q hn f => ⟨m, hn, fun h'' sb => ?_⟩
  obtain ⟨f0, f1, f2, f3, f4, f5⟩ := f
  exact ⟨.ref D, H', I'.turned (t' := s'.toks) (fun b o hb e => (sb.2 b hb).trans e) f0 f1 f3 f4 f5, rfl, q⟩
end
end Lk

/-! LkSort: what a built-in gathers from a list, a tuple, a dict, a set; sorted(..). -/
namespace Lk
open PySem PySem.Spec L2

mutual
theorem Rep.dpp {K : KF} {M : Mh} {H : Hp} : ∀ {d : Dat} {v : V}, Rep K M H d v → (toPy d).plain = true → Dp K.k H v (toPy d)
  | _, _, .non, _ => .non
  | _, _, .bl b, _ => .bl b
  | _, _, .int i, _ => .int i
  | _, _, .str x, _ => .str x
  | _, _, .ref a, h => by simp [toPy, PyData.plain] at h
  | _, _, .ty n, h => by simp [toPy, PyData.plain] at h
  | _, _, .tup f r, h => by
    rw [toPy] at h ⊢
    exact .tup f.sq (Reps.dpp r (by simpa [PyData.plain] using h))
  | _, _, .fl f r, h => by
    rw [toPy] at h ⊢
    exact .lst f.sq (Reps.dpp r (by simpa [PyData.plain] using h))
  | _, _, .rd f r, h => by
    rw [toPy] at h ⊢
    exact .lst f.sq (Reps.dpp r (by simpa [PyData.plain] using h))
  | _, _, .stp f r, h => by
    rw [toPy] at h ⊢
    exact .tup f.t.sq (Reps.dpp r (by simpa [PyData.plain] using h))
theorem Reps.dpp {K : KF} {M : Mh} {H : Hp} : ∀ {ds : List Dat} {vs : List V}, Reps K M H ds vs → PyData.plainAll (toPys ds) = true → DpAll K.k H vs (toPys ds)
  | _, _, .nil, _ => by rw [toPys]; exact .nil
  | d :: ds, _, .cons h t, e => by
    rw [toPys] at e ⊢
    have e' : (toPy d).plain = true ∧ PyData.plainAll (toPys ds) = true := by simpa [PyData.plainAll] using e
    exact .cons (Rep.dpp h e'.1) (Reps.dpp t e'.2)
end
/-- the items that a built-in gathers from d -/
def colD (w : World) (M : Mh) (d : Dat) (R : List Dat → Prop) : Prop := match d with
  | .tup xs => R xs
  | .fl xs => R xs
  | .rd xs => R xs
  | .ref a => match M a with
    | some (.lst xs) => R xs
    | some (.dk kvs) => R (kvs.map fun p => kD p.1)
    | some (.set w' ks) => w' = w ∧ ∀ ks' : List Key, ks'.Perm ks → R (ks'.map kD)
    | _ => False
  | _ => False
section
open PyProof.Rows in
theorem collect_tup {prog : Program} {w : World} {A : Around} {E : Value → Shared → Prop} {s : Shared} {l : Addr} {its : List Value} {Q : List Value → Shared → Prop} (hl : s.heap.IsTuple l its.toArray)
    (h : Q its { s with heap := (s.heap.push (seqObj "list" #[] 0)).update s.heap.objs.size (Obj.mapSeq (· ++ its.toArray)) }) (hsz : its.length ≤ sizeLine) :
    wpAny (model prog w) A (collect (.ref l)) Q E s := by
  obtain ⟨o, ho, hc, n, hd⟩ := id hl
  unfold collect
  refine wpAny_bind (wpAny_runValue (codeAny_builtin entry_proto_collect' ?_))
  show wpAny _ _ (newList [] >>= fun x => again (.builtin "list.__iadd__" ⟨[x, .ref l], []⟩)) _ _ s
  refine wpAny_bind (wpAny_newList (wpAny_pure ⟨Code.quiet_builtin _ (by decide +kernel), codeAny_builtin entry_list_iadd' ?_⟩))
  show wpAny _ _ (Builtin.List.listExtendWith (.ref s.heap.objs.size) (.ref l) (.ref s.heap.objs.size)) _ _ { s with heap := s.heap.push (seqObj "list" #[] 0) }
  unfold Builtin.List.listExtendWith
  have hold : (s.heap.push (seqObj "list" #[] 0)).get? l = some o := Heap.get?_push_of_some _ ho
  refine wpAny_bind (wpAny_typeOf (T := "tuple") ⟨o, hold, hc⟩ ?_)
  have ht : (Value.type "tuple" == Value.type "tuple") = true := by rfl
  rw [if_pos (by rw [ht]; simp)]
  refine wpAny_bind (listItems_at hold hd (wpAny_bind (listItems_at (xs := #[]) (n := 0) (Heap.get?_push_size _ rfl) rfl ?_)))
  rw [if_neg (by simp)]
  refine wpAny_bind (listUpdate_at (xs := #[]) (n := 0) (Heap.get?_push_size _ rfl) rfl ?_ (Nat.zero_le _) (by show (#[] ++ its.toArray).size ≤ sizeLine + 1; simp only [Array.size_append, List.size_toArray, List.length_nil]; omega))
  refine wpAny_pure ?_
  show wpAny (model prog w) A (load s.heap.objs.size >>= fun o => match o.data with
      | .seq xs _ => pure xs.toList
      | _ => unsupported "internal:collect") Q E { s with heap := (s.heap.push (seqObj "list" #[] 0)).update s.heap.objs.size (Obj.mapSeq (· ++ its.toArray)) }
  refine wpAny_bind (wpAny_load (get?_update_seq (Heap.get?_push_size _ rfl) _) ?_)
  show wpAny _ _ (pure ((#[] : Array Value) ++ its.toArray).toList) Q E _
  have he : ((#[] : Array Value) ++ its.toArray).toList = its := by simp
  rw [he]
  exact wpAny_pure h
theorem pushed_keeps {h : Heap} {its : List Value} {b : Addr} {o : Obj} (e : h.get? b = some o) : ((h.push (PyProof.Rows.seqObj "list" #[] 0)).update h.objs.size (Obj.mapSeq (· ++ its.toArray))).get? b = some o := by
  rw [Heap.get?_update_ne _ _ _ _ (Nat.ne_of_lt (Heap.lt_size e))]
  exact Heap.get?_push_of_some _ e
theorem repsK {K : KF} {M : Mh} {H : Hp} : ∀ ks : List Key, Reps K M H (ks.map kD) (ks.map kV)
  | [] => .nil
  | .inl _ :: ks => .cons (.int _) (repsK ks)
  | .inr _ :: ks => .cons (.str _) (repsK ks)
variable {X : Cx} {pins : List (Addr × Obj)} {σ : L2.St} {H : Hp} {s : Shared}
theorem col_ok {A : Around} {E : Value → Shared → Prop} {Fo : Addr → Prop} {M : Mh} {d : Dat} {v : V} {u : Value} {R : List Dat → Prop} {Q : List Value → Shared → Prop} (hh : A.handled = none) (I : Inv X pins σ H s) (m : RelM ⟨X.K, Fo⟩ M H) (r : Rep ⟨X.K, Fo⟩ M H d v) (ru : RelV v u) (h : colD X.w M d R)
    (k : ∀ ds vs us s', R ds → Reps ⟨X.K, Fo⟩ M H ds vs → Vals vs us → Inv X pins σ H s' → us.length ≤ sizeLine → Q us s') : wpAny (model X.prog X.w) A (collect u) Q E s := by
  have lst : ∀ {a : Addr} {vs : List V} {ds : List Dat}, SqL X.K H a vs → Reps ⟨X.K, Fo⟩ M H ds vs → R ds → wpAny (model X.prog X.w) A (collect (.ref a)) Q E s := fun {a vs ds} hs rr hr => by
    obtain ⟨its, rv, pl, hz⟩ := I.list hs
    rw [rv.length] at hz
    exact PyProof.Rows.collect_list pl.isList (k ds vs its _ hr rr rv (I.kept (t' := s.toks) fun b o e => pushed_keeps e) hz) hz
  have tpl : ∀ {a : Addr} {vs : List V} {ds : List Dat}, SqT X.K H a vs → Reps ⟨X.K, Fo⟩ M H ds vs → R ds → wpAny (model X.prog X.w) A (collect (.ref a)) Q E s := fun {a vs ds} hs rr hr => by
    obtain ⟨its, rv, pl, hz⟩ := I.tuple hs
    rw [rv.length] at hz
    exact collect_tup pl (k ds vs its _ hr rr rv (I.kept (t' := s.toks) fun b o e => pushed_keeps e) hz) hz
  cases r with
  | tup f rr => cases ru; exact tpl f.sq rr h
  | fl f rr => cases ru; exact lst f.sq rr h
  | rd f rr => cases ru; exact lst f.sq rr h
  | ref a =>
    cases ru
    simp only [colD] at h
    split at h
    · rename_i xs e
      obtain ⟨vs, h1, h2⟩ := m.ob a _ e
      exact lst (.of h1) h2 h
    · rename_i kvs e
      obtain ⟨ws, h1, h2⟩ := m.ob a _ e
      obtain ⟨z, lo, vs, rel, dd⟩ := dk_rd I.hok (.inl h1 : Rd H a (.dK ws))
      obtain ⟨ep, hat⟩ := dd.dictAt
      have hl : vs.length ≤ sizeLine := by rw [← rel.length]; exact z
      refine PySem.W.kdu_collect (A := A) (PySem.W.kdl_dict (knd := mixKind X.prog X.w) (kvs := vs) (ep := ep) lo) hh hat hl fun h' tk acc hk hacc => ?_
      have hal : acc.toList.length = vs.length := by rw [Array.length_toList, hacc.1]
      have hV : Vals (vs.map fun p => kV p.1) acc.toList := keys_at hal fun j v e => by
        obtain ⟨k0, x, e1, e2⟩ := hacc.2 j v (by rw [← Array.getElem?_toList]; exact e)
        exact ⟨k0, x, e1, e2⟩
      have hk1 : (vs.map fun p => kV p.1) = (kvs.map (·.1)).map kV := by
        have e1 : ws.map (·.1) = vs.map (·.1) := rel.keys
        have e2 : ∀ {as : List (Key × Dat)} {bs : List (Key × V)}, RepKV ⟨X.K, Fo⟩ M H as bs → as.map (·.1) = bs.map (·.1) := fun {as bs} rr => by
          induction rr with
          | nil => rfl
          | cons h t ih => rw [List.map_cons, List.map_cons, ih, h.1]
        rw [e2 h2, e1, List.map_map]
        rfl
      rw [hk1] at hV
      have hds : (kvs.map fun p => kD p.1) = (kvs.map (·.1)).map kD := by rw [List.map_map]; rfl
      rw [hds] at h
      exact k _ _ _ _ h (repsK _) hV (I.kept hk) (by rw [hal]; exact hl)
    · rename_i w' ks e
      obtain ⟨ew, h⟩ := h
      subst ew
      have h1 : H a = some (SetMO X.w a ks) := m.ob a _ e
      refine setL_collect hh (setMO_get I h1) fun s' out ks' k1 k2 k3 k4 pm hv => ?_
      refine k _ _ _ _ (h ks' pm) (repsK _) hv ?_ ?_
      · exact I.call' (ch := []) k4 (Un.kept k1) (I.hok.kept k1) (by rw [k3]; exact I.bare) (fun _ z => nomatch z)
      · rw [← hv.length, List.length_map, pm.length_eq]
        exact fits_of_scanBound (setMO_get I h1).len
    · exact h.elim
  | _ => exact h.elim

/-! ### sorted -/
def sortD (ds : List Dat) : List Dat := ds.mergeSort (PySem.W.dataLe false toPy)
structure SortOk (ds : List Dat) : Prop where
  pl : ∀ d ∈ ds, (toPy d).plain = true
  al : PySem.W.AllAlike (ds.map toPy)
  kn : PySem.W.Sortable (ds.map toPy)
  dp : ∀ d ∈ ds, (toPy d).depth ≤ 32
theorem fin_sorted {prog : Program} {w : World} {A : Around} {E : Value → Shared → Prop} {s : Shared} {β : Type} {us : List Value} {bs : List β} {enc : β → PyData} {R : Value → β → Prop} {γ : Type} {c : Value → Sem γ} {Q : γ → Shared → Prop}
    (e : PySem.W.EachIs R us bs) (er : PySem.W.EachIs (fun v b => ∃ as, Reads s.heap v (enc b) as) us bs) (hal : PySem.W.AllAlike (bs.map enc)) (hk : PySem.W.Sortable (bs.map enc)) (hL : bs.length ≤ sizeLine) (hu : ∀ b, b ∈ bs → A.units + 1 + (enc b).depth < cLine)
    (h : ∀ h' (out : List Value) n, (∀ b o, s.heap.get? b = some o → h'.get? b = some o) → h'.get? s.heap.objs.size = some (PyProof.Rows.seqObj "list" out.toArray n) → out.length = bs.length → PySem.W.EachIs R out (bs.mergeSort (PySem.W.dataLe false enc)) → wpAny (model prog w) A (c (.ref s.heap.objs.size)) Q E { s with heap := h' }) :
    wpAny (model prog w) A (newList us >>= fun l => holding [l] (call (.builtin "list.sort") [l]) >>= fun _ => c l) Q E s := by
  have hus : us.length ≤ sizeLine := by rw [e.length]; exact hL
  refine wpAny_bind (wpAny_newList ?_ hus)
  have ho : (s.heap.push (PyProof.Rows.seqObj "list" us.toArray 0)).get? s.heap.objs.size = some (PyProof.Rows.seqObj "list" us.toArray 0) := Heap.get?_push_size _ rfl
  show wpAny _ _ _ _ _ { s with heap := s.heap.push (PyProof.Rows.seqObj "list" us.toArray 0) }
  have sz : ∀ {b o}, s.heap.get? b = some o → (s.heap.push (PyProof.Rows.seqObj "list" us.toArray 0)).get? b = some o := fun q => Heap.get?_push_of_some _ q
  refine wpAny_bind (wpAny_holding (PySem.W.list_sort_data (s := { s with heap := s.heap.push (PyProof.Rows.seqObj "list" us.toArray 0) }) ho e ?_ hal hk hL hu fun out hl he => ?_))
  · refine er.mono fun v b ⟨as, r⟩ => ⟨as, PyProof.Rows.Reads.keeps (fun _ _ q => sz q) r, fun hin => ?_⟩
    obtain ⟨o, q⟩ := PyProof.On.reads_mem_get r _ hin
    exact Nat.lt_irrefl _ (Heap.lt_size q)
  · obtain ⟨ep, he'⟩ := PyProof.Rows.sortedHeap_at (vs := us) (out := out.toArray) ho
    refine h _ out ep (fun b o q => ?_) he' hl he
    have hb : b < s.heap.objs.size := Heap.lt_size q
    show (PyProof.Rows.sortedHeap (s.heap.push (PyProof.Rows.seqObj "list" us.toArray 0)) s.heap.objs.size us out.toArray).get? b = some o
    rw [PyProof.Rows.sortedHeap_old (Nat.ne_of_lt hb) (by rw [PyProof.Rows.size_push']; exact Nat.lt_succ_of_lt hb)]
    exact sz q
theorem each_of {K : KF} {M : Mh} : ∀ {ds : List Dat} {vs : List V} {us : List Value}, Reps K M H ds vs → Vals vs us → PySem.W.EachIs (fun u d => ∃ v, RelV v u ∧ Rep K M H d v) us ds
  | _, _, _, .nil, .nil => .nil
  | _, _, _, .cons r rr, .cons q qq => .cons ⟨_, q, r⟩ (each_of rr qq)
theorem of_each {K : KF} {M : Mh} : ∀ {ds : List Dat} {us : List Value}, PySem.W.EachIs (fun u d => ∃ v, RelV v u ∧ Rep K M H d v) us ds → ∃ vs, Reps K M H ds vs ∧ Vals vs us
  | _, _, .nil => ⟨[], .nil, .nil⟩
  | _, _, .cons ⟨v, q, r⟩ t => by
    obtain ⟨vs, h1, h2⟩ := of_each t
    exact ⟨v :: vs, .cons r h1, .cons q h2⟩
theorem each_reads {Fo : Addr → Prop} {M : Mh} (I : Inv X pins σ H s) : ∀ {ds : List Dat} {us : List Value}, (∀ d ∈ ds, (toPy d).plain = true) → PySem.W.EachIs (fun u d => ∃ v, RelV v u ∧ Rep ⟨X.K, Fo⟩ M H d v) us ds → PySem.W.EachIs (fun u d => ∃ as, Reads s.heap u (toPy d) as) us ds
  | _, _, _, .nil => .nil
  | _, _, hp, .cons ⟨v, q, r⟩ t => .cons (Dp.reads I _ _ _ (r.dpp (hp _ List.mem_cons_self)) q) (each_reads I (fun d hd => hp d (List.mem_cons_of_mem _ hd)) t)
def fSorted (w : World) (x : Dat) (M : Mh) (Q : MO → Mh → Prop) : Prop := colD w M x fun ds => SortOk ds ∧ Q (.lst (sortD ds)) M
/-- one D-level law of a built-in, told at the values -/
def rD1N (X : Cx) (f : Dat → Mh → (MO → Mh → Prop) → Prop) : List V → Hp → VK → Prop := fun vs H Qt => ∃ Fo M d v Q, vs = [v] ∧ RelM ⟨X.K, Fo⟩ M H ∧ Rep ⟨X.K, Fo⟩ M H d v ∧ f d M Q ∧ FinN ⟨X.K, Fo⟩ M H Q Qt
theorem ok_rD1N {X : Cx} {f : Dat → Mh → (MO → Mh → Prop) → Prop} : OkLN X.K (rD1N X f) (f1N f) := ok1N fun Fo x v M H Q Qt m r h k => ⟨Fo, M, x, v, Q, rfl, m, r, h, k⟩
theorem c_sorted (hc : X.calm = true) (hu : X.A.units + 66 < cLine) : CallR X (.builtin "sorted") (rD1N X (fSorted X.w)) := by
  intro pins s σ H vs us Q I r ⟨Fo, M, d, v, Qd, e, m, rd, h, k⟩
  subst e
  obtain ⟨u, eu, ru⟩ := vals1 r
  subst eu
  refine Calls.call_function_entry PyProof.Rows.kind_sorted PyProof.Rows.plain_sorted PyProof.Rows.entry_sorted (PyProof.Rows.args_sorted1 _) ?_
  unfold Builtin.«sorted»
  refine wpAny_bind (m := checkCount "sorted" 1 1 _) (wpAny_pure ?_)
  refine wpAny_bind (col_ok (A := X.A.in1) (I.ok.hd hc) I m rd ru h fun ds vs us s' ⟨ok, q⟩ rr rv I' hz => ?_)
  have el := each_of rr rv
  refine fin_sorted el (each_reads I' ok.pl el) ok.al ok.kn (by rw [← el.length]; exact hz) (fun b hb => ?_) fun h' out n hk hat hl ho => ?_
  · have z := ok.dp b hb
    have z2 : X.A.in1.units = X.A.units + 1 := rfl
    omega
  · obtain ⟨ws, r1, v1⟩ := of_each ho
    have hsz : ws.length ≤ sizeLine := by rw [v1.length, hl, ← el.length]; exact hz
    have hp : H s'.heap.objs.size = none := I'.hok.fresh (Nat.le_refl _)
    exact wpAny_pure ⟨_, rfl, .ref s'.heap.objs.size, upd H s'.heap.objs.size (.lst ws), I'.laid (t' := s'.toks) hk (Nat.le_refl _) (show ObjOk X.prog X.w _ _ _ (.lst ws) from ⟨hsz, out, n, v1, hat⟩), rfl, k.lst m r1 hp q⟩
end
section
variable {X : Cx} {e : Expr} {es : List Expr} {ws : WA} {pos p : Pos} {n : Nat}
theorem dn_sorted {w : World} (hc : X.calm = true) (hu : X.A.units + 66 < cLine) (hg : Gl X "sorted") (hm : X.mg "sorted" = none) (ha : DA X (e :: es) n ws) (he : starEach (e :: es) X.env = (false, eval e X.env) :: starEach es X.env := by rfl) (hpl : (backTo pos (starEach es X.env)).any (·.1) = false := by rfl) (hw : X.w = w := by rfl) : DN X (.Call (.Name "sorted" p) (e :: es) [] pos) (wBltN (f1N (fSorted w)) ws) := hw ▸ dn_blt (c_sorted hc hu) ok_rD1N hg hm (by decide +kernel) ha (by decide) (by decide) he hpl
end
end Lk

/-! LkSetD: {elt for ..} over data, one source or two. -/
namespace Lk
open PySem PySem.Spec L2

def wSetL (g : WG) (wt : WT) (we : WE) (env : List (Option Dat)) : List Dat → List Key → Mh → (List Key → Mh → Prop) → Prop
  | [], ks, M, Q => Q ks M
  | d :: ds, ks, M, Q => g d ⟨env, M⟩ fun S1 => wt S1 fun b M1 => if b = true then we ⟨S1.env, M1⟩ fun y M2 => ∃ k, keyOf y = some k ∧ ks.length + 1 < scanBound ∧ wSetL g wt we env ds (addK ks k) M2 Q else wSetL g wt we env ds ks M1 Q
def wSetC (w : World) (vs : List Nat) (wi : WI) (g : WG) (wt : WT) (we : WE) : WN := fun S Q => wi S fun ds M => wSetL g wt we (wipeD S.env vs) ds [] M fun ks M' => Q (.set w ks) M'
def wSet2 (g : WG) (wt : WT) (wi1 : WI) (g1 : WG) (wt1 : WT) (we : WE) (vs1 : List Nat) (env : List (Option Dat)) : List Dat → List Key → Mh → (List Key → Mh → Prop) → Prop
  | [], ks, M, Q => Q ks M
  | d :: ds, ks, M, Q => g d ⟨env, M⟩ fun S1 => wt S1 fun b M1 => if b = true then wi1 ⟨S1.env, M1⟩ fun es M2 => wSetL g1 wt1 we (wipeD S1.env vs1) es ks M2 fun ks' M3 => wSet2 g wt wi1 g1 wt1 we vs1 env ds ks' M3 Q else wSet2 g wt wi1 g1 wt1 we vs1 env ds ks M1 Q
def wSetC2 (w : World) (vs vs1 : List Nat) (wi : WI) (g : WG) (wt : WT) (wi1 : WI) (g1 : WG) (wt1 : WT) (we : WE) : WN := fun S Q => wi S fun ds M => wSet2 g wt wi1 g1 wt1 we vs1 (wipeD S.env vs) ds [] M fun ks M' => Q (.set w ks) M'
theorem drop_of {α : Type} {ds : List α} {i : Nat} {d : α} (hlt : i < ds.length) (hd : ds[i]? = some d) : ds.drop i = d :: ds.drop (i + 1) := by
  rw [List.drop_eq_getElem_cons hlt]
  rw [List.getElem?_eq_getElem hlt] at hd
  cases hd
  rfl
theorem go_apart {Fo : Addr → Prop} {D : Addr} {M1 M : Mh} {H1 H : Hp} (g : Go M1 H1 M H) (hD : H1 D = none) : GoF Fo (foAdd Fo D) M1 H1 M H := fun a u z1 z2 z3 => ⟨(g a u z1 z3).1, fun z => z.elim z2 (ne_of_none z3 hD), (g a u z1 z3).2⟩
/-- the object at D is changed: the rest stays -/
theorem go_chg {D : Addr} {o : HO} {M1 M : Mh} {H1 H : Hp} (g : Go M1 H1 M H) (hD : H1 D = none) : Go M1 H1 M (upd H D o) := fun a u z1 z2 => by
  have z3 := g a u z1 z2
  exact ⟨z3.1, by rw [upd_ne (ne_of_none z2 hD)]; exact z3.2⟩
theorem foRel {k : PySem.W.Frag} {F F' : Addr → Prop} {S : DS} {σ : L2.St} {M M' : Mh} {H H' : Hp} (r : RelS ⟨k, F⟩ ⟨S.env, M⟩ σ H) (g : GoF F F' M H M' H') (m : RelM ⟨k, F'⟩ M' H') : RelS ⟨k, F'⟩ ⟨S.env, M'⟩ σ H' :=
  ⟨r.len, fun j e he => by
    obtain ⟨v, h1, h2⟩ := r.env j e he
    exact ⟨v, h1, h2.move g⟩, m⟩
section
variable {X : Cx} {tg iter elt : Expr} {ifs : List Expr} {scope : Scope} {own : List (Str × Nat)} {pos : Pos} {wi : WI} {g : WG} {wt : WT} {we : WE}
theorem sk_read {w : World} {K : PySem.W.Frag} {vs : List Nat} {σ : L2.St} {H : Hp} {Qt : VK} (h : LN K (wSetC w vs wi g wt we) σ H Qt) : tSk w (LI K wi) (LGc K vs g) (LT K wt) (LE K we) vs σ H Qt := by
  obtain ⟨Fo, S, Q, rs, h, kk⟩ := h
  refine ⟨Fo, S, _, rs, h, fun J H1 ds M1 g1 m1 it q D hD => ?_⟩
  have nf : ¬ Fo D := m1.nfo hD
  refine ⟨fun i m Hh => m = ds.length - i ∧ i ≤ ds.length ∧ ∃ M ks, Go M1 H1 M Hh ∧ RelM ⟨K, foAdd Fo D⟩ M Hh ∧ Hh D = some (SetMO w D ks) ∧ wSetL g wt we (wipeD S.env vs) (ds.drop i) ks M (fun ks M' => Q (.set w ks) M'), ?_, ?_⟩
  · exact ⟨ds.length, by simp, Nat.zero_le _, M1, [], .fresh hD, m1.apart hD, upd_same, by simpa using q⟩
  rintro i m Hh ⟨rfl, hi, M, ks, gg, mm, hDh, q'⟩
  have gf := go_apart (Fo := Fo) gg hD
  by_cases hlt : i < ds.length
  · refine .inr ⟨it.go _ _ _ gf mm i hlt, fun H' => ∃ M ks, Go M1 H1 M H' ∧ RelM ⟨K, foAdd Fo D⟩ M H' ∧ H' D = some (SetMO w D ks) ∧ wSetL g wt we (wipeD S.env vs) (ds.drop (i + 1)) ks M (fun ks M' => Q (.set w ks) M'),
      fun H' ⟨M', ks', a, b, c, d⟩ => ⟨ds.length - (i + 1), by omega, rfl, hlt, M', ks', a, b, c, d⟩, fun x H2 y => ?_⟩
    obtain ⟨d, hd, g2, m2, r2⟩ := it.yld _ _ _ gf mm i hlt x H2 y
    rw [drop_of hlt hd] at q'
    have hDM : M D = none := (mm.fo D (.inr rfl)).1
    have rsw : RelS ⟨K, foAdd Fo D⟩ ⟨wipeD S.env vs, M⟩ (L2.wipe σ vs) H2 := by
      have r0 := rs.wipe vs
      refine ⟨r0.len, fun j e he => ?_, m2⟩
      obtain ⟨v, h1, h2⟩ := r0.env j e he
      exact ⟨v, h1, (h2.move (g1.f.trans gf)).go g2⟩
    refine ⟨foAdd Fo D, ⟨wipeD S.env vs, M⟩, d, _, rsw, r2, q', fun S3 σ3 H3 g3 rs3 w3 q3 => ⟨w3.trans wipe_wipe, foAdd Fo D, S3, _, rs3, q3, fun b H4 M4 g4 m4 q4 => ?_⟩⟩
    cases b with
    | true =>
      rw [if_pos rfl] at q4 ⊢
      refine ⟨foAdd Fo D, ⟨S3.env, M4⟩, _, rs3.go g4 m4, q4, fun u H5 e M5 g5 m5 r5 q5 => ?_⟩
      have gall : Go M Hh M5 H5 := g2.trans (g3.trans (g4.trans g5))
      have hD5 : H5 D = some (SetMO w D ks) := (gall D _ hDM hDh).2
      obtain ⟨k, ek, room, q5⟩ := q5
      exact ⟨k, ks, keyOf_rep r5 ek, hD5, room, M5, addK ks k, go_chg (gg.trans gall) hD, m5.chg, upd_same, q5⟩
    | false =>
      rw [if_neg Bool.false_ne_true] at q4 ⊢
      have gall : Go M Hh M4 H4 := g2.trans (g3.trans g4)
      exact ⟨M4, ks, gg.trans gall, m4, (gall D _ hDM hDh).2, q4⟩
  · have e : i = ds.length := by omega
    subst e
    rw [List.drop_length] at q'
    have hDM : M D = none := (mm.fo D (.inr rfl)).1
    refine .inl ⟨it.stop _ _ _ gf mm, kk D Hh (.set w ks) M ?_ hDM (mm.own nf hDh) q'⟩
    refine g1.trans fun a o z1 z2 => ?_
    have z3 := gg a o z1 z2
    exact ⟨by rw [updM_ne (ne_of_none z2 hD)]; exact z3.1, z3.2⟩
theorem dn_setComp {w : World} (hc : X.calm = true) (hN : X.N.Nodup) (hi : DI X tg iter wi) (ok : BlkOk X.N X.env.scope scope own)
    (hg : ∀ (s : Shared) (H : Hp) (C : Addr) (cl : List (Str × Addr)) (fp : List Addr), DGc (X.blk s H scope (compEnvC scope cl C X.env) fp) tg (own.map (·.2)) g) (ht : ∀ (s : Shared) (H : Hp) (C : Addr) (cl : List (Str × Addr)) (fp : List Addr), DTs (X.blk s H scope (compEnvC scope cl C X.env) fp) ifs wt)
    (he : ∀ (s : Shared) (H : Hp) (C : Addr) (cl : List (Str × Addr)) (fp : List Addr), DE (X.blk s H scope (compEnvC scope cl C X.env) fp) elt we) (hs : ∀ x, foldedSetIterable iter X.env x = pure x := by intro _; rfl) (hw : X.w = w := by rfl) :
    DN X (.SetComp elt [⟨tg, iter, ifs, 0⟩] scope pos) (wSetC w (own.map (·.2)) wi g wt we) :=
  hw ▸ peWeak (pe_sk (g := LGc X.K (own.map fun (z : Str × Nat) => z.2) g) (tt := LT X.K wt) (te := LE X.K we) hc hN hi ok hg ht he hs) fun σ H Qt h => sk_read h
end
section
variable {X : Cx} {tg iter elt tg1 iter1 : Expr} {ifs ifs1 : List Expr} {scope : Scope} {own : List (Str × Nat)} {pos : Pos} {wi wi1 : WI} {g gb : WG} {wt wt1 : WT} {we : WE}
theorem sk2_read {w : World} {K : PySem.W.Frag} {vs vs1 : List Nat} (hv : ∀ i ∈ vs1, i ∈ vs) {σ : L2.St} {H : Hp} {Qt : VK} (h : LN K (wSetC2 w vs vs1 wi g wt wi1 gb wt1 we) σ H Qt) : tSk2 w (LI K wi) (LGc K vs g) (LT K wt) (LI K wi1) (LGc K vs1 gb) (LT K wt1) (LE K we) vs vs1 σ H Qt := by
  obtain ⟨Fo, S, Q, rs, h, kk⟩ := h
  refine ⟨Fo, S, _, rs, h, fun J H1 ds M1 g1 m1 it q D hD => ?_⟩
  have nf : ¬ Fo D := m1.nfo hD
  refine ⟨fun i m Hh => m = ds.length - i ∧ i ≤ ds.length ∧ ∃ M ks, Go M1 H1 M Hh ∧ RelM ⟨K, foAdd Fo D⟩ M Hh ∧ Hh D = some (SetMO w D ks) ∧ wSet2 g wt wi1 gb wt1 we vs1 (wipeD S.env vs) (ds.drop i) ks M (fun ks M' => Q (.set w ks) M'), ?_, ?_⟩
  · exact ⟨ds.length, by simp, Nat.zero_le _, M1, [], .fresh hD, m1.apart hD, upd_same, by simpa using q⟩
  rintro i m Hh ⟨rfl, hi, M, ks, gg, mm, hDh, q'⟩
  have gf := go_apart (Fo := Fo) gg hD
  by_cases hlt : i < ds.length
  · refine .inr ⟨it.go _ _ _ gf mm i hlt, fun H' => ∃ M ks, Go M1 H1 M H' ∧ RelM ⟨K, foAdd Fo D⟩ M H' ∧ H' D = some (SetMO w D ks) ∧ wSet2 g wt wi1 gb wt1 we vs1 (wipeD S.env vs) (ds.drop (i + 1)) ks M (fun ks M' => Q (.set w ks) M'),
      fun H' ⟨M', ks', a, b, c, d⟩ => ⟨ds.length - (i + 1), by omega, rfl, hlt, M', ks', a, b, c, d⟩, fun x H2 y => ?_⟩
    obtain ⟨d, hd, g2, m2, r2⟩ := it.yld _ _ _ gf mm i hlt x H2 y
    rw [drop_of hlt hd] at q'
    have hDM : M D = none := (mm.fo D (.inr rfl)).1
    have rsw : RelS ⟨K, foAdd Fo D⟩ ⟨wipeD S.env vs, M⟩ (L2.wipe σ vs) H2 := by
      have r0 := rs.wipe vs
      refine ⟨r0.len, fun j e he => ?_, m2⟩
      obtain ⟨v, h1, h2⟩ := r0.env j e he
      exact ⟨v, h1, (h2.move (g1.f.trans gf)).go g2⟩
    refine ⟨foAdd Fo D, ⟨wipeD S.env vs, M⟩, d, _, rsw, r2, q', fun S3 σ3 H3 g3 rs3 w3 q3 => ⟨w3.trans wipe_wipe, foAdd Fo D, S3, _, rs3, q3, fun b H4 M4 g4 m4 q4 => ?_⟩⟩
    cases b with
    | true =>
      rw [if_pos rfl] at q4 ⊢
      refine ⟨foAdd Fo D, ⟨S3.env, M4⟩, _, rs3.go g4 m4, q4, fun J1 H5 es M5 g5 m5 it1 q5 => ?_⟩
      have gall : Go M Hh M5 H5 := g2.trans (g3.trans (g4.trans g5))
      have hD5 : H5 D = some (SetMO w D ks) := (gall D _ hDM hDh).2
      -- the inner loop
      refine ⟨fun j m Hk => m = es.length - j ∧ j ≤ es.length ∧ ∃ M6 ks6, Go M1 H1 M6 Hk ∧ GoF (foAdd Fo D) (foAdd Fo D) M5 H5 M6 Hk ∧ RelM ⟨K, foAdd Fo D⟩ M6 Hk ∧ Hk D = some (SetMO w D ks6) ∧ wSetL gb wt1 we (wipeD S3.env vs1) (es.drop j) ks6 M6 (fun ks' M3 => wSet2 g wt wi1 gb wt1 we vs1 (wipeD S.env vs) (ds.drop (i + 1)) ks' M3 fun ks M' => Q (.set w ks) M'), ?_, ?_⟩
      · exact ⟨es.length, by simp, Nat.zero_le _, M5, ks, gg.trans gall, (Go.refl _ _).f, m5, hD5, by simpa using q5⟩
      rintro j k Hk ⟨rfl, hj, M6, ks6, gg6, gf6, mm6, hD6, q6⟩
      by_cases hlt1 : j < es.length
      · refine .inr ⟨it1.go _ _ _ gf6 mm6 j hlt1, fun H' => ∃ M6 ks6, Go M1 H1 M6 H' ∧ GoF (foAdd Fo D) (foAdd Fo D) M5 H5 M6 H' ∧ RelM ⟨K, foAdd Fo D⟩ M6 H' ∧ H' D = some (SetMO w D ks6) ∧ wSetL gb wt1 we (wipeD S3.env vs1) (es.drop (j + 1)) ks6 M6 (fun ks' M3 => wSet2 g wt wi1 gb wt1 we vs1 (wipeD S.env vs) (ds.drop (i + 1)) ks' M3 fun ks M' => Q (.set w ks) M'),
          fun H' ⟨M', ks', a, b, c, d, e⟩ => ⟨es.length - (j + 1), by omega, rfl, hlt1, M', ks', a, b, c, d, e⟩, fun x1 H7 y1 => ?_⟩
        obtain ⟨d1, hd1, g7, m7, r7⟩ := it1.yld _ _ _ gf6 mm6 j hlt1 x1 H7 y1
        rw [drop_of hlt1 hd1] at q6
        have hDM6 : M6 D = none := (mm6.fo D (.inr rfl)).1
        have rsw1 : RelS ⟨K, foAdd Fo D⟩ ⟨wipeD S3.env vs1, M6⟩ (L2.wipe σ3 vs1) H7 := by
          have r0 := rs3.wipe vs1
          refine ⟨r0.len, fun j e he => ?_, m7⟩
          obtain ⟨v, h1, h2⟩ := r0.env j e he
          exact ⟨v, h1, (h2.move ((g4.trans g5).f.trans gf6)).go g7⟩
        refine ⟨foAdd Fo D, ⟨wipeD S3.env vs1, M6⟩, d1, _, rsw1, r7, q6, fun S8 σ8 H8 g8 rs8 w8 q8 => ⟨w8.trans wipe_wipe, foAdd Fo D, S8, _, rs8, q8, fun b1 H9 M9 g9 m9 q9 => ?_⟩⟩
        cases b1 with
        | true =>
          rw [if_pos rfl] at q9 ⊢
          refine ⟨foAdd Fo D, ⟨S8.env, M9⟩, _, rs8.go g9 m9, q9, fun u Hx e Mx gx mx rx qx => ?_⟩
          have gl : Go M6 Hk Mx Hx := g7.trans (g8.trans (g9.trans gx))
          have hDx : Hx D = some (SetMO w D ks6) := (gl D _ hDM6 hD6).2
          obtain ⟨k, ek, room, qx⟩ := qx
          exact ⟨k, ks6, keyOf_rep rx ek, hDx, room, Mx, addK ks6 k, go_chg (gg6.trans gl) hD, (gf6.trans gl.f).trans fo_chg, mx.chg, upd_same, qx⟩
        | false =>
          rw [if_neg Bool.false_ne_true] at q9 ⊢
          have gl : Go M6 Hk M9 H9 := g7.trans (g8.trans g9)
          exact ⟨M9, ks6, gg6.trans gl, gf6.trans gl.f, m9, (gl D _ hDM6 hD6).2, q9⟩
      · have e : j = es.length := by omega
        subst e
        rw [List.drop_length] at q6
        exact .inl ⟨it1.stop _ _ _ gf6 mm6, M6, ks6, gg6, mm6, hD6, q6⟩
    | false =>
      rw [if_neg Bool.false_ne_true] at q4 ⊢
      have gall : Go M Hh M4 H4 := g2.trans (g3.trans g4)
      exact ⟨M4, ks, gg.trans gall, m4, (gall D _ hDM hDh).2, q4⟩
  · have e : i = ds.length := by omega
    subst e
    rw [List.drop_length] at q'
    have hDM : M D = none := (mm.fo D (.inr rfl)).1
    refine .inl ⟨it.stop _ _ _ gf mm, kk D Hh (.set w ks) M ?_ hDM (mm.own nf hDh) q'⟩
    refine g1.trans fun a o z1 z2 => ?_
    have z3 := gg a o z1 z2
    exact ⟨by rw [updM_ne (ne_of_none z2 hD)]; exact z3.1, z3.2⟩
theorem dn_setComp2 {w : World} {vs1 : List Nat} (hc : X.calm = true) (hN : X.N.Nodup) (hi : DI X tg iter wi) (ok : BlkOk X.N X.env.scope scope own) (hv : ∀ i ∈ vs1, i ∈ own.map (·.2))
    (hg : ∀ (s : Shared) (H : Hp) (C : Addr) (cl : List (Str × Addr)) (fp : List Addr), DGc (X.blk s H scope (compEnvC scope cl C X.env) fp) tg (own.map (·.2)) g) (ht : ∀ (s : Shared) (H : Hp) (C : Addr) (cl : List (Str × Addr)) (fp : List Addr), DTs (X.blk s H scope (compEnvC scope cl C X.env) fp) ifs wt)
    (hi1 : ∀ (s : Shared) (H : Hp) (C : Addr) (cl : List (Str × Addr)) (fp : List Addr), DI (X.blk s H scope (compEnvC scope cl C X.env) fp) tg1 iter1 wi1)
    (hg1 : ∀ (s : Shared) (H : Hp) (C : Addr) (cl : List (Str × Addr)) (fp : List Addr), DGc (X.blk s H scope (compEnvC scope cl C X.env) fp) tg1 vs1 gb) (ht1 : ∀ (s : Shared) (H : Hp) (C : Addr) (cl : List (Str × Addr)) (fp : List Addr), DTs (X.blk s H scope (compEnvC scope cl C X.env) fp) ifs1 wt1)
    (he : ∀ (s : Shared) (H : Hp) (C : Addr) (cl : List (Str × Addr)) (fp : List Addr), DE (X.blk s H scope (compEnvC scope cl C X.env) fp) elt we) (hs : ∀ x, foldedSetIterable iter X.env x = pure x := by intro _; rfl) (hs1 : ∀ env x, foldedSetIterable iter1 env x = pure x := by intro _ _; rfl) (hw : X.w = w := by rfl) :
    DN X (.SetComp elt [⟨tg, iter, ifs, 0⟩, ⟨tg1, iter1, ifs1, 0⟩] scope pos) (wSetC2 w (own.map (·.2)) vs1 wi g wt wi1 gb wt1 we) :=
  hw ▸ peWeak (pe_sk2 (g := LGc X.K (own.map fun (z : Str × Nat) => z.2) g) (tt := LT X.K wt) (wi1 := LI X.K wi1) (g1 := LGc X.K vs1 gb) (tt1 := LT X.K wt1) (te := LE X.K we) hc hN hi ok hv hg ht hi1 hg1 ht1 he hs hs1) fun σ H Qt h => sk2_read hv h
end
/-- a new object, held for a while -/
def wNew (w : WN) : WE := fun S Q => w S fun mo M => ∀ p, M p = none → Q (.ref p) (updM M p mo)
theorem de_new {X : Cx} {e : Expr} {w : WN} (h : DN X e w) : DE X e (wNew w) := peWeak h fun σ H Qt ⟨Fo, S, Q, rs, h, k⟩ =>
  ⟨Fo, S, _, rs, h, fun p H' mo M' g n m q => k (.ref p) H' (.ref p) (updM M' p mo) g m (.ref p) (q p n)⟩
end Lk

/-! LkMore: stores side by side, reversed lists, repeated lists, join, dicts from pairs. -/
namespace Lk
open PySem PySem.Spec L2

/-! ### x, y = a, b (names alone) -/
def wPar (i j : Nat) (ws : WA) : WS := fun S D => ws S fun ds M => ∃ a b, ds = [a, b] ∧ D.nx ⟨(S.env.set i (some a)).set j (some b), M⟩
def wPar3 (i j l : Nat) (ws : WA) : WS := fun S D => ws S fun ds M => ∃ a b c, ds = [a, b, c] ∧ D.nx ⟨((S.env.set i (some a)).set j (some b)).set l (some c), M⟩
section
variable {X : Cx} {st : Stmt} {ws : WA} {n : Nat}
theorem ds_par' {i j : Nat} (h : PS X st (tPar i j (LA X.K ws))) : DSt X st (wPar i j ws) := psWeak h fun Dt σ H ⟨Fo, S, D, rs, h, k⟩ =>
  ⟨Fo, S, _, rs, h, fun vs H' ds M' g m r ⟨a, b, e, q⟩ => by
    subst e
    obtain ⟨v, u, rfl, r1, r2⟩ := r.two
    exact ⟨v, u, rfl, k.nx ⟨_, M'⟩ _ H' g (((rs.go g m).set i r1).set j r2) q⟩⟩
theorem Reps.three {K : KF} {M : Mh} {H : Hp} {d e f : Dat} {vs : List V} (r : Reps K M H [d, e, f] vs) : ∃ v u w, vs = [v, u, w] ∧ Rep K M H d v ∧ Rep K M H e u ∧ Rep K M H f w := by
  cases r with
  | cons h t =>
    obtain ⟨u, w, rfl, h2, h3⟩ := t.two
    exact ⟨_, u, w, rfl, h, h2, h3⟩
theorem ds_par3' {i j l : Nat} (h : PS X st (tPar3 i j l (LA X.K ws))) : DSt X st (wPar3 i j l ws) := psWeak h fun Dt σ H ⟨Fo, S, D, rs, h, k⟩ =>
  ⟨Fo, S, _, rs, h, fun vs H' ds M' g m r ⟨a, b, c, e, q⟩ => by
    subst e
    obtain ⟨v, u, w, rfl, r1, r2, r3⟩ := r.three
    exact ⟨v, u, w, rfl, k.nx ⟨_, M'⟩ _ H' g ((((rs.go g m).set i r1).set j r2).set l r3) q⟩⟩
theorem ds_par {i j : Nat} {x y : Str} {a b : Expr} {px py pt pos : Pos} {kt k2 pt2} (hc : X.calm = true) (hN : X.N.Nodup) (hi : X.N[i]? = some x) (hj : X.N[j]? = some y) (hij : i ≠ j)
    (hx : X.env.scope.names.lookup x = some .local) (hy : X.env.scope.names.lookup y = some .local) (ha : DA X [a, b] n ws)
    (hw : swappedStores [.Tuple [.Name x px, .Name y py] kt pt] (.Tuple [a, b] k2 pt2) X.env = pure (some [x, y]))
    (hs : swapsWithSole [.Tuple [.Name x px, .Name y py] kt pt] (.Tuple [a, b] k2 pt2) pos.line X.env = pure false := by rfl) :
    DSt X (.Assign [.Tuple [.Name x px, .Name y py] kt pt] (.Tuple [a, b] k2 pt2) pos) (wPar i j ws) := ds_par' (ps_par hc hN hi hj hij hx hy ha.pa hw hs)
theorem ds_par3 {i j l : Nat} {x y z : Str} {a b c : Expr} {px py pz pt pos : Pos} {kt k2 pt2} (hc : X.calm = true) (hN : X.N.Nodup) (hi : X.N[i]? = some x) (hj : X.N[j]? = some y) (hl : X.N[l]? = some z) (hij : i ≠ j) (hil : i ≠ l) (hjl : j ≠ l)
    (hx : X.env.scope.names.lookup x = some .local) (hy : X.env.scope.names.lookup y = some .local) (hz : X.env.scope.names.lookup z = some .local) (ha : DA X [a, b, c] n ws)
    (hw : swappedStores [.Tuple [.Name x px, .Name y py, .Name z pz] kt pt] (.Tuple [a, b, c] k2 pt2) X.env = pure (some [x, y, z]))
    (hs : swapsWithSole [.Tuple [.Name x px, .Name y py, .Name z pz] kt pt] (.Tuple [a, b, c] k2 pt2) pos.line X.env = pure false := by rfl) :
    DSt X (.Assign [.Tuple [.Name x px, .Name y py, .Name z pz] kt pt] (.Tuple [a, b, c] k2 pt2) pos) (wPar3 i j l ws) := ds_par3' (ps_par3 hc hN hi hj hl hij hil hjl hx hy hz ha.pa hw hs)
end

/-! ### xs[::-1], xs * k -/
def wRevL (w : WE) : WN := fun S Q => w S fun x M => ∃ xs, lstOf M x = some xs ∧ Q (.lst xs.reverse) M
theorem dn_revL {X : Cx} {e : Expr} {w : WE} {k : Nat} {p1 p2 p3 pos : Pos} (he : DE X e w) : DN X (.Subscript e (.Slice none none (some (.UnaryOp .USub (.Constant (.int 1) k p1) p2)) p3) pos) (wRevL w) :=
  peWeak (pe_revL he) fun σ H Qt ⟨Fo, S, Q, rs, h, k⟩ => ⟨Fo, S, _, rs, h, fun v H' d M' g m r ⟨xs, e, q⟩ => by
    obtain ⟨a, vs, rfl, h1, h2⟩ := lstOf_sq m r e
    exact ⟨a, vs, rfl, h1, fun p hp => (k.go g).lst m h2.reverse hp q⟩⟩
def fRepL (x y : Dat) (M : Mh) (Q : MO → Mh → Prop) : Prop := ∃ xs k, ownOf M x = some xs ∧ y = .int k ∧ -(2 ^ 63) ≤ k ∧ k < 2 ^ 63 ∧ xs.length * k.toNat ≤ sizeLine ∧ Q (.lst (List.replicate k.toNat xs).flatten) M
theorem Reps.repeated {K : KF} {M : Mh} {H : Hp} {xs : List Dat} {vs : List V} (r : Reps K M H xs vs) : ∀ n : Nat, Reps K M H (List.replicate n xs).flatten (List.replicate n vs).flatten
  | 0 => .nil
  | n + 1 => by
    rw [List.replicate_succ, List.replicate_succ, List.flatten_cons, List.flatten_cons]
    exact r.append (Reps.repeated r n)
theorem ok_repL {K : PySem.W.Frag} : Ok2N K rRep fRepL := fun Fo x y vx vy M H Q Qt m rx ry h k => by
  obtain ⟨xs, n, e1, rfl, h1, h2, hz, q⟩ := h
  cases ry
  obtain ⟨a, vs, rfl, ha, r1⟩ := ownOf_lst m rx e1
  exact ⟨a, n, vs, rfl, rfl, ha, h1, h2, by rw [← r1.length]; exact hz, fun p hp => k.lst m (r1.repeated _) hp q⟩
theorem dn_repL {X : Cx} {a b : Expr} {wa wb : WE} {pos : Pos} (ha : DE X a wa) (hb : DE X b wb) : DN X (.BinOp a .Mult b pos) (wBinN fRepL wa wb) := dn_op op_rep ok_repL ha hb

/-! ### sep.join(xs) -/
def wJoin (wo we : WE) : WE := fun S Q => wo S fun x M1 => ∃ sep, x = .str sep ∧ we ⟨S.env, M1⟩ fun y M2 => ∃ ys : List Str, seqOf M2 y = some (ys.map .str) ∧ (ys.map (·.length)).sum + ys.length * sep.length ≤ 16777216 ∧ Q (.str (Txt.join sep ys)) M2
theorem de_join {X : Cx} {o e : Expr} {wo we : WE} {apos pos : Pos} (ho : DE X o wo) (he : DE X e we) (hs : starEach [e] X.env = [(false, eval e X.env)] := by rfl) (hbase : attributeBase o "join" X.env (eval o X.env) = eval o X.env := by rfl) (hline : (apos.endLine == pos.line) = true := by rfl) :
    DE X (.Call (.Attribute o "join" apos) [e] [] pos) (wJoin wo we) := peWeak (pe_join ho he hs hbase hline) fun σ H Qt ⟨Fo, S, Q, rs, h, k⟩ => by
  refine ⟨Fo, S, _, rs, h, fun v H1 x M1 g1 m1 r1 ⟨sep, e, q⟩ => ?_⟩
  subst e
  cases r1
  refine ⟨⟨sep, rfl⟩, Fo, ⟨S.env, M1⟩, _, rs.go g1 m1, q, fun v2 H2 y M2 g2 m2 r2 ⟨ys, e2, hz, q2⟩ => ?_⟩
  obtain ⟨a, vs, rfl, h1, h2⟩ := seqOf_sq m2 r2 e2
  have ev := h2.strs
  subst ev
  exact ⟨sep, a, ys, rfl, rfl, h1, hz, (k.go (g1.trans g2)).here m2 (.str _) q2⟩
end Lk

/-! LkDict: dicts from pairs, dict comprehensions, tuples known to the letter. -/
namespace Lk
open PySem PySem.Spec L2

/-- one D-level law of a built-in that hands back a value -/
def rD1 (X : Cx) (f : Dat → Mh → VD → Prop) : List V → Hp → VK → Prop := fun vs H Qt => ∃ Fo M d v Q, vs = [v] ∧ RelM ⟨X.K, Fo⟩ M H ∧ Rep ⟨X.K, Fo⟩ M H d v ∧ f d M Q ∧ Fin ⟨X.K, Fo⟩ M H Q Qt
theorem ok_rD1 {X : Cx} {f : Dat → Mh → VD → Prop} : OkL X.K (rD1 X f) (f1 f) := ok1 fun Fo x v M H Q Qt m r h k => ⟨Fo, M, x, v, Q, rfl, m, r, h, k⟩
def fTupS (x : Dat) (M : Mh) (Q : VD) : Prop := ∃ xs, lstOf M x = some xs ∧ Q (.stp xs) M
section
variable {X : Cx} {pins : List (Addr × Obj)} {σ : L2.St} {H : Hp} {s : Shared}
open PyProof.Rows in
theorem c_tupS : CallR X (.type "tuple") (rD1 X fTupS) := by
  intro pins s σ H vs us Q I r ⟨Fo, M, d, v, Qd, e, m, rd, ⟨xs, h, q⟩, k⟩
  subst e
  obtain ⟨u, eu, ru⟩ := vals1 r
  subst eu
  obtain ⟨a, ws, rfl, h1, r1⟩ := lstOf_sq m rd h
  cases ru
  obtain ⟨its, rv, pl, hz⟩ := I.list h1
  refine call_tuple_list pl.isList (fun h' hk => ?_) (by rw [List.size_toArray, ← rv.length]; exact hz)
  have I1 : Inv X pins σ H { s with heap := h' } := I.kept (t' := s.toks) hk
  have hp : H h'.objs.size = none := I1.hok.fresh (Nat.le_refl _)
  have I2 := I1.laid (t' := s.toks) (h' := h'.push { cls := .type "tuple", data := .seq its.toArray }) (a := h'.objs.size) (o := .frz { cls := .type "tuple", data := .seq its.toArray } (.tup ws)) (fun b o e => Heap.get?_push_of_some _ e) (Nat.le_refl _) ⟨Heap.get?_push_size _ rfl, hz, its, rv, IsTup.new _ _⟩
  exact ⟨.ref h'.objs.size, _, I2, rfl, k _ _ (.stp xs) M (.fresh hp) (m.fresh hp) (.stp ⟨m.free hp, m.nfo hp, _, rfl, upd_same⟩ (r1.go (.fresh hp))) q⟩
theorem de_tupS {e : Expr} {es : List Expr} {ws : WA} {pos p : Pos} {n : Nat} (hg : Gl X "tuple") (hm : X.mg "tuple" = none) (ha : DA X (e :: es) n ws) (he : starEach (e :: es) X.env = (false, eval e X.env) :: starEach es X.env := by rfl) (hpl : (backTo pos (starEach es X.env)).any (·.1) = false := by rfl) : DE X (.Call (.Name "tuple" p) (e :: es) [] pos) (wBlt (f1 fTupS) ws) :=
  de_bty (r := rD1 X fTupS) c_tupS ok_rD1 hg hm (by decide +kernel) ha (by decide) (by decide) he hpl

/-! ### dict(pairs), dict(d) -/
def pairOf : Dat → Option (Key × Dat)
  | .tup [k, v] => (keyOf k).map fun kk => (kk, v)
  | _ => none
def pairsOf : List Dat → Option (List (Key × Dat))
  | [] => some []
  | x :: xs => match pairOf x, pairsOf xs with
    | some p, some ps => some (p :: ps)
    | _, _ => none
def mergeD (kvs more : List (Key × Dat)) : List (Key × Dat) := more.foldl (fun acc kv => putD acc kv.1 kv.2) kvs
def fDict (x : Dat) (M : Mh) (Q : MO → Mh → Prop) : Prop := match x with
  | .stp xs => ∃ kvs, pairsOf xs = some kvs ∧ Q (.dk (mergeD [] kvs)) M
  | .ref a => ∃ kvs, M a = some (.dk kvs) ∧ Q (.dk kvs) M
  | _ => False
def TsOf (us : List Value) (j : Nat) : Addr := match us[j]? with
  | some (.ref b) => b
  | _ => 0
theorem TsOf_succ {u : Value} {us : List Value} {j : Nat} : TsOf (u :: us) (j + 1) = TsOf us j := by
  unfold TsOf; rw [List.getElem?_cons_succ]
theorem pairs_d {Fo : Addr → Prop} {M : Mh} (I : Inv X pins σ H s) (m : RelM ⟨X.K, Fo⟩ M H) : ∀ {xs : List Dat} {vs : List V} {us : List Value} {kvs : List (Key × Dat)}, Reps ⟨X.K, Fo⟩ M H xs vs → Vals vs us → pairsOf xs = some kvs →
    ∃ (prs : List (Value × Value)) (kvv : List (Key × V)) (rs : List (Key × Value)), RepKV ⟨X.K, Fo⟩ M H kvs kvv ∧ KV kvv rs ∧ prs.length = us.length ∧ rs.length = us.length ∧
      ∀ j k v, prs[j]? = some (k, v) → us[j]? = some (.ref (TsOf us j)) ∧ PyProof.Rows.IsTup s.heap (TsOf us j) #[k, v] ∧ ∃ kk, rs[j]? = some (kk, v) ∧ keyIs kk k = true
  | _, _, _, kvs, .nil, .nil, e => by
    cases e
    exact ⟨[], [], [], .nil, .nil, rfl, rfl, fun j k v h => by simp at h⟩
  | x :: xs, v :: vs, u :: us, kvs, .cons rx rr, .cons ru rv, e => by
    unfold pairsOf at e
    split at e
    · rename_i p ps ep eps
      cases e
      obtain ⟨prs, kvv, rs, h1, h2, h3, h4, h5⟩ := pairs_d I m rr rv eps
      unfold pairOf at ep
      split at ep
      · rename_i k0 v0
        rw [Option.map_eq_some_iff] at ep
        obtain ⟨kk, e1, e2⟩ := ep
        subst e2
        cases rx with
        | tup f rs2 =>
          obtain ⟨a, b, rfl, ra, rb⟩ := rs2.two
          have ea := keyOf_rep ra e1
          subst ea
          cases ru
          obtain ⟨its, rvi, ht, _⟩ := I.tuple f.sq
          obtain ⟨ua, ub, ei, rua, rub⟩ := vals2 rvi
          subst ei
          refine ⟨(ua, ub) :: prs, (kk, b) :: kvv, (kk, ub) :: rs, .cons ⟨rfl, rb⟩ h1, .cons ⟨rfl, rub⟩ h2, by simp [h3], by simp [h4], fun j k v hj => ?_⟩
          cases j with
          | zero =>
            cases hj
            exact ⟨rfl, ht, kk, rfl, kV_is (P := X.prog) (w := X.w) rua⟩
          | succ j =>
            obtain ⟨g1, g2, kk', g3, g4⟩ := h5 j k v (by simpa using hj)
            rw [TsOf_succ]
            exact ⟨by simpa using g1, g2, kk', by simpa using g3, g4⟩
      · cases ep
    · cases e
theorem RepKV.putD {K : KF} {M : Mh} {k : Key} {d : Dat} {v : V} {ds : List (Key × Dat)} {vs : List (Key × V)} (h : Rep K M H d v) (r : RepKV K M H ds vs) : RepKV K M H (putD ds k d) (putK vs k v) := by
  unfold Lk.putD putK
  rw [r.any]
  split
  · exact RepKV.repl h r
  · exact RepKV.snoc h r
theorem RepKV.merge {K : KF} {M : Mh} : ∀ {more : List (Key × Dat)} {mv : List (Key × V)} {ds : List (Key × Dat)} {vs : List (Key × V)}, RepKV K M H more mv → RepKV K M H ds vs → RepKV K M H (mergeD ds more) (mergeK vs mv)
  | _, _, _, _, .nil, r => r
  | _, _, _, _, .cons (a := p) (b := q) h t, r => by
    have e : p.1 = q.1 := h.1
    show RepKV K M H (mergeD (Lk.putD _ p.1 p.2) _) (mergeK (putK _ q.1 q.2) _)
    rw [e]
    exact RepKV.merge t (RepKV.putD h.2 r)
open PyProof.Rows in
theorem c_dict (hc : X.calm = true) : CallR X (.type "dict") (rD1N X fDict) := by
  intro pins s σ H vs us Q I r ⟨Fo, M, d, v, Qd, e, m, rd, h, k⟩
  subst e
  obtain ⟨u, eu, ru⟩ := vals1 r
  subst eu
  cases rd with
  | stp f rr =>
    obtain ⟨kvs, ek, q⟩ := h
    cases ru
    obtain ⟨hm0, hf0, ob, hdn, hob⟩ := f
    obtain ⟨hat, hz, its, rv, ht⟩ := I.hok _ _ hob
    obtain ⟨prs, kvv, rs, h1, h2, h3, h4, h5⟩ := pairs_d I m rr rv ek
    obtain ⟨o2, ho2, hc2, n2, hd2⟩ := ht
    have eo : ob = o2 := Option.some.inj (hat.symm.trans ho2)
    subst eo
    have hlen : its.length ≤ sizeLine := by rw [← rv.length]; exact hz
    refine PySem.call_dict_pairs (knd := mixKind X.prog X.w) (kvs := rs) (PairArg.tuple _ its.toArray (TsOf its) prs) (I.ok.hd hc) ⟨⟨ob, n2, ho2, hc2, hdn, hd2⟩, ?_⟩ ⟨h4.trans h3.symm, fun i key v e => ?_⟩ (by rw [h3]; exact hlen) fun h' tk hd' hk => ?_
    · refine ⟨by simp [h3], fun j k v e => ?_⟩
      obtain ⟨g1, g2, _⟩ := h5 j k v e
      exact ⟨by simpa using g1, .inl g2⟩
    · obtain ⟨_, _, kk, g3, g4⟩ := h5 i key v e
      exact ⟨kk, g3, g4⟩
    · have hm : (s.heap.objs.size == sysModules) = false := beq_eq_false_iff_ne.mpr (Nat.ne_of_gt I.big)
      have hl : (mergeK [] kvv).length ≤ sizeLine := by
        refine Nat.le_trans (length_mergeK kvv []) ?_
        rw [List.length_nil, Nat.zero_add, show kvv.length = rs.length from Paired.length h2, h4]
        exact hlen
      have hp : H s.heap.objs.size = none := I.hok.fresh (Nat.le_refl _)
      refine ⟨.ref s.heap.objs.size, upd H s.heap.objs.size (.dK (mergeK [] kvv)), I.laid (t' := tk) (fun b o e => hk b o (by simp) e) (Nat.le_refl _) (show ObjOk X.prog X.w _ _ _ (.dK (mergeK [] kvv)) from ⟨hl, hm, merged [] rs, KV.merge h2 .nil, hd'⟩), rfl, ?_⟩
      exact k _ _ (.dk (mergeD [] kvs)) M (.new hp) (m.free hp) (m.new hp ⟨_, upd_same, (RepKV.merge h1 .nil).go (.new hp)⟩) q
  | ref a =>
    obtain ⟨kvs, ea, q⟩ := h
    obtain ⟨ws, h1, h2⟩ := m.ob _ _ ea
    exact call_dictD pins s σ H _ _ Q I r ⟨a, ws, rfl, .inl h1, fun p hp => k p _ (.dk kvs) M (.new hp) (m.free hp) (m.new hp ⟨ws, upd_same, h2.go (.new hp)⟩) q⟩
  | _ => exact h.elim
theorem dn_dict {e : Expr} {es : List Expr} {ws : WA} {pos p : Pos} {n : Nat} (hc : X.calm = true) (hg : Gl X "dict") (hm : X.mg "dict" = none) (ha : DA X (e :: es) n ws) (he : starEach (e :: es) X.env = (false, eval e X.env) :: starEach es X.env := by rfl) (hpl : (backTo pos (starEach es X.env)).any (·.1) = false := by rfl) : DN X (.Call (.Name "dict" p) (e :: es) [] pos) (wBltN (f1N fDict) ws) :=
  dn_bty (c_dict hc) ok_rD1N hg hm (by decide +kernel) ha (by decide) (by decide) he hpl
end

/-! ### {k: v for target in iter if ..} -/
def wDictL (g : WG) (wt : WT) (wk wv : WE) (env : List (Option Dat)) : List Dat → List (Key × Dat) → Mh → (List (Key × Dat) → Mh → Prop) → Prop
  | [], kvs, M, Q => Q kvs M
  | d :: ds, kvs, M, Q => g d ⟨env, M⟩ fun S1 => wt S1 fun b M1 => if b = true then wk ⟨S1.env, M1⟩ fun y M2 => wv ⟨S1.env, M2⟩ fun z M3 => ∃ k, keyOf y = some k ∧ kvs.length < sizeLine ∧ wDictL g wt wk wv env ds (putD kvs k z) M3 Q else wDictL g wt wk wv env ds kvs M1 Q
def wDictC (vs : List Nat) (wi : WI) (g : WG) (wt : WT) (wk wv : WE) : WN := fun S Q => wi S fun ds M => wDictL g wt wk wv (wipeD S.env vs) ds [] M fun kvs M' => Q (.dk kvs) M'
section
variable {X : Cx} {tg iter kx vx : Expr} {ifs : List Expr} {scope : Scope} {own : List (Str × Nat)} {pos : Pos} {wi : WI} {g : WG} {wt : WT} {wk wv : WE}
theorem dc_read {K : PySem.W.Frag} {vs : List Nat} {σ : L2.St} {H : Hp} {Qt : VK} (h : LN K (wDictC vs wi g wt wk wv) σ H Qt) : tDc (LI K wi) (LGc K vs g) (LT K wt) (LE K wk) (LE K wv) vs σ H Qt := by
  obtain ⟨Fo, S, Q, rs, h, kk⟩ := h
  refine ⟨Fo, S, _, rs, h, fun J H1 ds M1 g1 m1 it q D hD => ?_⟩
  have nf : ¬ Fo D := m1.nfo hD
  refine ⟨fun i m Hh => m = ds.length - i ∧ i ≤ ds.length ∧ ∃ M kvs kvv, Go M1 H1 M Hh ∧ RelM ⟨K, foAdd Fo D⟩ M Hh ∧ Hh D = some (.dK kvv) ∧ RepKV ⟨K, foAdd Fo D⟩ M Hh kvs kvv ∧ wDictL g wt wk wv (wipeD S.env vs) (ds.drop i) kvs M (fun kvs M' => Q (.dk kvs) M'), ?_, ?_⟩
  · exact ⟨ds.length, by simp, Nat.zero_le _, M1, [], [], .fresh hD, m1.apart hD, upd_same, .nil, by simpa using q⟩
  rintro i m Hh ⟨rfl, hi, M, kvs, kvv, gg, mm, hDh, rk, q'⟩
  have gf := go_apart (Fo := Fo) gg hD
  by_cases hlt : i < ds.length
  · refine .inr ⟨it.go _ _ _ gf mm i hlt, fun H' => ∃ M kvs kvv, Go M1 H1 M H' ∧ RelM ⟨K, foAdd Fo D⟩ M H' ∧ H' D = some (.dK kvv) ∧ RepKV ⟨K, foAdd Fo D⟩ M H' kvs kvv ∧ wDictL g wt wk wv (wipeD S.env vs) (ds.drop (i + 1)) kvs M (fun kvs M' => Q (.dk kvs) M'),
      fun H' ⟨M', a1, a2, a, b, c, d, e⟩ => ⟨ds.length - (i + 1), by omega, rfl, hlt, M', a1, a2, a, b, c, d, e⟩, fun x H2 y => ?_⟩
    obtain ⟨d, hd, g2, m2, r2⟩ := it.yld _ _ _ gf mm i hlt x H2 y
    rw [drop_of hlt hd] at q'
    have hDM : M D = none := (mm.fo D (.inr rfl)).1
    have rsw : RelS ⟨K, foAdd Fo D⟩ ⟨wipeD S.env vs, M⟩ (L2.wipe σ vs) H2 := by
      have r0 := rs.wipe vs
      refine ⟨r0.len, fun j e he => ?_, m2⟩
      obtain ⟨v, h1, h2⟩ := r0.env j e he
      exact ⟨v, h1, (h2.move (g1.f.trans gf)).go g2⟩
    refine ⟨foAdd Fo D, ⟨wipeD S.env vs, M⟩, d, _, rsw, r2, q', fun S3 σ3 H3 g3 rs3 w3 q3 => ⟨w3.trans wipe_wipe, foAdd Fo D, S3, _, rs3, q3, fun b H4 M4 g4 m4 q4 => ?_⟩⟩
    cases b with
    | true =>
      rw [if_pos rfl] at q4 ⊢
      refine ⟨foAdd Fo D, ⟨S3.env, M4⟩, _, rs3.go g4 m4, q4, fun u H5 e M5 g5 m5 r5 q5 => ?_⟩
      refine ⟨foAdd Fo D, ⟨S3.env, M5⟩, _, (rs3.go g4 m4).go g5 m5, q5, fun u6 H6 e6 M6 g6 m6 r6 q6 => ?_⟩
      have gall : Go M Hh M6 H6 := g2.trans (g3.trans (g4.trans (g5.trans g6)))
      have hD6 : H6 D = some (.dK kvv) := (gall D _ hDM hDh).2
      obtain ⟨k, ek, room, q6⟩ := q6
      refine ⟨kvv, k, keyOf_rep r5 ek, hD6, by rw [← rk.len]; exact room, M6, putD kvs k e6, putK kvv k u6, go_chg (gg.trans gall) hD, m6.chg, upd_same, ?_, q6⟩
      exact Paired.mapP (RepKV.putD r6 (RepKV.go gall rk)) fun _ _ z => ⟨z.1, z.2.move fo_chg⟩
    | false =>
      rw [if_neg Bool.false_ne_true] at q4 ⊢
      have gall : Go M Hh M4 H4 := g2.trans (g3.trans g4)
      exact ⟨M4, kvs, kvv, gg.trans gall, m4, (gall D _ hDM hDh).2, RepKV.go gall rk, q4⟩
  · have e : i = ds.length := by omega
    subst e
    rw [List.drop_length] at q'
    have hDM : M D = none := (mm.fo D (.inr rfl)).1
    refine .inl ⟨it.stop _ _ _ gf mm, kk D Hh (.dk kvs) M ?_ hDM (mm.own nf ⟨kvv, hDh, Paired.mapP rk fun _ _ z => ⟨z.1, z.2.move fo_own⟩⟩) q'⟩
    refine g1.trans fun a o z1 z2 => ?_
    have z3 := gg a o z1 z2
    exact ⟨by rw [updM_ne (ne_of_none z2 hD)]; exact z3.1, z3.2⟩
theorem dn_dictComp (hc : X.calm = true) (hN : X.N.Nodup) (hi : DI X tg iter wi) (ok : BlkOk X.N X.env.scope scope own)
    (hg : ∀ (s : Shared) (H : Hp) (C : Addr) (cl : List (Str × Addr)) (fp : List Addr), DGc (X.blk s H scope (compEnvC scope cl C X.env) fp) tg (own.map (·.2)) g) (ht : ∀ (s : Shared) (H : Hp) (C : Addr) (cl : List (Str × Addr)) (fp : List Addr), DTs (X.blk s H scope (compEnvC scope cl C X.env) fp) ifs wt)
    (hk : ∀ (s : Shared) (H : Hp) (C : Addr) (cl : List (Str × Addr)) (fp : List Addr), DE (X.blk s H scope (compEnvC scope cl C X.env) fp) kx wk)
    (he : ∀ (s : Shared) (H : Hp) (C : Addr) (cl : List (Str × Addr)) (fp : List Addr), DE (X.blk s H scope (compEnvC scope cl C X.env) fp) vx wv) (hs : ∀ x, foldedSetIterable iter X.env x = pure x := by intro _; rfl) :
    DN X (.DictComp kx vx [⟨tg, iter, ifs, 0⟩] scope pos) (wDictC (own.map (·.2)) wi g wt wk wv) :=
  peWeak (pe_dc (g := LGc X.K (own.map fun (z : Str × Nat) => z.2) g) (tt := LT X.K wt) (tk := LE X.K wk) (tv := LE X.K wv) hc hN hi ok hg ht hk he hs) fun σ H Qt h => dc_read h
end
end Lk

/-! LkIter: enumerate of a tuple; set(..) of a list, of a tuple. -/
namespace Lk
open PySem PySem.Spec L2

section
open PyProof.Rows AutoSeq1
theorem enumT_new (l : Addr) (its : Array Value) (n : Nat) (dc : Option Addr) (sl : Array (Option Value)) :
    Meets (Builtin.«enumerate.__new__» ⟨[.type "enumerate", .ref l], []⟩) (fun _ R s => s.heap.get? l = some { cls := .type "tuple", dict := dc, data := .seq its n, slots := sl } ∧
      R (.ok (.ret (.ref (s.heap.push { cls := .type "tuple_iterator", data := .fields #[.ref l, .int 0 0] }).objs.size)))
        { s with heap := (s.heap.push { cls := .type "tuple_iterator", data := .fields #[.ref l, .int 0 0] }).push { cls := .type "enumerate", data := .fields #[.none, .bool false, .ref s.heap.objs.size, rawInt 0, .none, .none] } }) :=
  .of_wp fun prog w A R s h => by
    obtain ⟨hp, g, d, tk, os⟩ := s; obtain ⟨hl, h⟩ := h
    have hsub := sub_enumerate
    have hT : Heap.IsTuple (Shared.heap ⟨hp, g, d, tk, os⟩) l its := ⟨_, hl, rfl, n, rfl⟩
    wp_walk using wpAny_loadPart' hl
    refine wpAny_stack_any fun st => wpAny_pure ?_
    split
    · rename_i c _ _ _ _ _
      cases (c == Value.type "enumerate")
      · wp_walk using wpAny_loadPart' hl, wpAny_pyIter_tuple hT
        exact ⟨_, rfl, h⟩
      · wp_walk using wpAny_loadPart' hl, wpAny_pyIter_tuple hT
        exact ⟨_, rfl, h⟩
    · wp_walk using wpAny_loadPart' hl, wpAny_pyIter_tuple hT
      exact ⟨_, rfl, h⟩
theorem call_enumT {prog : Program} {w : World} {A : Around} {E : Value → Shared → Prop} {s : Shared} {l : Addr} {its : Array Value} {Q : Value → Shared → Prop} (hT : s.heap.IsTuple l its)
    (h : ∀ h', IsEnum h' (s.heap.objs.size + 1) s.heap.objs.size 0 .none → h'.IsTupleIter s.heap.objs.size l 0 → h'.objs.size = s.heap.objs.size + 2 →
      (∀ b o, s.heap.get? b = some o → h'.get? b = some o) → Q (.ref (s.heap.objs.size + 1)) { s with heap := h' }) :
    wpAny (model prog w) A (call (.type "enumerate") [.ref l]) Q E s := by
  obtain ⟨⟨c, dc, dt, sl⟩, hl, hc, n, hd⟩ := hT
  replace hc : c = .type "tuple" := hc
  replace hd : dt = .seq its n := hd
  subst hc hd
  refine callType_new F.called_enumerate (by decide) (F.typeCall_enumerate_1 _) (F.newCall_enumerate_1 _) (fun obj => F.args_object_init_2 obj _) F.entry_enumerate_new (enumT_new l its n dc sl) ⟨hl, ?_⟩
  have hz : (s.heap.push { cls := .type "tuple_iterator", data := .fields #[.ref l, .int 0 0] }).objs.size = s.heap.objs.size + 1 := Heap.size_push ..
  show _ ∧ _
  rw [hz]
  have he : IsEnum ((s.heap.push { cls := .type "tuple_iterator", data := .fields #[.ref l, .int 0 0] }).push
      { cls := .type "enumerate", data := .fields #[.none, .bool false, .ref s.heap.objs.size, rawInt 0, .none, .none] }) (s.heap.objs.size + 1) s.heap.objs.size 0 .none := by
    have z := Heap.get?_push_size (s.heap.push { cls := .type "tuple_iterator", data := .fields #[.ref l, .int 0 0] })
      (o := { cls := .type "enumerate", data := .fields #[.none, .bool false, .ref s.heap.objs.size, rawInt 0, .none, .none] }) rfl
    rw [hz] at z; exact z
  refine ⟨⟨_, he, rfl⟩, h _ he ⟨_, Heap.get?_push_of_some _ (Heap.get?_push_size _ rfl), rfl, rfl⟩ (by rw [Heap.size_push, hz]) fun b o x => Heap.get?_push_of_some _ (Heap.get?_push_of_some _ x)⟩
/-- the tuple at a as it stands at each turn, each item in a new pair -/
def IteT (K : PySem.W.Frag) (a : Addr) : It :=
  ⟨fun i H => ∃ (xs : List V) (x : V), SqT K H a xs ∧ xs[i]? = some x, fun i H v H' => ∃ T x, v = .ref T ∧ H T = none ∧ H' = upd H T (.tup [.int (i : Nat), x]) ∧ ∀ xs, SqT K H a xs → xs[i]? = some x, fun i H => ∃ xs : List V, SqT K H a xs ∧ xs.length ≤ i⟩
theorem turn_enumT {P : Program} {w : World} {K : PySem.W.Frag} {elts : List Expr} {kk : Nat} {tpos : Pos} (a e it : Addr) :
    Turn P w K (.Tuple elts kk tpos) (IteT K a) [e, it] e (fun i h => (∃ old, IsEnum h e it ((i : Nat) : Int) old) ∧ h.IsTupleIter it a i ∧ e ≠ it ∧ a ≠ it ∧ a ≠ e) where
  mem := by simp
  obj := fun i h st b hb => by
    obtain ⟨⟨old, he⟩, ⟨o, ho, hc, hd⟩, _⟩ := st
    rcases (by simpa using hb : b = e ∨ b = it) with z | z
    · rw [z]; exact ⟨_, he, fun v q => nomatch q⟩
    · rw [z]; exact ⟨o, ho, fun v q => by rw [hd] at q; cases q⟩
  keep := fun i h h' st k => let ⟨⟨old, he⟩, hi, hne⟩ := st; ⟨⟨old, k e (by simp) _ he⟩, hi.at fun o q => k it (by simp) o q, hne⟩
  item := by
    intro X hP hw hK hc i pins s σ H E I hf st hg
    subst hP hw hK
    obtain ⟨⟨old, he⟩, hit, hne, hai, hae⟩ := st
    obtain ⟨xs, x, hq, hx⟩ := hg
    obtain ⟨its, rv, p, hz⟩ := I.tuple hq
    obtain ⟨u, hu, ru⟩ := rv.get hx
    have hel : e < s.heap.objs.size := Heap.lt_size he
    have hil : it < s.heap.objs.size := by obtain ⟨_, q, _⟩ := hit; exact Heap.lt_size q
    have hh : X.A.in1.handled = none := I.ok.hd hc
    have hlt : i < its.toArray.size := by
      have z := (List.getElem?_eq_some_iff.mp hu).1
      simpa using z
    refine wpAny_pyNext_enum_itemD (Draws.tuple hh it a hai its.toArray) he ⟨hit, p⟩ hlt hne (by simp [hne, Ne.symm hae]) fun y h' tk hP ho hst' hT hsz hk => ?_
    have ey : y = u := by
      have z : its.toArray[i]? = some y := hP
      rw [List.getElem?_toArray, hu] at z
      exact (Option.some.inj z).symm
    subst ey
    refine ⟨_, rfl, wpAny_letOwnedTupleGo_enum (s := { s with heap := h', toks := tk + 1 }) ho fun h'' he' sb => ?_⟩
    have hT2 : h''.get? s.heap.objs.size = some { cls := .type "tuple", data := .seq #[.int i tk, y] } := (sb.2 _ (Nat.ne_of_gt hel)).trans hT
    have new : ObjOk X.prog X.w (upd H s.heap.objs.size (.tup [.int (i : Nat), x])) h'' s.heap.objs.size (.tup [.int (i : Nat), x]) :=
      ⟨by show 2 ≤ sizeLine; decide, [.int i tk, y], .cons ⟨_, rfl⟩ (.cons ru .nil), ⟨_, hT2, rfl, _, rfl⟩⟩
    have I1 : Inv X pins σ (upd H s.heap.objs.size (.tup [.int (i : Nat), x])) { s with heap := h'', toks := tk + 1 } :=
      I.turnedNew (ch := [e, it]) (fun b ob hb q => (sb.2 b (fun z => hb (by simp [z]))).trans (hk b ob (fun z => hb (by simp [z])) (fun z => hb (by simp [z])) q)) hf (Nat.le_refl _) new
    refine ⟨.ref s.heap.objs.size, _, I1, rfl, ⟨_, x, rfl, I.hok.fresh (Nat.le_refl _), rfl, fun ys hy => by rw [I.tuple_inj hy hq]; exact hx⟩, ⟨⟨y, ?_⟩, hst'.1.at fun o q => (sb.2 it (Ne.symm hne)).trans q, hne, hai, hae⟩, fun b hb => ?_⟩
    · have e1 : ((i + 1 : Nat) : Int) = (i : Int) + 1 := by omega
      rw [e1]; exact he'
    · have hb' : b < s.heap.objs.size := by
        rcases (by simpa using hb : b = e ∨ b = it) with z | z
        · rw [z]; exact hel
        · rw [z]; exact hil
      rw [upd_ne (Nat.ne_of_lt hb')]
      exact (hf b hb).1
  done := by
    intro X hP hw hK hc i pins s σ H E I hf st hg
    subst hP hw hK
    obtain ⟨⟨old, he⟩, hit, hne, hai, hae⟩ := st
    obtain ⟨xs, hq, hx⟩ := hg
    obtain ⟨its, rv, p, hz⟩ := I.tuple hq
    obtain ⟨f0, f1, f2, f3, f4, f5⟩ := hf it (by simp)
    have hl := rv.length
    have hh : X.A.in1.handled = none := I.ok.hd hc
    have hT : s.TypeIs (.ref e) "enumerate" := ⟨_, he, rfl⟩
    unfold pyNext
    refine wpAny_bind (wpAny_attempt (wpAny_callSpecial?_slot (name := Str.ofString "__next__") hT F.slot_enumerate_next
      (wpAny_call_entry F.slot_enumerate_next hT F.entry_enumerate_next ?_ (F.args_enumerate_next_1 _))))
    show wpAny _ _ (field (.ref e) 2 >>= _) _ _ _
    refine wpAny_bind (wpAny_field he rfl (x := .ref it) rfl ?_)
    refine wpAny_bind (wpAny_nextOf_tuple_end hh hit p (Array.getElem?_eq_none (by simp; omega)) fun h' x eb hx' => ?_)
    obtain ⟨o, ho, hc⟩ := hx'
    refine wpAny_bind (wpAny_isInstance (T := "StopIteration") (b := true) ⟨o, ho, hc⟩ isSubtype_stop ?_)
    exact wpAny_pure ⟨rfl, I.turned (t' := s.toks) (fun b o hb q => eb b o hb q) f0 f1 f3 f4 f5⟩
  self := fun A i s Q E st h => let ⟨⟨_, he⟩, _⟩ := st; wpAny_pyIter_enum he h
def iEnumA (K : PySem.W.Frag) (ta : TA) : TI := fun σ H R => ta σ H fun vs H1 => ∃ a xs, vs = [.ref a] ∧ ((SqT K H1 a xs ∧ R (IteT K a) H1) ∨ (SqL K H1 a xs ∧ R (Ite K a) H1))
theorem pi_enumA {X : Cx} {e : Expr} {ta : TA} {p pos tpos : Pos} {elts : List Expr} {kk : Nat} (hg : Gl X "enumerate") (hm : X.mg "enumerate" = none) (ha : PA X [e] ta) (hs : starEach [e] X.env = [(false, eval e X.env)] := by rfl) :
    PI X (.Tuple elts kk tpos) (.Call (.Name "enumerate" p) [e] [] pos) (iEnumA X.K ta) := by
  refine ⟨fun pins s σ H R I h => ?_⟩
  refine Call_ (ld_blt I hg hm boot_enumerate (PyProof.Rows.callWith_type1 (thn (ha.run pos pins s σ H _ I h) fun us s1 ⟨vs, H1, I1, r1, q1⟩ => ?_) hs rfl))
  obtain ⟨a, xs, ex, q⟩ := q1
  subst ex
  obtain ⟨u, eu, ru⟩ := vals1 r1
  subst eu
  cases ru
  have two : ∀ b ∈ [s1.heap.objs.size + 1, s1.heap.objs.size], FpOk X pins H1 b := fun b hb => by
    have hle : s1.heap.objs.size ≤ b := by
      rcases (by simpa using hb : b = s1.heap.objs.size + 1 ∨ b = s1.heap.objs.size) with z | z
      · rw [z]; exact Nat.le_add_right _ _
      · rw [z]; exact Nat.le_refl _
    exact I1.fpOk hle (I1.hok.fresh hle)
  rcases q with ⟨hq, q⟩ | ⟨hq, q⟩
  · obtain ⟨its, rv, p', hz⟩ := I1.tuple hq
    have hal : a < s1.heap.objs.size := by obtain ⟨o, ho, _⟩ := p'; exact Heap.lt_size ho
    refine call_enumT p' fun h' he hit hsz hk => wpAny_pyIter_enum he ?_
    have I2 : Inv X pins σ H1 { s1 with heap := h' } := I1.kept (t' := s1.toks) hk
    exact ⟨s1.heap.objs.size + 1, [s1.heap.objs.size + 1, s1.heap.objs.size], _, _, H1, rfl, I2, turn_enumT a (s1.heap.objs.size + 1) s1.heap.objs.size, ⟨⟨.none, he⟩, hit, Nat.succ_ne_self _, Nat.ne_of_lt hal, Nat.ne_of_lt (Nat.lt_succ_of_lt hal)⟩, two, q⟩
  · obtain ⟨its, rv, p', hz⟩ := I1.list hq
    refine call_enumerate_list p'.isList fun h' he hit hsz hk => wpAny_pyIter_enum he ?_
    have I2 : Inv X pins σ H1 { s1 with heap := h' } := I1.kept (t' := s1.toks) hk
    exact ⟨s1.heap.objs.size + 1, [s1.heap.objs.size + 1, s1.heap.objs.size], _, _, H1, rfl, I2, turn_enum a (s1.heap.objs.size + 1) s1.heap.objs.size, ⟨⟨.none, he⟩, hit, Nat.succ_ne_self _⟩, two, q⟩
end

/-! ### for i, x in enumerate(xs) -/
def enumD (xs : List Dat) : List Dat := ((List.range xs.length).zip xs).map fun p => .tup [.int (p.1 : Nat), p.2]
theorem enumD_len (xs : List Dat) : (enumD xs).length = xs.length := by simp [enumD]
theorem enumD_get {xs : List Dat} {i : Nat} {d : Dat} (h : xs[i]? = some d) : (enumD xs)[i]? = some (.tup [.int (i : Nat), d]) := by
  have hl := (List.getElem?_eq_some_iff.mp h).1
  unfold enumD
  rw [List.getElem?_map, Option.map_eq_some_iff]
  exact ⟨(i, d), List.getElem?_zip_eq_some.mpr ⟨by rw [List.getElem?_range hl], h⟩, rfl⟩
def wEnum (w : WE) : WI := fun S Q => w S fun d M => ∃ xs, frOf d = some xs ∧ Q (enumD xs) M
theorem its_enum {K : KF} {M : Mh} {H : Hp} {J : It} {xs : List Dat} {vs : List V} (rx : Reps K M H xs vs)
    (hgo : ∀ F M1 H1, GoF K.fo F M H M1 H1 → ∀ (i : Nat) x, vs[i]? = some x → J.go i H1)
    (hy : ∀ F M1 H1, GoF K.fo F M H M1 H1 → ∀ (i : Nat) v H', J.yld i H1 v H' → ∃ T x, v = .ref T ∧ H1 T = none ∧ H' = upd H1 T (.tup [.int (i : Nat), x]) ∧ vs[i]? = some x)
    (hst : ∀ F M1 H1, GoF K.fo F M H M1 H1 → ∀ i : Nat, vs.length ≤ i → J.stop i H1) : Ity K M H J (enumD xs) where
  go := fun F M1 H1 g _ i hi => by
    rw [enumD_len, rx.length] at hi
    exact hgo F M1 H1 g i vs[i] (by simp)
  yld := fun F M1 H1 g m i hi v H' y => by
    obtain ⟨T, x, e, hT, eH, h1⟩ := hy F M1 H1 g i v H' y
    subst e; subst eH
    obtain ⟨d1, e1, r1⟩ := rx.get' h1
    exact ⟨.tup [.int (i : Nat), d1], enumD_get e1, .fresh hT, m.fresh hT, .tup (.inl ⟨m.free hT, m.nfo hT, .inl upd_same⟩) (.cons (.int _) (.cons ((r1.move g).go (.fresh hT)) .nil))⟩
  stop := fun F M1 H1 g _ => hst F M1 H1 g _ (by rw [enumD_len, rx.length]; exact Nat.le_refl _)
theorem di_enum {X : Cx} {e : Expr} {wa : WE} {p pos tpos : Pos} {elts : List Expr} {kk : Nat} (hg : Gl X "enumerate") (hm : X.mg "enumerate" = none) (ha : DE X e wa) (hs : starEach [e] X.env = (false, eval e X.env) :: starEach [] X.env := by rfl) :
    DI X (.Tuple elts kk tpos) (.Call (.Name "enumerate" p) [e] [] pos) (wEnum wa) :=
  piWeak (pi_enumA hg hm (pa_cons ha pa_nil hs) hs) fun σ H R ⟨Fo, S, Q, rs, h, k⟩ => ⟨Fo, S, _, rs, h, fun v H' d M' g m r ⟨xs, hd, q⟩ => by
    cases r with
    | tup f rr => cases hd; exact ⟨_, _, rfl, .inl ⟨f.sq, k _ _ _ _ g m (its_enum rr (fun F M1 H1 g i x h1 => ⟨_, x, (f.move g).sq, h1⟩) (fun F M1 H1 g i v H' ⟨T, x, e, hT, eH, h1⟩ => ⟨T, x, e, hT, eH, h1 _ (f.move g).sq⟩) (fun F M1 H1 g i h => ⟨_, (f.move g).sq, h⟩)) q⟩⟩
    | fl f rr => cases hd; exact ⟨_, _, rfl, .inr ⟨f.sq, k _ _ _ _ g m (its_enum rr (fun F M1 H1 g i x h1 => ⟨_, x, (f.move g).sq, h1⟩) (fun F M1 H1 g i v H' ⟨T, x, e, hT, eH, h1⟩ => ⟨T, x, e, hT, eH, h1 _ (f.move g).sq⟩) (fun F M1 H1 g i h => ⟨_, (f.move g).sq, h⟩)) q⟩⟩
    | rd f rr => cases hd; exact ⟨_, _, rfl, .inr ⟨f.sq, k _ _ _ _ g m (its_enum rr (fun F M1 H1 g i x h1 => ⟨_, x, (f.move g).sq, h1⟩) (fun F M1 H1 g i v H' ⟨T, x, e, hT, eH, h1⟩ => ⟨T, x, e, hT, eH, h1 _ (f.move g).sq⟩) (fun F M1 H1 g i h => ⟨_, (f.move g).sq, h⟩)) q⟩⟩
    | _ => cases hd⟩
end Lk

/-! LkSetN: set(..) of a list, of a tuple of keys. -/
namespace Lk
open PySem PySem.Spec PyProof.Rows
open L2 (Key keyIs keyH mixKind kV V kV_is code_set_led1)
def addKs (ks more : List Key) : List Key := more.foldl addK ks
theorem addK_len (ks : List Key) (k : Key) : (addK ks k).length ≤ ks.length + 1 := by
  unfold addK
  split <;> simp
theorem setL_new_at {w : World} {h : Heap} {a : Addr} (ho : h.get? a = some { cls := .type "set", dict := none, data := .set #[] 0 (.fresh 0 0 (!w.params.followText "set-order")) }) : SetL w h a [] :=
  ⟨_, #[], 0, _, ho, ⟨rfl, rfl, rfl⟩, rfl, (fun e he => by simp at he), List.nodup_nil, .nil, by decide, by rfl, List.Pairwise.nil, by
    show _ ∨ (!w.params.followText "set-order") = true
    cases w.params.followText "set-order" <;> simp⟩
section
variable {P : Program} {w : World} {A : Around} {E : Value → Shared → Prop} {s : Shared}
theorem setL_update {I : Addr} {fp wr : List Addr} {G : Array GenState → Array GenState → Prop} {n : Nat} {Pv : Nat → Value → Prop} {St : Nat → Shared → Prop} {R : Result → Shared → Prop}
    (Wk : WalksS P w A.in1 I fp wr G n Pv St) (S : Addr) (hSn : S ∉ fp) (ks : List Key) (hn : n = ks.length) (hb : ks.length + 1 < scanBound) (hval : ∀ i v, Pv i v → ∃ k, ks[i]? = some k ∧ keyIs k v = true) :
    ∀ (k i : Nat) (s : Shared), n - i = k → i ≤ n → St i s → (SetL w s.heap S (addKs [] (ks.take i)) ∧ (addKs [] (ks.take i)).length ≤ i) →
      (∀ sq, Moved (S :: wr) G s sq → SetL w sq.heap S (addKs [] ks) → R (.ok (.ret .none)) sq) →
      codeAny (model P w) A (.builtin "set.update.loop" ⟨[.ref S, .ref I], []⟩) R s := by
  have hSw : S ∉ wr := fun h => hSn (Wk.sub _ h)
  have hsb0 : ∀ b ∈ wr, b ∈ S :: wr := fun b hb => List.mem_cons_of_mem _ hb
  intro k
  induction k with
  | zero =>
    intro i s hk' hi hst ⟨hS, hc⟩ hR
    have hin : i = n := by omega
    subst hin
    refine codeAny_builtin F.entry_set_update_loop ?_
    rw [Around.under_plainId F.plain_set_update_loop _]
    show wpAny _ A.in1 (pyNext (.ref I) >>= _) _ _ s
    refine wpAny_bind (Wk.done s _ _ hst fun sq hm => ?_)
    show wpAny _ A.in1 (ret Value.none) _ _ sq
    have e : ks.take i = ks := List.take_of_length_le (by omega)
    rw [e] at hS
    exact wpAny_pure (hR sq (hm.mono hsb0) (hS.at fun o e => hm.heap S o hSw e))
  | succ k ih =>
    intro i s hk' hi hst ⟨hS, hc⟩ hR
    have hlt : i < n := by omega
    refine codeAny_builtin F.entry_set_update_loop ?_
    rw [Around.under_plainId F.plain_set_update_loop _]
    show wpAny _ A.in1 (pyNext (.ref I) >>= _) _ _ s
    refine wpAny_bind (Wk.item i s _ _ hlt hst fun v sq hP hst' hm => ?_)
    obtain ⟨z, hz, hzv⟩ := hval i v hP
    have hS' : SetL w sq.heap S (addKs [] (ks.take i)) := hS.at fun o e => hm.heap S o hSw e
    show wpAny _ A.in1 (holding [v] (setAdd S v) >>= _) _ _ sq
    refine wpAny_bind (wpAny_holding ?_)
    unfold setAdd
    refine wpAny_holding ?_
    refine wpAny_bind ((mixKind P w).pyHash (k := z) hzv ?_)
    refine setL_hashed (s := { sq with toks := sq.toks + 1 }) hzv hS' (by omega) fun hq hsb hS2 => ?_
    have e3 : addKs [] (ks.take (i + 1)) = addK (addKs [] (ks.take i)) z := by
      rw [List.take_add_one, hz]
      simp [addKs, List.foldl_append]
    have hS3 : SetL w hq S (addKs [] (ks.take (i + 1))) := by rw [e3]; exact hS2
    have hc3 : (addKs [] (ks.take (i + 1))).length ≤ i + 1 := by
      rw [e3]
      exact Nat.le_trans (addK_len _ _) (Nat.succ_le_succ hc)
    refine wpAny_pure ⟨plainId_quiet F.plain_set_update_loop _, ih (i + 1) _ (by omega) hlt (Wk.frame _ sq _ _ hst' (Nat.le_succ _) fun b hb o e => ?_) ⟨hS3, hc3⟩ fun sr hm'' hS'' => ?_⟩
    · rw [hsb.2 b (fun h : b = S => hSn (by rw [← h]; exact hb))]; exact e
    · refine hR sr (Moved.trans Wk.gtrans ((hm.mono hsb0).then_heap (Nat.le_succ _) fun b o hb e => ?_) hm'') hS''
      rw [hsb.2 b (fun h : b = S => hb (by rw [h]; exact List.mem_cons_self))]; exact e

theorem call_set_lstK {l : Addr} {its : Array Value} (ks : List Key) {Q : Value → Shared → Prop} (hh : A.handled = none) (hl : s.heap.IsList l its) (hit : L2.Vals (ks.map kV) its.toList) (hb : ks.length + 1 < scanBound)
    (h : ∀ (hq : Heap) (tk : Nat), SetL w hq s.heap.objs.size (addKs [] ks) → (∀ b o, s.heap.get? b = some o → hq.get? b = some o) → Q (.ref s.heap.objs.size) { s with heap := hq, toks := tk }) :
    wpAny (model P w) A (call (.type "set") [.ref l]) Q E s := by
  have hisz : its.size = ks.length := by
    have q := L2.Vals.length hit
    simpa using q.symm
  obtain ⟨c, tl, hmr⟩ := F.called_set.mro
  have hmd := F.called_set.made
  have hsb0 := F.called_set.sub
  refine wpAny_call (codeAny_of_tree ?_)
  show wpAny _ _ (callAny (.type "set") _) _ _ _
  refine wpAny_pure ⟨Code.quiet_builtin _ (by decide +kernel), codeAny_builtin F.entry_type_call ?_⟩
  rw [Around.under_plain (weight_type_call_type "set" [.ref l] []) rfl]
  have h1 := F.called_set.notType
  have h2 := F.called_set.canCreate
  have hcc := F.typeCall_set_1 (.ref l)
  repeat (any_goals (first | assumption | wp_step))

  refine codeAny_mono (code_set_led1 (.ref l) (E := E) (Q₁ := fun obj z₁ => obj = .ref s.heap.objs.size ∧ z₁ = { s with heap := s.heap.push { cls := .type "set", dict := none, data := .set #[] 0 (.fresh 0 0 (!w.params.followText "set-order")) } }) ⟨rfl, rfl⟩) fun r z₁ hr => ?_
  cases r with
  | error e => exact hr
  | ok fl =>
    cases fl with
    | ret obj =>
      obtain ⟨rfl, rfl⟩ := hr
      have hS : (s.heap.push { cls := .type "set", dict := none, data := .set #[] 0 (.fresh 0 0 (!w.params.followText "set-order")) }).get? s.heap.objs.size = some { cls := .type "set", dict := none, data := .set #[] 0 (.fresh 0 0 (!w.params.followText "set-order")) } := Heap.get?_push_size _ rfl
      have hT : Shared.TypeIs { s with heap := s.heap.push { cls := .type "set", dict := none, data := .set #[] 0 (.fresh 0 0 (!w.params.followText "set-order")) } } (.ref s.heap.objs.size) "set" := ⟨_, hS, rfl⟩
      have hl0 := F.called_set.init.lookup
      have hbi := F.called_set.init.bind (.ref s.heap.objs.size)
      repeat (any_goals (first | assumption | wp_step))

      refine codeAny_mono (codeAny_call_builtin (R := wants (fun r z₂ => r = .none ∧ ∃ hq tk, z₂ = { s with heap := hq, toks := tk } ∧ SetL w hq s.heap.objs.size (addKs [] ks) ∧
          (∀ b o, s.heap.get? b = some o → hq.get? b = some o)) E) F.called_set.init.plain F.entry_set_init (check_set_init_1 hT ?_)) fun x₂ z₂ hx₂ => ?_
      · obtain ⟨ol, hol, hcl, nl, hdl⟩ := hl
        obtain ⟨ocls, odict, odata, oslots⟩ := ol
        simp only at hcl hdl
        subst hcl; subst hdl
        have hol' : (s.heap.push { cls := .type "set", dict := none, data := .set #[] 0 (.fresh 0 0 (!w.params.followText "set-order")) }).get? l = some { cls := .type "list", dict := odict, data := .seq its nl, slots := oslots } := Heap.get?_push_of_some _ hol
        have hs1 := F.sub_list_set
        have hs2 := F.sub_list_frozenset
        have hne : (Value.type "list" == Value.type "dict") = false := by decide
        have hl1 : (s.heap.push { cls := .type "set", dict := none, data := .set #[] 0 (.fresh 0 0 (!w.params.followText "set-order")) }).IsList l its := ⟨_, hol', rfl, nl, rfl⟩
        unfold Builtin.«set.__init__» noKeywords Builtin.Frozenset.updateFrom
        generalize hPI : pyIter = PI
        wp_walk
        subst hPI

        refine wpAny_pyIter_list hl1 ?_
        refine wpAny_bind (wpAny_runValue ?_)
        have hl9 : l < s.heap.objs.size := Heap.lt_size hol
        have hh3 : A.in1.in1.in1.handled = none := by simp [hh]
        have hz1 : (s.heap.push { cls := .type "set", dict := none, data := .set #[] 0 (.fresh 0 0 (!w.params.followText "set-order")) }).objs.size = s.heap.objs.size + 1 := Heap.size_push ..
        have hnI : l ≠ (s.heap.push { cls := .type "set", dict := none, data := .set #[] 0 (.fresh 0 0 (!w.params.followText "set-order")) }).objs.size := by
          rw [Heap.size_push]; exact Nat.ne_of_lt (Nat.lt_succ_of_lt hl9)
        have hSn : s.heap.objs.size ∉ [(s.heap.push { cls := .type "set", dict := none, data := .set #[] 0 (.fresh 0 0 (!w.params.followText "set-order")) }).objs.size, l] := by
          rw [Heap.size_push]; simp only [List.mem_cons, List.mem_singleton, List.not_mem_nil, or_false, not_or]
          exact ⟨Nat.ne_of_lt (Nat.lt_succ_self _), Nat.ne_of_gt hl9⟩
        have hval : ∀ (i : Nat) (v : Value), its[i]? = some v → ∃ k, ks[i]? = some k ∧ keyIs k v = true := fun i v hv => by
          have hi : i < ks.length := by rw [← hisz]; exact (Array.getElem?_eq_some_iff.mp hv).1
          obtain ⟨u, e1, e2⟩ := L2.Vals.get (i := i) (x := kV ks[i]) hit (by rw [List.getElem?_map, List.getElem?_eq_getElem hi]; rfl)
          rw [Array.getElem?_toList, hv] at e1
          cases e1
          exact ⟨ks[i], List.getElem?_eq_getElem hi, kV_is (P := P) (w := w) e2⟩
        refine setL_update ((Walks.list hh3 _ l hnI its).toS) s.heap.objs.size
          hSn ks hisz hb hval (its.size - 0) 0 _ (by omega) (Nat.zero_le _)
          ⟨⟨_, Heap.get?_push_size _ rfl, rfl, rfl⟩, (hl1.push _)⟩ ?hS0 ?hR
        case hS0 =>
          have hget : ((s.heap.push { cls := .type "set", dict := none, data := .set #[] 0 (.fresh 0 0 (!w.params.followText "set-order")) }).push { cls := .type "list_iterator", data := .fields #[.ref l, .int 0 0] }).get? s.heap.objs.size
              = some { cls := .type "set", dict := none, data := .set #[] 0 (.fresh 0 0 (!w.params.followText "set-order")) } := Heap.get?_push_of_some _ hS
          exact ⟨setL_new_at hget, Nat.le_refl 0⟩
        case hR =>
          intro sq hm hS'
          obtain ⟨hq, g2, d', tk', os'⟩ := sq
          have eg : g2 = s.gens := hm.gens
          have ed : d' = s.drawn := hm.drawn
          have eo : os' = s.os := hm.os
          subst eg; subst ed; subst eo
          show wpAny _ _ _ _ _ _
          refine wpAny_pure ?_
          show wpAny _ _ (ret Value.none) _ _ _
          refine wpAny_pure ⟨rfl, hq, tk', rfl, hS', fun b o e => ?_⟩
          have hb0 : b < s.heap.objs.size := Heap.lt_size e
          have hb1 : b ≠ s.heap.objs.size := Nat.ne_of_lt hb0
          have hb2 : b ≠ (s.heap.push { cls := .type "set", dict := none, data := .set #[] 0 (.fresh 0 0 (!w.params.followText "set-order")) }).objs.size := by
            rw [Heap.size_push]; exact Nat.ne_of_lt (Nat.lt_succ_of_lt hb0)
          exact hm.heap b o (by simp only [List.mem_cons, List.mem_singleton, List.not_mem_nil, or_false, not_or]; exact ⟨hb1, hb2⟩) (Heap.get?_push_of_some _ (Heap.get?_push_of_some _ e))

      · cases x₂ with
        | error e => exact hx₂
        | ok fl₂ =>
          cases fl₂ with
          | ret r =>
            obtain ⟨rfl, hq, tk, rfl, hS', hk'⟩ := hx₂
            repeat (any_goals (first | assumption | wp_step))
            exact h _ _ hS' hk'
          | _ => exact hx₂.elim
    | _ => exact hr.elim

end
end Lk

/-! LkSetM: set(xs) over data. -/
namespace Lk
open PySem PySem.Spec L2
def keysOf : List Dat → Option (List Key)
  | [] => some []
  | x :: xs => match keyOf x, keysOf xs with
    | some p, some ps => some (p :: ps)
    | _, _ => none
theorem keysOf_rep {K : KF} {M : Mh} {H : Hp} : ∀ {xs : List Dat} {vs : List V} {ks : List Key}, Reps K M H xs vs → keysOf xs = some ks → vs = ks.map kV
  | _, _, ks, .nil, e => by cases e; rfl
  | x :: xs, v :: vs, ks, .cons r rr, e => by
    unfold keysOf at e
    split at e
    · rename_i p ps e1 e2
      cases e
      rw [List.map_cons, keyOf_rep r e1, keysOf_rep rr e2]
    · cases e
def fSetOf (w : World) (x : Dat) (M : Mh) (Q : MO → Mh → Prop) : Prop := ∃ xs ks, lstOf M x = some xs ∧ keysOf xs = some ks ∧ ks.length + 1 < scanBound ∧ Q (.set w (addKs [] ks)) M
section
variable {X : Cx}
theorem c_set (hc : X.calm = true) : CallR X (.type "set") (rD1N X (fSetOf X.w)) := by
  intro pins s σ H vs us Q I r ⟨Fo, M, d, v, Qd, e, m, rd, ⟨xs, ks, h1, h2, h3, q⟩, k⟩
  subst e
  obtain ⟨u, eu, ru⟩ := vals1 r
  subst eu
  obtain ⟨a, ws, rfl, hs, rr⟩ := lstOf_sq m rd h1
  cases ru
  have ew := keysOf_rep rr h2
  subst ew
  obtain ⟨its, rv, pl, hz⟩ := I.list hs
  refine call_set_lstK ks (I.ok.hd hc) pl.isList (by simpa using rv) h3 fun h' tk hS hk => ?_
  have hp : H s.heap.objs.size = none := I.hok.fresh (Nat.le_refl _)
  exact ⟨.ref s.heap.objs.size, upd H s.heap.objs.size (SetMO X.w s.heap.objs.size (addKs [] ks)), I.laid (t' := tk) hk (Nat.le_refl _) (setMO_new hS), rfl, k _ _ (.set X.w (addKs [] ks)) M (.new hp) (m.free hp) (m.new hp upd_same) q⟩
theorem dn_set {w : World} {e : Expr} {es : List Expr} {ws : WA} {pos p : Pos} {n : Nat} (hc : X.calm = true) (hg : Gl X "set") (hm : X.mg "set" = none) (ha : DA X (e :: es) n ws) (he : starEach (e :: es) X.env = (false, eval e X.env) :: starEach es X.env := by rfl) (hpl : (backTo pos (starEach es X.env)).any (·.1) = false := by rfl) (hw : X.w = w := by rfl) : DN X (.Call (.Name "set" p) (e :: es) [] pos) (wBltN (f1N (fSetOf w)) ws) :=
  hw ▸ dn_bty (c_set hc) ok_rD1N hg hm (by decide +kernel) ha (by decide) (by decide) he hpl
end
end Lk

/-! LkZip0: a zip of two tuples whose pair is still out. -/
namespace Lk
open PySem PySem.Spec PyProof.Rows
section
variable {prog : Program} {w : World} {A : Around} {E : Value → Shared → Prop} {s : Shared}
theorem zipH_item {z TI TO T i1 i2 l1 l2 : Addr} {f : Bool} {oT : Obj} {k1 k2 : Nat} {xs ys : Array Value} {x y : Value} {Q : Value → Shared → Prop} (D : ZipApart z TI TO i1 i2 l1 l2)
    (hzz : IsZipHeld s.heap z TI TO T f) (hto : s.heap.get? T = some oT) (hti : IsPair s.heap TI (.ref i1) (.ref i2))
    (h1 : s.heap.IsTupleIter i1 l1 k1) (h2 : s.heap.IsTupleIter i2 l2 k2) (hk1 : s.heap.IsTuple l1 xs) (hk2 : s.heap.IsTuple l2 ys) (hx : xs[k1]? = some x) (hy : ys[k2]? = some y)
    (hQ : ∀ hq, IsZipHeld hq z TI TO T true → hq.IsTupleIter i1 l1 (k1 + 1) → hq.IsTupleIter i2 l2 (k2 + 1) → IsPair hq s.heap.objs.size x y → hq.objs.size = s.heap.objs.size + 1 →
      (∀ c o, c ≠ z → c ≠ i1 → c ≠ i2 → s.heap.get? c = some o → hq.get? c = some o) → Q (.ref s.heap.objs.size) { s with heap := hq }) :
    wpAny (model prog w) A (Builtin.«zip.__next__» ⟨[.ref z], []⟩) (fun fin s' => ∃ v, fin = .done (.ret v) ∧ Q v s') E s := by
  show wpAny _ _ (field (.ref z) 2 >>= _) _ _ _
  refine wpAny_bind (wpAny_field hzz rfl (x := .bool false) rfl ?_)
  show wpAny _ _ (field (.ref z) 3 >>= _) _ _ _
  refine wpAny_bind (wpAny_field hzz rfl (x := .ref TI) rfl ?_)
  refine wpAny_bind (wpAny_seqItems hti rfl ?_)
  show wpAny _ _ (Builtin.SmallTypes.ownedTupleIsFree (.ref z) >>= _) _ _ _
  refine wpAny_bind (wpAny_tupleHeld_zip hzz hto fun g₁ hy₁ hu₁ => ?_)
  simp only [Bool.false_eq_true, if_false]
  refine wpAny_bind ?_
  rw [← Array.forIn_toList]
  simp only [List.forIn_cons, List.forIn_nil]
  refine wpAny_bind (wpAny_bind (wpAny_holding ?_))
  show wpAny _ _ (Builtin.SmallTypes.nextOf (.ref i1) >>= _) _ _ _
  refine wpAny_bind (wpAny_nextOf_tuple_item (s := { s with heap := g₁ }) (h1.extBut hu₁.extBut D.i1z) (hk1.extBut hu₁.extBut D.l1z) hx fun g₂ h1₂ hu₂ => wpAny_pure ?_)
  refine wpAny_pure ?_
  refine wpAny_bind (wpAny_bind (wpAny_holding ?_))
  show wpAny _ _ (Builtin.SmallTypes.nextOf (.ref i2) >>= _) _ _ _
  refine wpAny_bind (wpAny_nextOf_tuple_item (s := { s with heap := g₂ }) ((h2.extBut hu₁.extBut D.i2z).extBut hu₂.extBut D.i12.symm) ((hk2.extBut hu₁.extBut D.l2z).extBut hu₂.extBut D.l2i1) hy fun g₃ h2₃ hu₃ => wpAny_pure ?_)
  refine wpAny_pure (wpAny_pure ?_)
  show wpAny _ _ (newTuple [x, y] >>= _) _ _ _
  refine wpAny_bind (wpAny_newTuple ?_)
  have hsz : g₃.objs.size = s.heap.objs.size := by rw [hu₃.1, hu₂.1, hu₁.1]
  have hy₃ : IsZipHeld g₃ z TI TO T true := hu₃.extBut _ _ D.i2z.symm (hu₂.extBut _ _ D.i1z.symm hy₁)
  have hk : ∀ c o, c ≠ z → c ≠ i1 → c ≠ i2 → s.heap.get? c = some o → g₃.get? c = some o := fun c o c1 c2 c3 e => hu₃.extBut _ _ c3 (hu₂.extBut _ _ c2 (hu₁.extBut _ _ c1 e))
  have h1₃ : g₃.IsTupleIter i1 l1 (k1 + 1) := h1₂.extBut hu₃.extBut D.i12
  refine wpAny_pure ⟨_, rfl, ?_⟩
  show Q (.ref g₃.objs.size) _
  have hp : IsPair (g₃.push { cls := .type "tuple", data := .seq #[x, y] }) g₃.objs.size x y := Heap.get?_push_size _ rfl
  have hz4 : (g₃.push { cls := .type "tuple", data := .seq #[x, y] }).objs.size = g₃.objs.size + 1 := Heap.size_push ..
  rw [hsz] at hp hz4 ⊢
  exact hQ _ (Heap.get?_push_of_some _ hy₃) (h1₃.at fun o e => Heap.get?_push_of_some _ e) (h2₃.at fun o e => Heap.get?_push_of_some _ e) hp hz4 fun c o c1 c2 c3 e => Heap.get?_push_of_some _ (hk c o c1 c2 c3 e)

theorem zipH_end {z TI TO T i1 i2 l1 l2 : Addr} {f : Bool} {oT : Obj} {k1 k2 : Nat} {xs ys : Array Value} {Q : PySem.Fin → Shared → Prop} (hh : A.handled = none) (D : ZipApart z TI TO i1 i2 l1 l2)
    (hzz : IsZipHeld s.heap z TI TO T f) (hto : s.heap.get? T = some oT) (hti : IsPair s.heap TI (.ref i1) (.ref i2))
    (h1 : s.heap.IsTupleIter i1 l1 k1) (h2 : s.heap.IsTupleIter i2 l2 k2) (hk1 : s.heap.IsTuple l1 xs) (hk2 : s.heap.IsTuple l2 ys) (hend : xs[k1]? = none ∨ ys[k2]? = none)
    (hE : ∀ hq e, (∀ c o, c ≠ z → c ≠ i1 → c ≠ i2 → s.heap.get? c = some o → hq.get? c = some o) → (∃ o, hq.get? e = some o ∧ o.cls = .type "StopIteration") → E (.ref e) { s with heap := hq }) :
    wpAny (model prog w) A (Builtin.«zip.__next__» ⟨[.ref z], []⟩) Q E s := by
  show wpAny _ _ (field (.ref z) 2 >>= _) _ _ _
  refine wpAny_bind (wpAny_field hzz rfl (x := .bool false) rfl ?_)
  show wpAny _ _ (field (.ref z) 3 >>= _) _ _ _
  refine wpAny_bind (wpAny_field hzz rfl (x := .ref TI) rfl ?_)
  refine wpAny_bind (wpAny_seqItems hti rfl ?_)
  show wpAny _ _ (Builtin.SmallTypes.ownedTupleIsFree (.ref z) >>= _) _ _ _
  refine wpAny_bind (wpAny_tupleHeld_zip hzz hto fun g₁ hy₁ hu₁ => ?_)
  simp only [Bool.false_eq_true, if_false]
  refine wpAny_bind ?_
  rw [← Array.forIn_toList]
  simp only [List.forIn_cons, List.forIn_nil]
  refine wpAny_bind (wpAny_bind (wpAny_holding ?_))
  show wpAny _ _ (Builtin.SmallTypes.nextOf (.ref i1) >>= _) _ _ _
  cases hx : xs[k1]? with
  | none =>
    refine wpAny_bind (wpAny_nextOf_tuple_end (s := { s with heap := g₁ }) hh (h1.extBut hu₁.extBut D.i1z) (hk1.extBut hu₁.extBut D.l1z) hx fun g₂ e hu₂ he => ?_)
    exact hE g₂ e (fun c o c1 c2 _ x => hu₂ _ _ c2 (hu₁.extBut _ _ c1 x)) he
  | some x =>
    have hy : ys[k2]? = none := by rcases hend with h | h; rw [hx] at h; cases h; exact h
    refine wpAny_bind (wpAny_nextOf_tuple_item (s := { s with heap := g₁ }) (h1.extBut hu₁.extBut D.i1z) (hk1.extBut hu₁.extBut D.l1z) hx fun g₂ h1₂ hu₂ => wpAny_pure ?_)
    refine wpAny_pure ?_
    refine wpAny_bind (wpAny_bind (wpAny_holding ?_))
    show wpAny _ _ (Builtin.SmallTypes.nextOf (.ref i2) >>= _) _ _ _
    refine wpAny_bind (wpAny_nextOf_tuple_end (s := { s with heap := g₂ }) hh ((h2.extBut hu₁.extBut D.i2z).extBut hu₂.extBut D.i12.symm) ((hk2.extBut hu₁.extBut D.l2z).extBut hu₂.extBut D.l2i1) hy fun g₃ e hu₃ he => ?_)
    exact hE g₃ e (fun c o c1 c2 c3 x => hu₃ _ _ c3 (hu₂.extBut _ _ c2 (hu₁.extBut _ _ c1 x))) he

theorem nextH_item {z TI TO T i1 i2 l1 l2 : Addr} {f : Bool} {oT : Obj} {k1 k2 : Nat} {xs ys : Array Value} {x y : Value} {Q : Option Value → Shared → Prop} (D : ZipApart z TI TO i1 i2 l1 l2)
    (hzz : IsZipHeld s.heap z TI TO T f) (hto : s.heap.get? T = some oT) (hti : IsPair s.heap TI (.ref i1) (.ref i2))
    (h1 : s.heap.IsTupleIter i1 l1 k1) (h2 : s.heap.IsTupleIter i2 l2 k2) (hk1 : s.heap.IsTuple l1 xs) (hk2 : s.heap.IsTuple l2 ys) (hx : xs[k1]? = some x) (hy : ys[k2]? = some y)
    (hQ : ∀ hq, IsZipHeld hq z TI TO T true → hq.IsTupleIter i1 l1 (k1 + 1) → hq.IsTupleIter i2 l2 (k2 + 1) → IsPair hq s.heap.objs.size x y → hq.objs.size = s.heap.objs.size + 1 →
      (∀ c o, c ≠ z → c ≠ i1 → c ≠ i2 → s.heap.get? c = some o → hq.get? c = some o) → Q (some (.ref s.heap.objs.size)) { s with heap := hq }) :
    wpAny (model prog w) A (pyNext (.ref z)) Q E s := by
  have hty : s.TypeIs (.ref z) "zip" := ⟨_, hzz, rfl⟩
  unfold pyNext
  exact wpAny_bind (wpAny_attempt (wpAny_callSpecial?_slot (name := Str.ofString "__next__") hty F.slot_zip_next
    (wpAny_call_entry F.slot_zip_next hty F.entry_zip_next
      (zipH_item D hzz hto hti h1 h2 hk1 hk2 hx hy fun hq a1 a3 a4 a5 a6 a7 => wpAny_pure (hQ hq a1 a3 a4 a5 a6 a7)) (F.args_zip_next_1 _))))
theorem nextH_end {z TI TO T i1 i2 l1 l2 : Addr} {f : Bool} {oT : Obj} {k1 k2 : Nat} {xs ys : Array Value} {Q : Option Value → Shared → Prop} (hh : A.handled = none) (D : ZipApart z TI TO i1 i2 l1 l2)
    (hzz : IsZipHeld s.heap z TI TO T f) (hto : s.heap.get? T = some oT) (hti : IsPair s.heap TI (.ref i1) (.ref i2))
    (h1 : s.heap.IsTupleIter i1 l1 k1) (h2 : s.heap.IsTupleIter i2 l2 k2) (hk1 : s.heap.IsTuple l1 xs) (hk2 : s.heap.IsTuple l2 ys) (hend : xs[k1]? = none ∨ ys[k2]? = none)
    (hQ : ∀ hq, (∀ c o, c ≠ z → c ≠ i1 → c ≠ i2 → s.heap.get? c = some o → hq.get? c = some o) → Q none { s with heap := hq }) : wpAny (model prog w) A (pyNext (.ref z)) Q E s := by
  have hty : s.TypeIs (.ref z) "zip" := ⟨_, hzz, rfl⟩
  unfold pyNext
  refine wpAny_bind (wpAny_attempt (wpAny_callSpecial?_slot (name := Str.ofString "__next__") hty F.slot_zip_next
    (wpAny_call_entry F.slot_zip_next hty F.entry_zip_next (zipH_end hh D hzz hto hti h1 h2 hk1 hk2 hend fun hq e hk he => ?_) (F.args_zip_next_1 _))))
  obtain ⟨o, ho, hc⟩ := he
  refine wpAny_bind (wpAny_isInstance (T := "StopIteration") (b := true) ⟨o, ho, hc⟩ isSubtype_stop ?_)
  exact wpAny_pure (hQ _ hk)

end
end Lk

/-! LkZip: tuple(zip(a, b)) of two tuples. -/
namespace Lk
open PySem PySem.Spec L2

theorem nolen_zip : typeLookup (.type "zip") "__len__" = pure none := by rw [typeLookup_type, builtinLookup_eq_fast]; kernel_rfl
theorem nohint_zip : typeLookup (.type "zip") "__length_hint__" = pure none := by rw [typeLookup_type, builtinLookup_eq_fast]; kernel_rfl
/-- where the zip stands behind i pairs -/
def ZipAt (h : Heap) (z TI TO i1 i2 a b i : Nat) : Prop := ((IsZip h z TI TO .none ∧ ∃ x y, IsPair h TO x y) ∨ ∃ T f oT, IsZipHeld h z TI TO T f ∧ h.get? T = some oT) ∧ IsPair h TI (.ref i1) (.ref i2) ∧ h.IsTupleIter i1 a i ∧ h.IsTupleIter i2 b i
section
variable {X : Cx} {pins : List (Addr × Obj)} {σ : L2.St} {z TI TO i1 i2 a b S : Addr}
theorem ZipAt.keep {h h' : Heap} {i : Nat} (x : ZipAt h z TI TO i1 i2 a b i) (k : ∀ c o, c ≠ S → h.get? c = some o → h'.get? c = some o) (hS : S ∉ [z, TI, TO, i1, i2]) (hT : ∀ T f, IsZipHeld h z TI TO T f → T ≠ S) : ZipAt h' z TI TO i1 i2 a b i := by
  simp only [List.mem_cons, List.not_mem_nil, or_false, not_or] at hS
  obtain ⟨s1, s2, s3, s4, s5⟩ := hS
  obtain ⟨x0, x1, x2, x3⟩ := x
  refine ⟨?_, k _ _ (Ne.symm s2) x1, x2.at fun o q => k _ o (Ne.symm s4) q, x3.at fun o q => k _ o (Ne.symm s5) q⟩
  rcases x0 with ⟨y0, u, v, y1⟩ | ⟨T, f, oT, y0, y1⟩
  · exact .inl ⟨k _ _ (Ne.symm s1) y0, u, v, k _ _ (Ne.symm s3) y1⟩
  · exact .inr ⟨T, f, oT, k _ _ (Ne.symm s1) y0, k _ _ (hT T f y0) y1⟩
open PyProof.Rows in
theorem zip_loop (D : ZipApart z TI TO i1 i2 a b) {Fo : Addr → Prop} {M : Mh} {H0 : Hp} {xs ys : List Dat} {vs ws : List V} {N : Nat} (hS : S ∉ [z, TI, TO, i1, i2]) (hN : ∀ c ∈ [z, TI, TO, i1, i2, S], c < N) (hSa : S ≠ a ∧ S ≠ b) {A : Around} (hh : A.handled = none) (hz : xs.length ≤ sizeLine)
    {its its2 : List Value} {R : Result → Shared → Prop} {res : Value} (rx : Reps ⟨X.K, Fo⟩ M H0 xs vs) (ry : Reps ⟨X.K, Fo⟩ M H0 ys ws) (rvx : Vals vs its) (rvy : Vals ws its2)
    (hR : ∀ s' H acc c ts, Inv X pins σ H s' → Go M H0 M H → RelM ⟨X.K, Fo⟩ M H → s'.heap.get? S = some { cls := .type "list", dict := none, data := .seq acc c, slots := #[] } → Reps ⟨X.K, Fo⟩ M H (pairsD xs ys) ts → Vals ts acc.toList → R (.ok (.ret res)) s') :
    ∀ (k i : Nat) (s : Shared) (H : Hp) (acc : Array Value) (c : Nat) (ts : List V), min xs.length ys.length - i = k → i ≤ min xs.length ys.length → Inv X pins σ H s → Go M H0 M H → RelM ⟨X.K, Fo⟩ M H → (∀ c ∈ [z, TI, TO, i1, i2, S], FpOk X pins H c) → N ≤ s.heap.objs.size →
      ZipAt s.heap z TI TO i1 i2 a b i → (∀ T f, IsZipHeld s.heap z TI TO T f → N ≤ T) → s.heap.IsTuple a its.toArray → s.heap.IsTuple b its2.toArray →
      s.heap.get? S = some { cls := .type "list", dict := none, data := .seq acc c, slots := #[] } → Reps ⟨X.K, Fo⟩ M H ((pairsD xs ys).take i) ts → Vals ts acc.toList →
      codeAny (model X.prog X.w) A (.builtin "list.extend.loop" ⟨[.ref S, .ref z, res], []⟩) R s := by
  have lx := rx.length.trans rvx.length
  have ly := ry.length.trans rvy.length
  have lp : (pairsD xs ys).length = min xs.length ys.length := by simp [pairsD]
  have hS' := hS
  simp only [List.mem_cons, List.not_mem_nil, or_false, not_or] at hS'
  obtain ⟨s1, s2, s3, s4, s5⟩ := hS'
  intro k
  induction k with
  | zero =>
    intro i s H acc c ts hk hi I g m hf hsz st hT p1 p2 hSl rt vt
    have hin : i = min xs.length ys.length := by omega
    subst hin
    refine codeAny_builtin F.entry_extend_loop ?_
    rw [Around.under_plainId F.plain_extend_loop _]
    show wpAny _ A.in1 (pyNext (.ref z) >>= _) _ _ s
    rw [show (pairsD xs ys).take (min xs.length ys.length) = pairsD xs ys from by rw [← lp]; exact List.take_length] at rt
    have hend : its.toArray[min xs.length ys.length]? = none ∨ its2.toArray[min xs.length ys.length]? = none := by
      rcases Nat.le_total xs.length ys.length with q | q
      · left
        rw [Nat.min_eq_left q, List.getElem?_toArray]
        exact List.getElem?_eq_none (by omega)
      · right
        rw [Nat.min_eq_right q, List.getElem?_toArray]
        exact List.getElem?_eq_none (by omega)
    have fin : ∀ h', (∀ c o, c ∉ [z, TI, TO, i1, i2] → s.heap.get? c = some o → h'.get? c = some o) → R (.ok (.ret res)) { s with heap := h' } := fun h' hk => by
      have I1 : Inv X pins σ H { s with heap := h' } := I.turnedL (t' := s.toks) hk fun b hb => hf b (by simp only [List.mem_cons, List.not_mem_nil, or_false] at hb ⊢; rcases hb with e | e | e | e | e <;> simp [e])
      exact hR _ H acc c ts I1 g m (hk S _ hS hSl) rt vt
    obtain ⟨x0, x1, x2, x3⟩ := st
    rcases x0 with ⟨y0, u, v, y1⟩ | ⟨T, f, oT, y0, y1⟩
    · refine wpAny_bind (RZ.pyNext_zipT_end (A := A.in1) hh D y0 x1 y1 x2 x3 p1 p2 hend fun h' hk => ?_)
      exact wpAny_pure (fin h' fun c o hc => by
        simp only [List.mem_cons, List.not_mem_nil, or_false, not_or] at hc
        exact hk c o hc.1 hc.2.2.1 hc.2.2.2.1 hc.2.2.2.2)
    · refine wpAny_bind (nextH_end (A := A.in1) hh D y0 y1 x1 x2 x3 p1 p2 hend fun h' hk => ?_)
      exact wpAny_pure (fin h' fun c o hc => by
        simp only [List.mem_cons, List.not_mem_nil, or_false, not_or] at hc
        exact hk c o hc.1 hc.2.2.2.1 hc.2.2.2.2)
  | succ k ih =>
    intro i s H acc c ts hk hi I g m hf hsz st hT p1 p2 hSl rt vt
    have hlt : i < min xs.length ys.length := by omega
    have hix : i < xs.length := by omega
    have hiy : i < ys.length := by omega
    obtain ⟨v, hv, rv⟩ := (rx.go g).get (List.getElem?_eq_getElem hix)
    obtain ⟨w, hw, rw_⟩ := (ry.go g).get (List.getElem?_eq_getElem hiy)
    obtain ⟨x, hx, rvx'⟩ := rvx.get hv
    obtain ⟨y, hy, rvy'⟩ := rvy.get hw
    refine codeAny_builtin F.entry_extend_loop ?_
    rw [Around.under_plainId F.plain_extend_loop _]
    show wpAny _ A.in1 (pyNext (.ref z) >>= _) _ _ s
    -- behind the pair
    have fin : ∀ h' f, IsZipHeld h' z TI TO s.heap.objs.size f ∨ (∃ T oT, N ≤ T ∧ T ≠ S ∧ IsZipHeld h' z TI TO T f ∧ h'.get? T = some oT) → h'.IsTupleIter i1 a (i + 1) → h'.IsTupleIter i2 b (i + 1) → IsPair h' s.heap.objs.size x y → h'.objs.size = s.heap.objs.size + 1 →
        (∀ c o, c ∉ [z, TO, i1, i2] → s.heap.get? c = some o → h'.get? c = some o) →
        wpAny (model X.prog X.w) A.in1 (updateSeq S (·.push (.ref s.heap.objs.size)) >>= fun _ => again (.builtin "list.extend.loop" ⟨[.ref S, .ref z, res], []⟩)) (fun fin s' => match fin with
          | .done f => R (.ok f) s'
          | .again c => c.quiet = true ∧ codeAny (model X.prog X.w) A c R s') (fun e s' => R (.error e) s') { s with heap := h' } := fun h' f hzz j1 j2 hp hz' hkeep => by
      have hSz : S ∉ [z, TO, i1, i2] := by simp [s1, s3, s4, s5]
      have hSl' := hkeep S _ hSz hSl
      have hal : a ∉ [z, TO, i1, i2] := by simp [D.l1z, D.l1TO, D.l1i1, D.l1i2]
      have hbl : b ∉ [z, TO, i1, i2] := by simp [D.l2z, D.l2TO, D.l2i1, D.l2i2]
      have hpn : H s.heap.objs.size = none := I.hok.fresh (Nat.le_refl _)
      have new : ObjOk X.prog X.w (upd H s.heap.objs.size (.tup [v, w])) h' s.heap.objs.size (.tup [v, w]) :=
        ⟨by show 2 ≤ sizeLine; decide, [x, y], .cons rvx' (.cons rvy' .nil), ⟨_, hp, rfl, _, rfl⟩⟩
      have I1 : Inv X pins σ (upd H s.heap.objs.size (.tup [v, w])) { s with heap := h' } :=
        I.turnedNew (t' := s.toks) (ch := [z, TI, TO, i1, i2]) (fun c o hc q => hkeep c o (by simp only [List.mem_cons, List.not_mem_nil, or_false, not_or] at hc ⊢; exact ⟨hc.1, hc.2.2.1, hc.2.2.2.1, hc.2.2.2.2⟩) q) (fun b hb => hf b (by simp only [List.mem_cons, List.not_mem_nil, or_false] at hb ⊢; rcases hb with e | e | e | e | e <;> simp [e])) (Nat.le_refl _) new
      have old : ∀ c ∈ [z, TI, TO, i1, i2, S], FpOk X pins (upd H s.heap.objs.size (.tup [v, w])) c := fun c hc => by
        have z1 := hf c hc
        exact ⟨by rw [upd_ne (Nat.ne_of_lt (Nat.lt_of_lt_of_le (hN c hc) hsz))]; exact z1.1, z1.2⟩
      have hacc : acc.size = i := by
        have e1 := rt.length
        have e2 : ts.length = acc.size := by
          have e3 := L2.Vals.length vt
          simpa using e3
        rw [List.length_take, lp] at e1
        omega
      refine wpAny_bind (wpAny_updateSeq hSl' rfl (wpAny_pure ⟨plainId_quiet F.plain_extend_loop _, ?_⟩) (by omega) (by show (acc.push _).size ≤ sizeLine + 1; rw [Array.size_push]; omega))
      have hS2 := Heap.get?_update_self (Obj.mapSeq (·.push (Value.ref s.heap.objs.size))) hSl' rfl
      have oth : ∀ c o, c ≠ S → h'.get? c = some o → (h'.update S (Obj.mapSeq (·.push (Value.ref s.heap.objs.size)))).get? c = some o := fun c o hc q => (Heap.get?_update_other _ _ (Ne.symm hc)).trans q
      have fS := old S (by simp)
      have I2 : Inv X pins σ (upd H s.heap.objs.size (.tup [v, w])) { s with heap := h'.update S (Obj.mapSeq (·.push (Value.ref s.heap.objs.size))) } :=
        I1.turned (t' := s.toks) oth fS.1 fS.2.1 fS.2.2.2.1 fS.2.2.2.2.1 fS.2.2.2.2.2
      have gz : IsZipHeld h' z TI TO s.heap.objs.size f ∨ (∃ T oT, N ≤ T ∧ T ≠ S ∧ IsZipHeld h' z TI TO T f ∧ h'.get? T = some oT) := hzz
      have hTI : IsPair h' TI (.ref i1) (.ref i2) := hkeep TI _ (by simp [D.TIz, D.TITO, D.TIi1, D.TIi2]) st.2.1
      have st' : ZipAt h' z TI TO i1 i2 a b (i + 1) := by
        refine ⟨.inr ?_, hTI, j1, j2⟩
        rcases gz with q | ⟨T, oT, _, _, q, q2⟩
        · exact ⟨_, f, _, q, hp⟩
        · exact ⟨T, f, oT, q, q2⟩
      have hT' : ∀ T f', IsZipHeld h' z TI TO T f' → N ≤ T ∧ T ≠ S := fun T f' q => by
        have key : ∀ T2, IsZipHeld h' z TI TO T2 f → T = T2 := fun T2 q2 => by
          have e := q.symm.trans q2
          simp only [Option.some.injEq, Obj.mk.injEq, Data.fields.injEq] at e
          have e2 := e.2.2.1
          simp [rawInt] at e2
          exact Int.ofNat.inj e2.1
        rcases gz with q2 | ⟨T2, oT, h1, h2, q2, _⟩
        · rw [key _ q2]
          exact ⟨hsz, Nat.ne_of_gt (Nat.lt_of_lt_of_le (hN S (by simp)) hsz)⟩
        · rw [key _ q2]
          exact ⟨h1, h2⟩
      refine ih (i + 1) _ _ (acc.push (.ref s.heap.objs.size)) _ (ts ++ [.ref s.heap.objs.size]) (by omega) (by omega) I2 (g.trans (.fresh hpn)) (m.fresh hpn) old ?_ (st'.keep oth hS fun T f' q => (hT' T f' q).2) (fun T f' q => ?_) ((p1.at fun o q => oth a o (Ne.symm hSa.1) (hkeep a o hal q))) ((p2.at fun o q => oth b o (Ne.symm hSa.2) (hkeep b o hbl q))) hS2 ?_ ?_
      · show N ≤ (h'.update S _).objs.size
        rw [Heap.size_update, hz']
        exact Nat.le_succ_of_le hsz
      · have q' : (h'.update S (Obj.mapSeq (·.push (Value.ref s.heap.objs.size)))).get? z = _ := q
        rw [Heap.get?_update_other _ _ s1] at q'
        exact (hT' T f' q').1
      · have et : (pairsD xs ys).take (i + 1) = (pairsD xs ys).take i ++ [.tup [xs[i], ys[i]]] := by
          rw [List.take_add_one]
          congr 1
          unfold pairsD
          rw [List.getElem?_map, List.getElem?_eq_getElem (by simp; omega)]
          simp
        rw [et]
        refine (rt.go (.fresh hpn)).append (.cons (.tup (.inl ⟨m.free hpn, m.nfo hpn, .inl upd_same⟩) (.cons (rv.go (.fresh hpn)) (.cons (rw_.go (.fresh hpn)) .nil))) .nil)
      · rw [Array.toList_push]
        have app : ∀ {as bs : List V} {us vs : List Value}, Vals as us → Vals bs vs → Vals (as ++ bs) (us ++ vs) := fun {as bs us vs} h1 h2 => by
          induction h1 with
          | nil => exact h2
          | cons h t ih => exact .cons h ih
        exact app vt (.cons rfl .nil)
    obtain ⟨x0, x1, x2, x3⟩ := id st
    have hxA : its.toArray[i]? = some x := by rw [List.getElem?_toArray]; exact hx
    have hyA : its2.toArray[i]? = some y := by rw [List.getElem?_toArray]; exact hy
    rcases x0 with ⟨y0, u, v', y1⟩ | ⟨T, f, oT, y0, y1⟩
    · refine wpAny_bind (RZ.pyNext_zipT_item (A := A.in1) D y0 x1 y1 x2 x3 p1 p2 hxA hyA fun h' b1 b2 b3 b4 b5 b6 b7 => ?_)
      exact fin h' false (.inl b1) b3 b4 b5 b6 fun c o hc => by
        simp only [List.mem_cons, List.not_mem_nil, or_false, not_or] at hc
        exact b7 c o hc.1 hc.2.1 hc.2.2.1 hc.2.2.2
    · refine wpAny_bind (nextH_item (A := A.in1) D y0 y1 x1 x2 x3 p1 p2 hxA hyA fun h' b1 b3 b4 b5 b6 b7 => ?_)
      have hTN := hT T f y0
      have hTn : ∀ c ∈ [z, TI, TO, i1, i2, S], T ≠ c := fun c hc => Nat.ne_of_gt (Nat.lt_of_lt_of_le (hN c hc) hTN)
      exact fin h' true (.inr ⟨T, oT, hTN, hTn S (by simp), b1, b7 T oT (hTn z (by simp)) (hTn i1 (by simp)) (hTn i2 (by simp)) y1⟩) b3 b4 b5 b6 fun c o hc => by
        simp only [List.mem_cons, List.not_mem_nil, or_false, not_or] at hc
        exact b7 c o hc.1 hc.2.2.1 hc.2.2.2
open PyProof.Rows in
theorem collect_zip {s : Shared} {H : Hp} {A : Around} {E : Value → Shared → Prop} {Fo : Addr → Prop} {M : Mh} {xs ys : List Dat} {vs ws : List V} {a b : Addr} {Q : List Value → Shared → Prop} (hh : A.handled = none) (hz : xs.length ≤ sizeLine) (rx : Reps ⟨X.K, Fo⟩ M H xs vs) (ry : Reps ⟨X.K, Fo⟩ M H ys ws) (ha : SqT X.K H a vs) (hb : SqT X.K H b ws)
    {z TI TO i1 i2 : Addr} (D : ZipApart z TI TO i1 i2 a b) (I : Inv X pins σ H s) (m : RelM ⟨X.K, Fo⟩ M H) (hf : ∀ c ∈ [z, TI, TO, i1, i2], FpOk X pins H c) (st : ZipAt s.heap z TI TO i1 i2 a b 0) (h0 : IsZip s.heap z TI TO .none)
    (hN : ∀ c ∈ [z, TI, TO, i1, i2, a, b], c < s.heap.objs.size)
    (hQ : ∀ s' H' ts us, Inv X pins σ H' s' → Go M H M H' → RelM ⟨X.K, Fo⟩ M H' → Reps ⟨X.K, Fo⟩ M H' (pairsD xs ys) ts → Vals ts us → Q us s') : wpAny (model X.prog X.w) A (collect (.ref z)) Q E s := by
  have hSn : ∀ c ∈ [z, TI, TO, i1, i2, a, b], s.heap.objs.size ≠ c := fun c hc => Nat.ne_of_gt (hN c hc)
  unfold collect
  refine wpAny_bind (wpAny_runValue (codeAny_builtin F.entry_proto_collect ?_))
  rw [Around.under_plainId F.plain_proto_collect _]
  show wpAny _ A.in1 (newList [] >>= fun l => again (.builtin "list.__iadd__" ⟨[l, .ref z], []⟩)) _ _ s
  refine wpAny_bind (wpAny_newObj_type ?_)
  refine wpAny_pure ⟨plainId_quiet F.plain_list_iadd _, codeAny_builtin F.entry_list_iadd ?_⟩
  rw [Around.under_plainId F.plain_list_iadd _]
  have k1 : ∀ c o, s.heap.get? c = some o → (s.heap.push { cls := .type "list", data := .seq ([] : List Value).toArray }).get? c = some o := fun c o q => Heap.get?_push_of_some _ q
  show wpAny _ A.in1 (Builtin.List.listExtendWith (.ref s.heap.objs.size) (.ref z) (.ref s.heap.objs.size)) _ _ _
  unfold Builtin.List.listExtendWith
  have hz0 := k1 _ _ h0
  refine wpAny_bind (wpAny_typeOf (T := "zip") ⟨_, hz0, rfl⟩ ?_)
  have n1 : Builtin.List.listSameRef (.ref s.heap.objs.size) (.ref z) = false := by simp [Builtin.List.listSameRef, hSn z (by simp)]
  have n2 : (Value.type "zip" == Value.type "list") = false := by decide
  have n3 : (Value.type "zip" == Value.type "tuple") = false := by decide
  simp only [n1, n2, n3, Bool.or_false, Bool.false_eq_true, if_false]
  refine wpAny_bind (wpAny_pyIter_zip hz0 ?_)
  refine wpAny_bind (wpAny_holding ?_)
  unfold Builtin.List.listLengthHint
  refine wpAny_bind (wpAny_specialOf (T := "zip") ⟨_, hz0, rfl⟩ nolen_zip ?_)
  show wpAny _ A.in1 (specialOf (Value.ref z) (Str.ofString "__length_hint__") >>= _) _ _ _
  refine wpAny_bind (wpAny_specialOf (T := "zip") ⟨_, hz0, rfl⟩ nohint_zip ?_)
  refine wpAny_pure ?_
  show wpAny _ A.in1 (rule "list.extend.makes-room" >>= fun _ => Builtin.List.listTouch (.ref s.heap.objs.size) >>= fun _ =>
    again (.builtin "list.extend.loop" ⟨[.ref s.heap.objs.size, .ref z, .ref s.heap.objs.size], []⟩)) _ _ _
  refine wpAny_bind (wpAny_rule ?_)
  have hS1 : (s.heap.push { cls := .type "list", data := .seq ([] : List Value).toArray }).get? s.heap.objs.size = some { cls := .type "list", data := .seq ([] : List Value).toArray } := Heap.get?_push_size _ rfl
  refine wpAny_bind ?_
  show wpAny _ A.in1 (updateSeq s.heap.objs.size (·.push .none) >>= fun _ => updateSeq s.heap.objs.size (·.pop)) _ _ _
  refine wpAny_bind (wpAny_updateSeq hS1 rfl ?_)
  have hS2 := Heap.get?_update_self (Obj.mapSeq (·.push Value.none)) hS1 rfl
  refine wpAny_updateSeq hS2 rfl ?_
  have hS3 := Heap.get?_update_self (Obj.mapSeq (·.pop)) hS2 rfl
  generalize hh3 : ((s.heap.push { cls := .type "list", data := .seq ([] : List Value).toArray }).update s.heap.objs.size (Obj.mapSeq (·.push Value.none))).update s.heap.objs.size (Obj.mapSeq (·.pop)) = h3 at hS3 ⊢
  have k3 : ∀ c o, s.heap.get? c = some o → h3.get? c = some o := fun c o q => by
    have hc : s.heap.objs.size ≠ c := Nat.ne_of_gt (Heap.lt_size q)
    rw [← hh3]
    exact (Heap.get?_update_other _ _ hc).trans ((Heap.get?_update_other _ _ hc).trans (k1 c o q))
  have e3 : h3.objs.size = s.heap.objs.size + 1 := by rw [← hh3, Heap.size_update, Heap.size_update, Heap.size_push]
  have I3 : Inv X pins σ H { s with heap := h3 } := I.kept (t' := s.toks) k3
  obtain ⟨its, rvx, p1, _⟩ := I3.tuple ha
  obtain ⟨its2, rvy, p2, _⟩ := I3.tuple hb
  have st3 : ZipAt h3 z TI TO i1 i2 a b 0 := by
    obtain ⟨x0, x1, x2, x3⟩ := st
    refine ⟨?_, k3 _ _ x1, x2.at fun o q => k3 _ o q, x3.at fun o q => k3 _ o q⟩
    rcases x0 with ⟨y0, u, v, y1⟩ | ⟨T, f, oT, y0, y1⟩
    · exact .inl ⟨k3 _ _ y0, u, v, k3 _ _ y1⟩
    · exact .inr ⟨T, f, oT, k3 _ _ y0, k3 _ _ y1⟩
  refine wpAny_pure ⟨plainId_quiet F.plain_extend_loop _, zip_loop (N := s.heap.objs.size + 1) (H0 := H) (S := s.heap.objs.size) D (fun hc => hSn _ (by simp only [List.mem_cons, List.not_mem_nil, or_false] at hc ⊢; rcases hc with e | e | e | e | e <;> simp [← e]) rfl) (fun c hc => ?_) ⟨hSn a (by simp), hSn b (by simp)⟩ hh hz rx ry rvx rvy (fun s' H' acc c ts I' g m' hS' rt vt => ?_) _ 0 _ H #[] _ [] rfl (Nat.zero_le _) I3 (.refl _ _) m (fun c hc => ?_) (by show _ ≤ h3.objs.size; rw [e3]; exact Nat.le_refl _) st3 (fun T f q => ?_) p1 p2 hS3 (by rw [List.take_zero]; exact .nil) .nil⟩
  · rcases (by simpa using hc : c = z ∨ c = TI ∨ c = TO ∨ c = i1 ∨ c = i2 ∨ c = s.heap.objs.size) with e | e | e | e | e | e
    · rw [e]; exact Nat.lt_succ_of_lt (hN _ (by simp))
    · rw [e]; exact Nat.lt_succ_of_lt (hN _ (by simp))
    · rw [e]; exact Nat.lt_succ_of_lt (hN _ (by simp))
    · rw [e]; exact Nat.lt_succ_of_lt (hN _ (by simp))
    · rw [e]; exact Nat.lt_succ_of_lt (hN _ (by simp))
    · rw [e]; exact Nat.lt_succ_self _
  · show wpAny _ A (load s.heap.objs.size >>= _) _ _ s'
    exact wpAny_bind (wpAny_load hS' (wpAny_pure (hQ s' H' ts acc.toList I' g m' rt vt)))
  · rcases (by simpa using hc : c = z ∨ c = TI ∨ c = TO ∨ c = i1 ∨ c = i2 ∨ c = s.heap.objs.size) with e | e | e | e | e | e
    · rw [e]; exact hf _ (by simp)
    · rw [e]; exact hf _ (by simp)
    · rw [e]; exact hf _ (by simp)
    · rw [e]; exact hf _ (by simp)
    · rw [e]; exact hf _ (by simp)
    · rw [e]; exact I.fpOk (Nat.le_refl _) (I.hok.fresh (Nat.le_refl _))
  · have q' : h3.get? z = some _ := k3 _ _ h0
    have e := q'.symm.trans q
    simp only [Option.some.injEq, Obj.mk.injEq, Data.fields.injEq] at e
    simp [rawInt] at e
open PyProof.Rows in
theorem code_tupZip {s : Shared} {A : Around} {E : Value → Shared → Prop} {r : Addr} {Q1 : Value → Shared → Prop} {W : List Value → Shared → Prop} (hz : s.TypeIs (.ref r) "zip") (hc : ∀ {E : Value → Shared → Prop} {Q : List Value → Shared → Prop}, (∀ us s', W us s' → Q us s') → wpAny (model X.prog X.w) A.in1 (collect (.ref r)) Q E s) (hl : ∀ us s', W us s' → us.length ≤ sizeLine)
    (h : ∀ us s', W us s' → Q1 (.ref s'.heap.objs.size) { s' with heap := s'.heap.push { cls := .type "tuple", data := .seq us.toArray } }) :
    codeAny (model X.prog X.w) A (.call (.builtin "tuple.__new__") ⟨[.type "tuple", .ref r], []⟩) (wants Q1 E) s := by
  refine codeAny_of_tree ?_
  show wpAny _ A.in1 (do checkBuiltinCall "tuple.__new__" ⟨[.type "tuple", .ref r], []⟩; again (.builtin "tuple.__new__" ⟨[.type "tuple", .ref r], []⟩)) _ _ s
  refine wpAny_bind (wpAny_of_eq (F.newCall_tuple_1 _) (wpAny_pure ⟨plainId_quiet F.plain_tuple_new _, codeAny_builtin F.entry_tuple_new ?_⟩))
  rw [Around.under_plainId F.plain_tuple_new _]
  have hsub := sub_tuple_self
  have hinit := init_tuple_lookup
  have hmh := madeHere_tuple
  wp_walk using wpAny_typeOf hz, hc
  intro us s' hw
  show wpAny _ _ (Builtin.Tuple.tupleExact us.toArray >>= fun v => ret v) _ _ _
  unfold Builtin.Tuple.tupleExact
  refine wpAny_bind (wpAny_newObj_type ?_ (by show us.toArray.size ≤ sizeLine; rw [List.size_toArray]; exact hl us s' hw))
  exact wpAny_pure (h us s' hw)
def wTupZip (ws : WA) : WE := fun S Q => ws S fun ds M => ∃ xs ys, ds = [.tup xs, .tup ys] ∧ Q (.tup (pairsD xs ys)) M
open PyProof.Rows in
theorem de_tupZip {X : Cx} {ea eb : Expr} {ws : WA} {n : Nat} {p p2 pos pos2 : Pos} (hcm : X.calm = true) (hg : Gl X "tuple") (hm : X.mg "tuple" = none) (hg2 : Gl X "zip") (hm2 : X.mg "zip" = none) (ha : DA X [ea, eb] n ws)
    (na : starEach [.Call (.Name "zip" p2) [ea, eb] [] pos2] X.env = (false, eval (.Call (.Name "zip" p2) [ea, eb] [] pos2) X.env) :: starEach [] X.env := by rfl)
    (hs : starEach [ea, eb] X.env = (false, eval ea X.env) :: starEach [eb] X.env := by rfl) (hpl : (backTo pos2 (starEach [eb] X.env)).any (·.1) = false := by rfl) :
    DE X (.Call (.Name "tuple" p) [.Call (.Name "zip" p2) [ea, eb] [] pos2] [] pos) (wTupZip ws) := by
  refine ⟨fun pins s σ H Qt I ⟨Fo, S, Qd, rs, h, kk⟩ => ?_⟩
  have hA : wpAny (model X.prog X.w) X.A (spliced (backTo pos (starEach [.Call (.Name "zip" p2) [ea, eb] [] pos2] X.env))) (fun us s1 => wpAny (model X.prog X.w) X.A (call (.type "tuple") us) (EP X pins σ Qt) X.xe s1) X.xe s := by
    refine args_cons (Call_ (ld_blt I hg2 hm2 PyProof.Rows.boot_zip (PyProof.Rows.callWith_type1 (thn (ha.pa.run pos2 pins s σ H (fun vs H1 => ∃ M1 xs ys, Go S.M H M1 H1 ∧ RelM ⟨X.K, Fo⟩ M1 H1 ∧ Reps ⟨X.K, Fo⟩ M1 H1 [.tup xs, .tup ys] vs ∧ Qd (.tup (pairsD xs ys)) M1) I ⟨Fo, S, _, rs, h, fun vs H1 ds M1 g m r ⟨xs, ys, e, q⟩ => ⟨M1, xs, ys, g, m, e ▸ r, q⟩⟩) fun us s1 ⟨vs, H1, I1, r1, M1, xs, ys, g, m, rr, q⟩ => ?_) hs hpl))) na
    obtain ⟨v, u, rfl, rv, ru⟩ := rr.two
    cases rv with
    | tup f1 rx =>
      cases ru with
      | tup f2 ry =>
        rename_i a vs b ws'
        obtain ⟨ua, ub, eu, e1, e2⟩ := vals2 r1
        subst eu
        cases e1
        cases e2
        obtain ⟨its, rvx, p1, hz1⟩ := I1.tuple f1.sq
        obtain ⟨its2, rvy, p2', _⟩ := I1.tuple f2.sq
        obtain ⟨o1, ho1, _⟩ := id p1
        obtain ⟨o2, ho2, _⟩ := id p2'
        have la := Heap.lt_size ho1
        have lb := Heap.lt_size ho2
        refine RZ.call_zipT p1 p2' fun h' hz hTI hTO h1 h2 hsz hk => args_nil ?_
        have I2 : Inv X pins σ H1 { s1 with heap := h' } := I1.kept (t' := s1.toks) hk
        have fresh5 : ∀ c ∈ [s1.heap.objs.size + 4, s1.heap.objs.size + 2, s1.heap.objs.size + 3, s1.heap.objs.size, s1.heap.objs.size + 1], FpOk X pins H1 c := fun c hc => by
          have hle : s1.heap.objs.size ≤ c := by
            simp only [List.mem_cons, List.not_mem_nil, or_false] at hc
            rcases hc with e | e | e | e | e <;> (rw [e]; first | exact Nat.le_refl _ | exact Nat.le_add_right _ _)
          exact I1.fpOk hle (I1.hok.fresh hle)
        have hlen : xs.length ≤ sizeLine := by rw [rx.length]; exact hz1
        refine callType_codes (Q₁ := fun obj s2 => s2.TypeIs obj "tuple" ∧ EP X pins σ Qt obj s2) F.called_tuple (F.typeCall_tuple_1 _) F.entry_object_init
          (code_tupZip (X := X) (A := X.A.in1) (W := fun us s' => ∃ H' ts, Inv X pins σ H' s' ∧ Go M1 H1 M1 H' ∧ RelM ⟨X.K, Fo⟩ M1 H' ∧ Reps ⟨X.K, Fo⟩ M1 H' (pairsD xs ys) ts ∧ Vals ts us) ⟨_, hz, rfl⟩ (fun {E Q} hq => ?_) (fun us s' ⟨H', ts, I', g', m', rt, vt⟩ => ?_) fun us s' ⟨H', ts, I', g', m', rt, vt⟩ => ⟨⟨_, Heap.get?_push_size _ rfl, rfl⟩, ?_⟩) fun obj s2 h2 => ?_
        · refine collect_zip (A := X.A.in1.in1) (I.ok.hd hcm) hlen rx ry f1.sq f2.sq (PySem.W.ktu_apart s1.heap.objs.size a b la lb) I2 m fresh5 ⟨.inl ⟨hz, _, _, hTO⟩, hTI, h1, h2⟩ hz (fun c hc => ?_) fun s' H' ts us I' g' m' rt vt => hq us s' ⟨H', ts, I', g', m', rt, vt⟩
          show c < h'.objs.size
          rw [hsz]
          simp only [List.mem_cons, List.not_mem_nil, or_false] at hc
          rcases hc with e | e | e | e | e | e | e <;> (rw [e]; first | exact Nat.lt_of_lt_of_le la (Nat.le_add_right _ _) | exact Nat.lt_of_lt_of_le lb (Nat.le_add_right _ _) | exact Nat.add_lt_add_left (by decide) _ | exact Nat.lt_add_of_pos_right (by decide))
        · rw [← vt.length, ← rt.length]
          exact Nat.le_trans (by simp [pairsD]; omega) hlen
        · have hp : H' s'.heap.objs.size = none := I'.hok.fresh (Nat.le_refl _)
          have hl : ts.length ≤ sizeLine := by
            rw [← rt.length]
            exact Nat.le_trans (by simp [pairsD]; omega) hlen
          have I3 := I'.laid (t' := s'.toks) (h' := s'.heap.push { cls := .type "tuple", data := .seq us.toArray }) (a := s'.heap.objs.size) (o := .tup ts) (fun b o e => Heap.get?_push_of_some _ e) (Nat.le_refl _) ⟨hl, us, vt, IsTup.new _ _⟩
          refine ⟨.ref s'.heap.objs.size, _, I3, rfl, kk _ _ (.tup (pairsD xs ys)) M1 (g.trans (g'.trans (.fresh hp))) (m'.fresh hp) (.tup (.inl ⟨m'.free hp, m'.nfo hp, .inl upd_same⟩) (rt.go (.fresh hp))) q⟩
        · exact ⟨h2.1, F.args_object_init_2 obj _, object_init_meets F.called_tuple.init.lookup F.called_tuple.made (by decide) X.prog X.w X.A.in1 _ s2 ⟨h2.1, rfl, h2.2⟩⟩
  exact wpAny_Call_Name_kw (ld_blt I hg hm (by decide +kernel) (PyProof.Rows.callWith_type1 hA na rfl) (by decide) (by decide))
end
end Lk

/-! LkLast: {}, a dict comprehension that is stored, xs.extend(t) of a tuple. -/
namespace Lk
open PySem PySem.Spec L2
theorem hu66 {A : Around} {k : Nat} (hr : Room k A) : A.units + 66 < cLine := by have := hr.un; omega
section
variable {X : Cx} {pos : Pos}
def wDict0 : WN := fun S Q => Q (.dk []) S.M
theorem dn_dict0 : DN X (.Dict [] [] pos) wDict0 := peWeak pe_dnewK fun σ H Qt ⟨Fo, S, Q, rs, h, k⟩ => fun p hp => k p _ (.dk []) S.M (.new hp) (rs.mem.free hp) (rs.mem.new hp ⟨[], upd_same, .nil⟩) h
theorem sw_dict {kx vx : Expr} {gs : List Comprehension} {scope : Scope} {pos py : Pos} {y : Str} {l : Nat} {env : Env} (hk : env.scope.kind = .function) (hy : env.scope.names.lookup y = some .local) (hl : (py.line == pos.line) = true)
    (ha : (scope.names.any fun (n, k) => n == y && (k == .local || k == .cell)) = false) : swapsWith (.DictComp kx vx gs scope pos) (some (.Name y py)) l env = pure true := by
  have ky : env.kindOf y = some .local := hy
  have hb : env.blockKind = .function := by unfold Env.blockKind; rw [hk]; rfl
  unfold swapsWith
  simp only [hb, ky, ha, Expr.pos, hl]
  rfl
theorem ds_setDict {i : Nat} {y : Str} {py spos : Pos} {kx vx tg iter : Expr} {ifs : List Expr} {scope : Scope} {own : List (Str × Nat)} {wi : WI} {g : WG} {wt : WT} {wk wv : WE} (hc : X.calm = true) (hN : X.N.Nodup) (hy : X.N[i]? = some y) (hyl : X.env.scope.names.lookup y = some .local)
    (hsw : swapsWith (.DictComp kx vx [⟨tg, iter, ifs, 0⟩] scope pos) (some (.Name y py)) spos.line X.env = pure true) (hi : DI X tg iter wi) (ok : BlkOk X.N X.env.scope scope own)
    (hg : ∀ (s : Shared) (H : Hp) (C : Addr) (cl : List (Str × Addr)) (fp : List Addr), DGc (X.blk s H scope (compEnvC scope cl C X.env) fp) tg (own.map (·.2)) g) (ht : ∀ (s : Shared) (H : Hp) (C : Addr) (cl : List (Str × Addr)) (fp : List Addr), DTs (X.blk s H scope (compEnvC scope cl C X.env) fp) ifs wt)
    (hk : ∀ (s : Shared) (H : Hp) (C : Addr) (cl : List (Str × Addr)) (fp : List Addr), DE (X.blk s H scope (compEnvC scope cl C X.env) fp) kx wk)
    (he : ∀ (s : Shared) (H : Hp) (C : Addr) (cl : List (Str × Addr)) (fp : List Addr), DE (X.blk s H scope (compEnvC scope cl C X.env) fp) vx wv) (hs : ∀ x, foldedSetIterable iter X.env x = pure x := by intro _; rfl) :
    PS X (.Assign [.Name y py] (.DictComp kx vx [⟨tg, iter, ifs, 0⟩] scope pos) spos) (tAsg (LN X.K (wDictC (own.map (·.2)) wi g wt wk wv)) (gName i)) := by
  refine ⟨fun pins s σ H D I h => ?_⟩
  have h : tDc (LI X.K wi) (LGc X.K (own.map fun (z : Str × Nat) => z.2) g) (LT X.K wt) (LE X.K wk) (LE X.K wv) (own.map (·.2)) σ H (fun x H1 => gName i x σ H1 D.nx) := dc_read h
  rw [exec_Assign_Name_used _ _ _ _ hsw]
  refine wpAny_bind (wpAny_standAt (wpAny_bind ?_))
  show wpAny _ X.A (comprehension (.DictComp kx vx [⟨tg, iter, ifs, 0⟩] scope pos) scope X.env (firstIterPos [⟨tg, iter, ifs, 0⟩] pos) newDict false (eval iter X.env) (some (assign (.Name y py) X.env)) >>= fun _ => pure ()) _ _ s
  refine wpAny_bind (thn (dc_core (Qf := fun _ s' => SP X pins D .next s') (g := LGc X.K (own.map fun (z : Str × Nat) => z.2) g) (tt := LT X.K wt) (tk := LE X.K wk) (tv := LE X.K wv) hc hN I hi ok hg ht hk he hs h fun L C s' m H' I' q hn f => ?_) fun _ s' hq => wpAny_pure (wpAny_pure hq))
  show wpAny _ _ (assign (.Name y py) X.env (.ref L)) _ _ _
  refine wpAny_assign_Name (store_ok2 (v := V.ref L) I' hN hy (.inl hyl) rfl (fun s2 I2 ⟨a, sb, ha⟩ => ?_) (.inr hyl))
  obtain ⟨f0, f1, f2, f3, f4, f5⟩ := f
  have haC : C ≠ a := by
    rcases ha with z | z
    · rw [z]; exact f1
    · exact fun e => f4 y a z e.symm
  refine ⟨m, hn.sameBut sb haC, fun h3 sb3 => ?_⟩
  exact ⟨_, H', I2.turned (t' := s2.toks) (fun b o hb e => (sb3.2 b hb).trans e) f0 f1 f3 f4 f5, q⟩

/-! ### xs.extend(t) -/
def rExtA (K : PySem.W.Frag) : V → List V → Hp → VK → Prop := fun x vs H Q => ∃ l b xs zs, x = .ref l ∧ vs = [.ref b] ∧ H l = some (.lst xs) ∧ (H b = some (.lst zs) ∨ SqT K H b zs) ∧ xs.length + zs.length ≤ sizeLine ∧ Q .non (upd H l (.lst (xs ++ zs)))
open AutoSeq1 in
theorem ext_tup (l : Addr) (its : Array Value) (n : Nat) (b : Addr) (its2 : Array Value) (n2 : Nat) (dd : Option Addr) (sl : Array (Option Value)) (hs0 : ¬(!its.isEmpty && Builtin.List.listTooLong (its.size + its2.size)) = true) (hs1 : its.size ≤ sizeLine) (hs2 : its.size + its2.size ≤ sizeLine + 1) :
    Meets (Builtin.«list.extend» ⟨[.ref l, .ref b], []⟩) (fun _ R s => s.heap.get? l = some { cls := .type "list", dict := none, data := .seq its n, slots := #[] } ∧ s.heap.get? b = some { cls := .type "tuple", dict := dd, data := .seq its2 n2, slots := sl } ∧ R (.ok (.ret Value.none)) { s with heap := s.heap.update l (Obj.mapSeq fun x => x ++ its2), toks := s.toks }) :=
  .of_wp fun prog w A R s h => by
    obtain ⟨hp, g, d, tk, os⟩ := s; obtain ⟨hl, hb, h⟩ := h; have f1 := idx_int; have f2 := sub_tuple_tuple; have f3 := sub_list_list; have f4 := sub_tuple_list; have f5 := sub_list_tuple
    have hz' : (its ++ its2).size ≤ sizeLine + 1 := by rw [Array.size_append]; exact hs2
    wp_walk using (wpAny_updateSeq hl rfl (hz := hs1) (_hz' := hz')), wpAny_loadPart' hl, wpAny_loadPart' hb
    exact ⟨_, rfl, h⟩
open PyProof.Rows in
theorem mt_extA : MtM X "list.extend" (rExtA X.K) := by
  intro pins s σ H x vs v us Q I rx rv ⟨l, b, xs, zs, e1, e2, hH, hB, hz, q⟩
  rcases hB with hB | hB
  · exact mt_extend pins s σ H x vs v us Q I rx rv ⟨l, b, xs, zs, e1, e2, hH, hB, hz, q⟩
  · subst e1; subst e2
    cases rx
    obtain ⟨u, rfl, ru⟩ := rv.one
    cases ru
    obtain ⟨_, its, n, r, hl, e⟩ := I.lstM hH
    obtain ⟨its2, r2, ⟨⟨cls, dd, data, sl⟩, ho, hc, n2, hd⟩, hl2⟩ := I.tuple hB
    simp only at hc hd
    subst hc hd
    have l2 := r2.length
    have hsz : its.toArray.size + its2.toArray.size ≤ sizeLine := by rw [List.size_toArray, List.size_toArray]; omega
    have hlong : ¬ (!its.toArray.isEmpty && Builtin.List.listTooLong (its.toArray.size + its2.toArray.size)) = true := by
      have z : Builtin.List.listTooLong (its.toArray.size + its2.toArray.size) = false := by
        unfold Builtin.List.listTooLong
        have z2 := sizeLine_eq
        exact decide_eq_false (by omega)
      rw [z, Bool.and_false]
      exact Bool.false_ne_true
    refine call_meets PySem.F.slot_list_extend ⟨_, e, rfl⟩ PySem.F.entry_list_extend (PySem.F.args_list_extend_2 _ _)
      (ext_tup l its.toArray n b its2.toArray n2 dd sl hlong (by rw [List.size_toArray]; omega) (by omega)) ⟨e, ho, ?_⟩
    refine ⟨.non, _, I.lset (its' := its ++ its2) hH e (by simp) (r.append r2) ?_, rfl, q⟩
    rw [List.length_append]
    omega
theorem de_metLM {o e : Expr} {es : List Expr} {we wo : WE} {ws : WA} {apos cpos : Pos} {n : Nat} {id : String} {name : Str} {r : V → List V → Hp → VK → Prop} {f : Dat → FL} (slot : Slot "list" name id) (hty : typeOf (.builtin id) = pure (.type "method_descriptor")) (hm : MtR X id r) (ok : OkM X.K r f) (ho : DE X o wo) (ha : DA X (e :: es) n ws)
    (hbase : attributeBase o name X.env (eval o X.env) = eval o X.env)
    (hfew : ((backTo cpos (starEach (e :: es) X.env)).all (fun x => !x.1) && (backToKw cpos (keywordEach [] X.env)).all (fun x => x.1.isSome)
      && decide ((e :: es).length + ([] : List Keyword).length + (if ([] : List Keyword).isEmpty then 0 else 1) < 30)) = true)
    (hline : (apos.endLine == cpos.line) = true) (hs : starEach (e :: es) X.env = (false, eval e X.env) :: starEach es X.env) (hplain : (backTo cpos (starEach es X.env)).any (·.1) = false) : DE X (.Call (.Attribute o name apos) (e :: es) [] cpos) (wMetL f wo ws) :=
  de_metL slot hty hm ok ho ha hbase hfew hline hs hplain
def mExtT (x : Dat) : FL := fun ds M Q => match x, ds with
  | .ref a, [.tup ys] => ∃ xs, M a = some (.lst xs) ∧ xs.length + ys.length ≤ sizeLine ∧ Q .non (updM M a (.lst (xs ++ ys)))
  | _, _ => False
theorem ok_extT {K : PySem.W.Frag} : OkM K (rExtA K) mExtT := fun Fo x vx xs vs M H Q Qt m rx rr h k => by
  unfold mExtT at h
  split at h
  · obtain ⟨zs, e, hl, q⟩ := h
    cases rx
    obtain ⟨v, rfl, rv⟩ := rr.one
    obtain ⟨ws, h1, h2⟩ := m.ob _ _ e
    cases rv with
    | tup f r2 =>
      refine ⟨_, _, ws, _, rfl, rfl, h1, .inr f.sq, by rw [← h2.length, ← r2.length]; exact hl, ?_⟩
      exact k _ _ .non _ (.write e) (m.write (mo' := .lst _) e ⟨_, upd_same, (h2.go (.write e)).append (r2.go (.write e))⟩) .non q
  · exact h.elim
theorem de_extT {o e : Expr} {es : List Expr} {wo : WE} {ws : WA} {apos cpos : Pos} {n : Nat} (ho : DE X o wo) (ha : DA X (e :: es) n ws)
    (hbase : attributeBase o "extend" X.env (eval o X.env) = eval o X.env := by rfl)
    (hfew : ((backTo cpos (starEach (e :: es) X.env)).all (fun x => !x.1) && (backToKw cpos (keywordEach [] X.env)).all (fun x => x.1.isSome)
      && decide ((e :: es).length + ([] : List Keyword).length + (if ([] : List Keyword).isEmpty then 0 else 1) < 30)) = true := by rfl)
    (hline : (apos.endLine == cpos.line) = true := by rfl) (hs : starEach (e :: es) X.env = (false, eval e X.env) :: starEach es X.env := by rfl) (hplain : (backTo cpos (starEach es X.env)).any (·.1) = false := by rfl) : DE X (.Call (.Attribute o "extend" apos) (e :: es) [] cpos) (wMetL mExtT wo ws) :=
  de_metL PySem.F.slot_list_extend PySem.F.type_list_extend mt_extA ok_extT ho ha hbase hfew hline hs hplain
end
def wIteT (c : WT) (t u : WT) : WT := fun S Q => c S fun b M => if b = true then t ⟨S.env, M⟩ Q else u ⟨S.env, M⟩ Q
theorem dt_ite {X : Cx} {c a b : Expr} {wc wa wb : WT} {pos : Pos} (hc : DT X c wc) (ha : DT X a wa) (hb : DT X b wb) : DT X (.IfExp c a b pos) (wIteT wc wa wb) := by
  refine ⟨fun pins s σ H Qt I ⟨Fo, S, Q, rs, h, k⟩ => ?_⟩
  show wpAny _ _ (isTrue c X.env (eval c X.env) >>= fun d => if d = true then isTrue a X.env (eval a X.env) else isTrue b X.env (eval b X.env)) _ _ s
  refine wpAny_bind (thn (hc.run pins s σ H (fun d H1 => ∃ M1, Go S.M H M1 H1 ∧ RelM ⟨X.K, Fo⟩ M1 H1 ∧ if d = true then wa ⟨S.env, M1⟩ Q else wb ⟨S.env, M1⟩ Q) I ⟨Fo, S, _, rs, h, fun d H1 M1 g m q => ⟨M1, g, m, q⟩⟩) fun d s1 ⟨H1, I1, M1, g, m, q⟩ => ?_)
  cases d with
  | true =>
    rw [if_pos rfl] at q ⊢
    exact ha.run pins s1 σ H1 Qt I1 ⟨Fo, ⟨S.env, M1⟩, Q, rs.go g m, q, k.go g⟩
  | false =>
    rw [if_neg Bool.false_ne_true] at q ⊢
    exact hb.run pins s1 σ H1 Qt I1 ⟨Fo, ⟨S.env, M1⟩, Q, rs.go g m, q, k.go g⟩
end Lk

namespace Lk
open PySem PySem.Spec L2
@[simp ↓] theorem e_wC {d : Dat} {S : DS} {Q : VD} : (wC d S Q) = (Q d S.M) := rfl
@[simp ↓] theorem e_wBin {f : F2} {wa wb : WE} {S : DS} {Q : VD} : (wBin f wa wb S Q) = (wa S fun x M1 => wb ⟨S.env, M1⟩ fun y M2 => f x y M2 Q) := rfl
@[simp ↓] theorem e_wBinN {f : Dat → Dat → Mh → (MO → Mh → Prop) → Prop} {wa wb : WE} {S : DS} {Q : MO → Mh → Prop} : (wBinN f wa wb S Q) = (wa S fun x M1 => wb ⟨S.env, M1⟩ fun y M2 => f x y M2 Q) := rfl
@[simp ↓] theorem e_wUn {f : Dat → Mh → VD → Prop} {wa : WE} {S : DS} {Q : VD} : (wUn f wa S Q) = (wa S fun x M1 => f x M1 Q) := rfl
@[simp ↓] theorem e_wUnN {f : Dat → Mh → (MO → Mh → Prop) → Prop} {wa : WE} {S : DS} {Q : MO → Mh → Prop} : (wUnN f wa S Q) = (wa S fun x M1 => f x M1 Q) := rfl
@[simp ↓] theorem e_wTest {w : WE} {S : DS} {Q : Bool → Mh → Prop} : (wTest w S Q) = (w S fun d M => onB d fun b => Q b M) := rfl
@[simp ↓] theorem e_wChain {f f' : F2} {wa wb wc : WE} {S : DS} {Q : VD} : (wChain f f' wa wb wc S Q) = (wa S fun x M1 => wb ⟨S.env, M1⟩ fun y M2 => f x y M2 fun z M3 => onB z fun k => if k = true then wc ⟨S.env, M3⟩ fun u M4 => f' y u M4 Q else Q (.bl false) M3) := rfl
@[simp ↓] theorem e_wNotT {w : WT} {S : DS} {Q : Bool → Mh → Prop} : (wNotT w S Q) = (w S fun b M => Q (!b) M) := rfl
@[simp ↓] theorem e_wAndT {t u : WT} {S : DS} {Q : Bool → Mh → Prop} : (wAndT t u S Q) = (t S fun b M => if b = true then u ⟨S.env, M⟩ Q else Q false M) := rfl
@[simp ↓] theorem e_wOrT {t u : WT} {S : DS} {Q : Bool → Mh → Prop} : (wOrT t u S Q) = (t S fun b M => if b = true then Q true M else u ⟨S.env, M⟩ Q) := rfl
@[simp ↓] theorem e_wNotV {w : WE} {S : DS} {Q : VD} : (wNotV w S Q) = (w S fun d M => onB d fun b => Q (.bl (!b)) M) := rfl
@[simp ↓] theorem e_wAndV {t u : WE} {S : DS} {Q : VD} : (wAndV t u S Q) = (t S fun d M => onB d fun b => if b = true then u ⟨S.env, M⟩ Q else Q (.bl false) M) := rfl
@[simp ↓] theorem e_wOrV {t u : WE} {S : DS} {Q : VD} : (wOrV t u S Q) = (t S fun d M => onB d fun b => if b = true then Q (.bl true) M else u ⟨S.env, M⟩ Q) := rfl
@[simp ↓] theorem e_wIte {t : WT} {wa wb : WE} {S : DS} {Q : VD} : (wIte t wa wb S Q) = (t S fun b M => if b = true then wa ⟨S.env, M⟩ Q else wb ⟨S.env, M⟩ Q) := rfl
@[simp ↓] theorem e_wIteT {c : WT} {t u : WT} {S : DS} {Q : Bool → Mh → Prop} : (wIteT c t u S Q) = (c S fun b M => if b = true then t ⟨S.env, M⟩ Q else u ⟨S.env, M⟩ Q) := rfl
@[simp ↓] theorem e_wNil {S : DS} {Q : List Dat → Mh → Prop} : (wNil S Q) = (Q [] S.M) := rfl
@[simp ↓] theorem e_wCons {wa : WE} {ws : WA} {S : DS} {Q : List Dat → Mh → Prop} : (wCons wa ws S Q) = (wa S fun x M1 => ws ⟨S.env, M1⟩ fun xs M2 => Q (x :: xs) M2) := rfl
@[simp ↓] theorem e_wTup {ws : WA} {S : DS} {Q : VD} : (wTup ws S Q) = (ws S fun ds M => Q (.tup ds) M) := rfl
@[simp ↓] theorem e_wLst {ws : WA} {S : DS} {Q : MO → Mh → Prop} : (wLst ws S Q) = (ws S fun ds M => Q (.lst ds) M) := rfl
@[simp ↓] theorem e_wBlt {f : FL} {ws : WA} {S : DS} {Q : VD} : (wBlt f ws S Q) = (ws S fun ds M => f ds M Q) := rfl
@[simp ↓] theorem e_wBltN {f : FLN} {ws : WA} {S : DS} {Q : MO → Mh → Prop} : (wBltN f ws S Q) = (ws S fun ds M => f ds M Q) := rfl
@[simp ↓] theorem e_wCall {wf : WF} {ws : WA} {S : DS} {Q : VD} : (wCall wf ws S Q) = (ws S fun ds M => wf ds M (onVal Q)) := rfl
@[simp ↓] theorem e_wCallN {wf : WF} {ws : WA} {S : DS} {Q : MO → Mh → Prop} : (wCallN wf ws S Q) = (ws S fun ds M => wf ds M (onNew Q)) := rfl
@[simp ↓] theorem e_wRet {w : WE} {S : DS} {D : DEnds} : (wRet w S D) = (w S fun d M => D.rt (.val d) M) := rfl
@[simp ↓] theorem e_wRetNew {w : WN} {S : DS} {D : DEnds} : (wRetNew w S D) = (w S fun mo M => D.rt (.new mo) M) := rfl
@[simp ↓] theorem e_wExpr {w : WE} {S : DS} {D : DEnds} : (wExpr w S D) = (w S fun _ M => D.nx ⟨S.env, M⟩) := rfl
@[simp ↓] theorem e_wNext {S : DS} {D : DEnds} : (wNext S D) = (D.nx S) := rfl
@[simp ↓] theorem e_wSeq {t u : WS} {S : DS} {D : DEnds} : (wSeq t u S D) = (t S { D with nx := fun S' => u S' D }) := rfl
@[simp ↓] theorem e_wSeqI {t u : WS} {S : DS} {D : DEnds} : (wSeqI t u S D) = (t S { D with nx := fun S' => ∃ S0, Imp S' S0 ∧ u S0 D }) := rfl
@[simp ↓] theorem e_wIf {c : WT} {t u : WS} {S : DS} {D : DEnds} : (wIf c t u S D) = (c S fun b M => if b = true then t ⟨S.env, M⟩ D else u ⟨S.env, M⟩ D) := rfl
@[simp ↓] theorem e_wSet {i : Nat} {w : WE} {S : DS} {D : DEnds} : (wSet i w S D) = (w S fun d M => D.nx ⟨S.env.set i (some d), M⟩) := rfl
@[simp ↓] theorem e_wAsg {w : WE} {g : WG} {S : DS} {D : DEnds} : (wAsg w g S D) = (w S fun d M => g d ⟨S.env, M⟩ D.nx) := rfl
@[simp ↓] theorem e_wWeak {w : WE} {S : DS} {Q : VD} : (wWeak w S Q) = (w S fun d M => Q (weak d) M) := rfl
@[simp ↓] theorem e_wYes {S : DS} {Q : Bool → Mh → Prop} : (wYes S Q) = (Q true S.M) := rfl
@[simp ↓] theorem e_wDict0 {S : DS} {Q : MO → Mh → Prop} : (wDict0 S Q) = (Q (.dk []) S.M) := rfl
@[simp ↓] theorem e_wNoPart {S : DS} {Q : Option Int → Mh → Prop} : (wNoPart S Q) = (Q none S.M) := rfl
@[simp ↓] theorem e_wSlice {w : WE} {lo hi : WO} {S : DS} {Q : VD} : (wSlice w lo hi S Q) = (w S fun x M1 => lo ⟨S.env, M1⟩ fun a M2 => hi ⟨S.env, M2⟩ fun b M3 => ∃ d, slOf x a b = some d ∧ Q d M3) := rfl
@[simp ↓] theorem e_wSliceN {w : WE} {lo hi : WO} {S : DS} {Q : MO → Mh → Prop} : (wSliceN w lo hi S Q) = (w S fun x M1 => lo ⟨S.env, M1⟩ fun a M2 => hi ⟨S.env, M2⟩ fun b M3 => ∃ xs, lstOf M3 x = some xs ∧ Q (.lst (cutD xs a b)) M3) := rfl
@[simp ↓] theorem e_wFz {w : WN} {S : DS} {Q : VD} : (wFz w S Q) = (w S fun mo M => ∃ ds, mo = .lst ds ∧ Q (.fl ds) M) := rfl
@[simp ↓] theorem e_wNew {w : WN} {S : DS} {Q : VD} : (wNew w S Q) = (w S fun mo M => ∀ p, M p = none → Q (.ref p) (updM M p mo)) := rfl
@[simp ↓] theorem e_wIter {w : WE} {S : DS} {Q : List Dat → Mh → Prop} : (wIter w S Q) = (w S fun d M => ∃ ds, itOf d = some ds ∧ Q ds M) := rfl
@[simp ↓] theorem e_wZip {w u : WE} {S : DS} {Q : List Dat → Mh → Prop} : (wZip w u S Q) = (w S fun d M => u ⟨S.env, M⟩ fun d2 M2 => ∃ ds, zipOf d d2 = some ds ∧ Q ds M2) := rfl
@[simp ↓] theorem e_wEnum {w : WE} {S : DS} {Q : List Dat → Mh → Prop} : (wEnum w S Q) = (w S fun d M => ∃ xs, frOf d = some xs ∧ Q (enumD xs) M) := rfl
@[simp ↓] theorem e_fEq {x : Dat} {y : Dat} {M : Mh} {Q : VD} : (fEq x y M Q) = (EqOk x y ∧ Q (.bl (eqv x y)) M) := rfl
@[simp ↓] theorem e_fNe {x : Dat} {y : Dat} {M : Mh} {Q : VD} : (fNe x y M Q) = (EqOk x y ∧ Q (.bl (!eqv x y)) M) := rfl
@[simp ↓] theorem e_fIsN {x : Dat} {y : Dat} {M : Mh} {Q : VD} : (fIsN x y M Q) = (y = .non ∧ Q (.bl (isNon x)) M) := rfl
@[simp ↓] theorem e_fNotN {x : Dat} {y : Dat} {M : Mh} {Q : VD} : (fNotN x y M Q) = (y = .non ∧ Q (.bl (!isNon x)) M) := rfl
@[simp ↓] theorem e_fIx {x : Dat} {y : Dat} {M : Mh} {Q : VD} : (fIx x y M Q) = (∃ d, ixOf M x y = some d ∧ Q d M) := rfl
@[simp ↓] theorem e_fIn {x : Dat} {y : Dat} {M : Mh} {Q : VD} : (fIn x y M Q) = (∃ b, inOf M x y = some b ∧ Q (.bl b) M) := rfl
@[simp ↓] theorem e_fNotIn {x : Dat} {y : Dat} {M : Mh} {Q : VD} : (fNotIn x y M Q) = (∃ b, inOf M x y = some b ∧ Q (.bl (!b)) M) := rfl
@[simp ↓] theorem e_fIsi {n : Tg} {x : Dat} {M : Mh} {Q : VD} : (fIsi n x M Q) = (∃ t, tagOf M x = some t ∧ Q (.bl (isTag t n)) M) := rfl
@[simp ↓] theorem e_fLen {x : Dat} {M : Mh} {Q : VD} : (fLen x M Q) = (∃ n : Nat, lenOf M x = some n ∧ Q (.int n) M) := rfl
@[simp ↓] theorem e_fTupOf {x : Dat} {M : Mh} {Q : VD} : (fTupOf x M Q) = (∃ ds, seqOf M x = some ds ∧ Q (.tup ds) M) := rfl
@[simp ↓] theorem e_fLstOf {x : Dat} {M : Mh} {Q : MO → Mh → Prop} : (fLstOf x M Q) = (∃ ds, seqOf M x = some ds ∧ Q (.lst ds) M) := rfl
@[simp ↓] theorem e_fTupS {x : Dat} {M : Mh} {Q : VD} : (fTupS x M Q) = (∃ xs, lstOf M x = some xs ∧ Q (.stp xs) M) := rfl
@[simp ↓] theorem e_fAll {x : Dat} {M : Mh} {Q : VD} : (fAll x M Q) = (∃ bs : List Bool, lstOf M x = some (bs.map .bl) ∧ Q (.bl (bs.all id)) M) := rfl
@[simp ↓] theorem e_fAny {x : Dat} {M : Mh} {Q : VD} : (fAny x M Q) = (∃ bs : List Bool, lstOf M x = some (bs.map .bl) ∧ Q (.bl (bs.any id)) M) := rfl
@[simp ↓] theorem e_gTp {n : Nat} {gs : WGs} {d : Dat} {S : DS} {Q : DS → Prop} : (gTp n gs d S Q) = (∃ ds, seqOf S.M d = some ds ∧ ds.length = n ∧ gs ds S Q) := rfl
@[simp ↓] theorem e_wPar {i j : Nat} {ws : WA} {S : DS} {D : DEnds} : (wPar i j ws S D) = (ws S fun ds M => ∃ a b, ds = [a, b] ∧ D.nx ⟨(S.env.set i (some a)).set j (some b), M⟩) := rfl
@[simp ↓] theorem e_wPar3 {i j l : Nat} {ws : WA} {S : DS} {D : DEnds} : (wPar3 i j l ws S D) = (ws S fun ds M => ∃ a b c, ds = [a, b, c] ∧ D.nx ⟨((S.env.set i (some a)).set j (some b)).set l (some c), M⟩) := rfl
@[simp ↓] theorem e_gSet {wo wi : WE} {f : FSet} {v : Dat} {S : DS} {Q : DS → Prop} : (gSet wo wi f v S Q) = (wo S fun o M1 => wi ⟨S.env, M1⟩ fun i M2 => f o i v M2 fun M3 => Q ⟨S.env, M3⟩) := rfl
@[simp ↓] theorem e_wMetL {f : Dat → FL} {wo : WE} {ws : WA} {S : DS} {Q : VD} : (wMetL f wo ws S Q) = (wo S fun x M1 => isL M1 x ∧ ws ⟨S.env, M1⟩ fun ds M2 => f x ds M2 Q) := rfl
end Lk

namespace Lk
open PySem PySem.Spec L2
@[simp ↓] theorem isTag_N_N  : isTag .N .N = true := rfl
@[simp ↓] theorem isTag_N_B  : isTag .N .B = false := rfl
@[simp ↓] theorem isTag_N_I  : isTag .N .I = false := rfl
@[simp ↓] theorem isTag_N_S  : isTag .N .S = false := rfl
@[simp ↓] theorem isTag_N_T  : isTag .N .T = false := rfl
@[simp ↓] theorem isTag_N_L  : isTag .N .L = false := rfl
@[simp ↓] theorem isTag_N_D  : isTag .N .D = false := rfl
@[simp ↓] theorem isTag_B_N  : isTag .B .N = false := rfl
@[simp ↓] theorem isTag_B_B  : isTag .B .B = true := rfl
@[simp ↓] theorem isTag_B_I  : isTag .B .I = true := rfl
@[simp ↓] theorem isTag_B_S  : isTag .B .S = false := rfl
@[simp ↓] theorem isTag_B_T  : isTag .B .T = false := rfl
@[simp ↓] theorem isTag_B_L  : isTag .B .L = false := rfl
@[simp ↓] theorem isTag_B_D  : isTag .B .D = false := rfl
@[simp ↓] theorem isTag_I_N  : isTag .I .N = false := rfl
@[simp ↓] theorem isTag_I_B  : isTag .I .B = false := rfl
@[simp ↓] theorem isTag_I_I  : isTag .I .I = true := rfl
@[simp ↓] theorem isTag_I_S  : isTag .I .S = false := rfl
@[simp ↓] theorem isTag_I_T  : isTag .I .T = false := rfl
@[simp ↓] theorem isTag_I_L  : isTag .I .L = false := rfl
@[simp ↓] theorem isTag_I_D  : isTag .I .D = false := rfl
@[simp ↓] theorem isTag_S_N  : isTag .S .N = false := rfl
@[simp ↓] theorem isTag_S_B  : isTag .S .B = false := rfl
@[simp ↓] theorem isTag_S_I  : isTag .S .I = false := rfl
@[simp ↓] theorem isTag_S_S  : isTag .S .S = true := rfl
@[simp ↓] theorem isTag_S_T  : isTag .S .T = false := rfl
@[simp ↓] theorem isTag_S_L  : isTag .S .L = false := rfl
@[simp ↓] theorem isTag_S_D  : isTag .S .D = false := rfl
@[simp ↓] theorem isTag_T_N  : isTag .T .N = false := rfl
@[simp ↓] theorem isTag_T_B  : isTag .T .B = false := rfl
@[simp ↓] theorem isTag_T_I  : isTag .T .I = false := rfl
@[simp ↓] theorem isTag_T_S  : isTag .T .S = false := rfl
@[simp ↓] theorem isTag_T_T  : isTag .T .T = true := rfl
@[simp ↓] theorem isTag_T_L  : isTag .T .L = false := rfl
@[simp ↓] theorem isTag_T_D  : isTag .T .D = false := rfl
@[simp ↓] theorem isTag_L_N  : isTag .L .N = false := rfl
@[simp ↓] theorem isTag_L_B  : isTag .L .B = false := rfl
@[simp ↓] theorem isTag_L_I  : isTag .L .I = false := rfl
@[simp ↓] theorem isTag_L_S  : isTag .L .S = false := rfl
@[simp ↓] theorem isTag_L_T  : isTag .L .T = false := rfl
@[simp ↓] theorem isTag_L_L  : isTag .L .L = true := rfl
@[simp ↓] theorem isTag_L_D  : isTag .L .D = false := rfl
@[simp ↓] theorem isTag_D_N  : isTag .D .N = false := rfl
@[simp ↓] theorem isTag_D_B  : isTag .D .B = false := rfl
@[simp ↓] theorem isTag_D_I  : isTag .D .I = false := rfl
@[simp ↓] theorem isTag_D_S  : isTag .D .S = false := rfl
@[simp ↓] theorem isTag_D_T  : isTag .D .T = false := rfl
@[simp ↓] theorem isTag_D_L  : isTag .D .L = false := rfl
@[simp ↓] theorem isTag_D_D  : isTag .D .D = true := rfl
@[simp ↓] theorem tagOf_non {M : Mh} : tagOf M .non = some .N := rfl
@[simp ↓] theorem isNon_non  : isNon .non = true := rfl
@[simp ↓] theorem weak_non  : weak .non = .non := rfl
@[simp ↓] theorem tagOf_bl {M : Mh} {b : Bool} : tagOf M (.bl b) = some .B := rfl
@[simp ↓] theorem isNon_bl {b : Bool} : isNon (.bl b) = false := rfl
@[simp ↓] theorem weak_bl {b : Bool} : weak (.bl b) = (.bl b) := rfl
@[simp ↓] theorem tagOf_int {M : Mh} {i : Int} : tagOf M (.int i) = some .I := rfl
@[simp ↓] theorem isNon_int {i : Int} : isNon (.int i) = false := rfl
@[simp ↓] theorem weak_int {i : Int} : weak (.int i) = (.int i) := rfl
@[simp ↓] theorem tagOf_str {M : Mh} {x : Str} : tagOf M (.str x) = some .S := rfl
@[simp ↓] theorem isNon_str {x : Str} : isNon (.str x) = false := rfl
@[simp ↓] theorem weak_str {x : Str} : weak (.str x) = (.str x) := rfl
@[simp ↓] theorem tagOf_tup {M : Mh} {xs : List Dat} : tagOf M (.tup xs) = some .T := rfl
@[simp ↓] theorem isNon_tup {xs : List Dat} : isNon (.tup xs) = false := rfl
@[simp ↓] theorem weak_tup {xs : List Dat} : weak (.tup xs) = (.tup xs) := rfl
@[simp ↓] theorem tagOf_fl {M : Mh} {xs : List Dat} : tagOf M (.fl xs) = some .L := rfl
@[simp ↓] theorem isNon_fl {xs : List Dat} : isNon (.fl xs) = false := rfl
@[simp ↓] theorem weak_fl {xs : List Dat} : weak (.fl xs) = (.fl xs) := rfl
@[simp ↓] theorem tagOf_rd {M : Mh} {xs : List Dat} : tagOf M (.rd xs) = some .L := rfl
@[simp ↓] theorem isNon_rd {xs : List Dat} : isNon (.rd xs) = false := rfl
@[simp ↓] theorem weak_rd {xs : List Dat} : weak (.rd xs) = (.rd xs) := rfl
@[simp ↓] theorem tagOf_stp {M : Mh} {xs : List Dat} : tagOf M (.stp xs) = some .T := rfl
@[simp ↓] theorem isNon_stp {xs : List Dat} : isNon (.stp xs) = false := rfl
@[simp ↓] theorem weak_stp {xs : List Dat} : weak (.stp xs) = .tup xs := rfl
@[simp ↓] theorem isNon_ref {a : Addr} : isNon (.ref a) = false := rfl
@[simp ↓] theorem weak_ref {a : Addr} : weak (.ref a) = .ref a := rfl
@[simp ↓] theorem frOf_tup {xs : List Dat} : frOf (.tup xs) = some xs := rfl
@[simp ↓] theorem itOf_tup {xs : List Dat} : itOf (.tup xs) = some xs := rfl
@[simp ↓] theorem lenOf_tup {M : Mh} {xs : List Dat} : lenOf M (.tup xs) = some xs.length := rfl
@[simp ↓] theorem seqOf_tup {M : Mh} {xs : List Dat} : seqOf M (.tup xs) = some xs := rfl
@[simp ↓] theorem ixOf_tup {M : Mh} {i : Int} {xs : List Dat} : ixOf M (.tup xs) (.int i) = pyIx xs i := rfl
@[simp ↓] theorem inOf_tup {M : Mh} {xs : List Dat} {d : Dat} : inOf M d (.tup xs) = inFlat d xs := rfl
@[simp ↓] theorem frOf_fl {xs : List Dat} : frOf (.fl xs) = some xs := rfl
@[simp ↓] theorem itOf_fl {xs : List Dat} : itOf (.fl xs) = some xs := rfl
@[simp ↓] theorem lenOf_fl {M : Mh} {xs : List Dat} : lenOf M (.fl xs) = some xs.length := rfl
@[simp ↓] theorem seqOf_fl {M : Mh} {xs : List Dat} : seqOf M (.fl xs) = some xs := rfl
@[simp ↓] theorem ixOf_fl {M : Mh} {i : Int} {xs : List Dat} : ixOf M (.fl xs) (.int i) = pyIx xs i := rfl
@[simp ↓] theorem inOf_fl {M : Mh} {xs : List Dat} {d : Dat} : inOf M d (.fl xs) = inFlat d xs := rfl
@[simp ↓] theorem frOf_rd {xs : List Dat} : frOf (.rd xs) = some xs := rfl
@[simp ↓] theorem itOf_rd {xs : List Dat} : itOf (.rd xs) = some xs := rfl
@[simp ↓] theorem lenOf_rd {M : Mh} {xs : List Dat} : lenOf M (.rd xs) = some xs.length := rfl
@[simp ↓] theorem seqOf_rd {M : Mh} {xs : List Dat} : seqOf M (.rd xs) = some xs := rfl
@[simp ↓] theorem ixOf_rd {M : Mh} {i : Int} {xs : List Dat} : ixOf M (.rd xs) (.int i) = pyIx xs i := rfl
@[simp ↓] theorem inOf_rd {M : Mh} {xs : List Dat} {d : Dat} : inOf M d (.rd xs) = inFlat d xs := rfl
@[simp ↓] theorem lstOf_fl {M : Mh} {xs : List Dat} : lstOf M (.fl xs) = some xs := rfl
@[simp ↓] theorem lstOf_rd {M : Mh} {xs : List Dat} : lstOf M (.rd xs) = some xs := rfl
@[simp ↓] theorem itOf_str {x : Str} : itOf (.str x) = some (signs x) := rfl
@[simp ↓] theorem ownOf_fl {M : Mh} {xs : List Dat} : ownOf M (.fl xs) = some xs := rfl
@[simp ↓] theorem keyOf_int {i : Int} : keyOf (.int i) = some (.inl i) := rfl
@[simp ↓] theorem keyOf_str {x : Str} : keyOf (.str x) = some (.inr x) := rfl
@[simp ↓] theorem slOf_tup {xs : List Dat} {lo hi : Option Int} : slOf (.tup xs) lo hi = some (.tup (cutD xs lo hi)) := rfl
@[simp ↓] theorem fLt_i {M : Mh} {i : Int} {j : Int} {Q : VD} : fLt (.int i) (.int j) M Q = Q (.bl (decide (i < j))) M := rfl
@[simp ↓] theorem fLt_s {M : Mh} {x : Str} {y : Str} {Q : VD} : fLt (.str x) (.str y) M Q = Q (.bl (ltS x y)) M := rfl
@[simp ↓] theorem fLe_i {M : Mh} {i : Int} {j : Int} {Q : VD} : fLe (.int i) (.int j) M Q = Q (.bl (decide (i ≤ j))) M := rfl
@[simp ↓] theorem fLe_s {M : Mh} {x : Str} {y : Str} {Q : VD} : fLe (.str x) (.str y) M Q = Q (.bl (!ltS y x)) M := rfl
@[simp ↓] theorem fGt_i {M : Mh} {i : Int} {j : Int} {Q : VD} : fGt (.int i) (.int j) M Q = Q (.bl (decide (j < i))) M := rfl
@[simp ↓] theorem fGt_s {M : Mh} {x : Str} {y : Str} {Q : VD} : fGt (.str x) (.str y) M Q = Q (.bl (ltS y x)) M := rfl
@[simp ↓] theorem fGe_i {M : Mh} {i : Int} {j : Int} {Q : VD} : fGe (.int i) (.int j) M Q = Q (.bl (decide (j ≤ i))) M := rfl
@[simp ↓] theorem fGe_s {M : Mh} {x : Str} {y : Str} {Q : VD} : fGe (.str x) (.str y) M Q = Q (.bl (!ltS x y)) M := rfl
@[simp ↓] theorem fAdd_i {M : Mh} {i : Int} {j : Int} {Q : VD} : fAdd (.int i) (.int j) M Q = Q (.int (i + j)) M := rfl
@[simp ↓] theorem fAdd_s {M : Mh} {x : Str} {y : Str} {Q : VD} : fAdd (.str x) (.str y) M Q = (x.length + y.length ≤ sizeLine ∧ Q (.str (x ++ y)) M) := rfl
@[simp ↓] theorem fAdd_t {M : Mh} {xs : List Dat} {ys : List Dat} {Q : VD} : fAdd (.tup xs) (.tup ys) M Q = (xs.length + ys.length ≤ sizeLine ∧ Q (.tup (xs ++ ys)) M) := rfl
@[simp ↓] theorem fI_i {M : Mh} {i : Int} {j : Int} {Q : VD} {C : Int → Int → Prop} {g : Int → Int → Int} : fI C g (.int i) (.int j) M Q = (C i j ∧ Q (.int (g i j)) M) := rfl
@[simp ↓] theorem fI0_i {M : Mh} {i : Int} {j : Int} {Q : VD} {g : Int → Int → Int} : fI0 g (.int i) (.int j) M Q = Q (.int (g i j)) M := rfl
@[simp ↓] theorem fNeg_i {M : Mh} {i : Int} {Q : VD} : fNeg (.int i) M Q = Q (.int (-i)) M := rfl
@[simp ↓] theorem fMax2_i {M : Mh} {i : Int} {j : Int} {Q : VD} : fMax2 (.int i) (.int j) M Q = Q (.int (if j > i then j else i)) M := rfl
@[simp ↓] theorem fMin2_i {M : Mh} {i : Int} {j : Int} {Q : VD} : fMin2 (.int i) (.int j) M Q = Q (.int (if j < i then j else i)) M := rfl
@[simp ↓] theorem fInt_i {M : Mh} {i : Int} {Q : VD} : fInt (.int i) M Q = Q (.int i) M := rfl
@[simp ↓] theorem fInt_b {M : Mh} {b : Bool} {Q : VD} : fInt (.bl b) M Q = Q (.int (if b then 1 else 0)) M := rfl
@[simp ↓] theorem onB_blE {b : Bool} {k : Bool → Prop} : onB (.bl b) k = k b := rfl
@[simp ↓] theorem f1_one {M : Mh} {Q : VD} {d : Dat} {f : Dat → Mh → VD → Prop} : f1 f [d] M Q = f d M Q := rfl
@[simp ↓] theorem f1N_one {M : Mh} {QN : MO → Mh → Prop} {d : Dat} {f : Dat → Mh → (MO → Mh → Prop) → Prop} : f1N f [d] M QN = f d M QN := rfl
@[simp ↓] theorem f2_two {M : Mh} {Q : VD} {d : Dat} {e : Dat} {f : F2} : f2 f [d, e] M Q = f d e M Q := rfl
@[simp ↓] theorem onVal_val {M : Mh} {Q : VD} {d : Dat} : onVal Q (.val d) M = Q d M := rfl
@[simp ↓] theorem onVal_lst {M : Mh} {xs : List Dat} {Q : VD} : onVal Q (.new (.lst xs)) M = Q (.fl xs) M := rfl
@[simp ↓] theorem onNew_new {M : Mh} {Q : MO → Mh → Prop} {mo : MO} : onNew Q (.new mo) M = Q mo M := rfl
@[simp ↓] theorem gMore_cons {d : Dat} {ds : List Dat} {g : WG} {gs : WGs} {S : DS} {Q : DS → Prop} : gMore g gs (d :: ds) S Q = (g d S fun S2 => gs ds S2 Q) := rfl
@[simp ↓] theorem gEnd_nil {S : DS} {Q : DS → Prop} : gEnd [] S Q = Q S := rfl
@[simp ↓] theorem gN_e {i : Nat} {d : Dat} {S : DS} {Q : DS → Prop} : gN i d S Q = Q ⟨S.env.set i (some d), S.M⟩ := rfl
@[simp ↓] theorem wPart_e {w : WE} {S : DS} {Q : Option Int → Mh → Prop} : wPart w S Q = (w S fun d M => match d with
  | .int i => Q (some i) M
  | _ => False) := rfl
@[simp ↓] theorem wVar_e {i : Nat} {S : DS} {Q : VD} : wVar i S Q = (match S.env[i]? with
  | some (some d) => Q d S.M
  | _ => False) := rfl
@[simp ↓] theorem bodyEnds_rt {Q : Res → Mh → Prop} {r : Res} {M : Mh} : (bodyEnds Q).rt r M = ∃ M0, LeM M0 M ∧ Q r M0 := rfl
theorem ends {Q : Res → Mh → Prop} {r : Res} {M : Mh} (q : Q r M) : ∃ M0, LeM M0 M ∧ Q r M0 := ⟨M, .refl M, q⟩
@[simp ↓] theorem startD_e {n : Nat} {ds : List Dat} : startD n ds = ds.map some ++ List.replicate n none := rfl
@[simp ↓] theorem flatD_str {x : Str} : flatD (.str x) = true := rfl
@[simp ↓] theorem flatD_int {x : Int} : flatD (.int x) = true := rfl
@[simp ↓] theorem flatD_non : flatD .non = true := rfl
@[simp ↓] theorem flatD_bl {x : Bool} : flatD (.bl x) = true := rfl
@[simp ↓] theorem e_inFlat {d : Dat} {xs : List Dat} : inFlat d xs = (if flatD d = true ∧ (xs.all flatD) = true then some (xs.any fun x => eqv x d) else none) := rfl
@[simp ↓] theorem eqv_str (a b : Str) : eqv (.str a) (.str b) = decide (a = b) := by
  unfold eqv toPy PyData.eqv
  first | rfl | (rw [Bool.eq_iff_iff]; simp)
@[simp ↓] theorem eqv_int (a b : Int) : eqv (.int a) (.int b) = decide (a = b) := by
  unfold eqv toPy PyData.eqv
  first | rfl | (rw [Bool.eq_iff_iff]; simp)

@[simp ↓] theorem cutD_hi {α : Type} (xs : List α) (n : Nat) : cutD xs none (some (n : Int)) = xs.take n := by
  unfold cutD
  rw [HT.sIx_nat, HT.sIx_none, Nat.sub_zero, List.drop_zero]
  rw [List.take_eq_take_iff]
  omega
@[simp ↓] theorem cutD_lo {α : Type} (xs : List α) (n : Nat) : cutD xs (some (n : Int)) none = xs.drop n := by
  unfold cutD
  rw [HT.sIx_nat, HT.sIx_none]
  rcases Nat.le_total n xs.length with h | h
  · rw [Nat.min_eq_left h, List.take_of_length_le (by simp)]
  · rw [Nat.min_eq_right h, List.drop_eq_nil_of_le h, List.drop_length, List.take_nil]
@[simp ↓] theorem pyIx_nat {α : Type} (xs : List α) (n : Nat) : pyIx xs (n : Int) = xs[n]? := by
  unfold pyIx
  simp
@[simp ↓] theorem pyIx_0 {α : Type} (xs : List α) : pyIx xs 0 = xs[0]? := pyIx_nat xs 0
@[simp ↓] theorem pyIx_1 {α : Type} (xs : List α) : pyIx xs 1 = xs[1]? := pyIx_nat xs 1
@[simp ↓] theorem pyIx_2 {α : Type} (xs : List α) : pyIx xs 2 = xs[2]? := pyIx_nat xs 2
@[simp ↓] theorem cutD_1 {α : Type} (xs : List α) : cutD xs (some 1) none = xs.tail := by rw [show (1 : Int) = ((1 : Nat) : Int) from rfl, cutD_lo, List.drop_one]
@[simp ↓] theorem eqOk_i_i {i : Int} {j : Int} : EqOk (.int i) (.int j) = True := by simp only [eq_iff_iff, iff_true]; exact .inl rfl
@[simp ↓] theorem eqOk_s_s {x : Str} {y : Str} : EqOk (.str x) (.str y) = True := by simp only [eq_iff_iff, iff_true]; exact .inl rfl
@[simp ↓] theorem eqOk_b_b {b : Bool} {c : Bool} : EqOk (.bl b) (.bl c) = True := by simp only [eq_iff_iff, iff_true]; exact .inl rfl
@[simp ↓] theorem eqOk_n_i {i : Int} : EqOk (.non) (.int i) = True := by simp only [eq_iff_iff, iff_true]; exact .inl rfl
@[simp ↓] theorem eqOk_i_n {i : Int} : EqOk (.int i) (.non) = True := by simp only [eq_iff_iff, iff_true]; exact .inl rfl
@[simp ↓] theorem eqOk_n_n  : EqOk (.non) (.non) = True := by simp only [eq_iff_iff, iff_true]; exact .inl rfl
@[simp ↓] theorem eqOk_s_i {i : Int} {x : Str} : EqOk (.str x) (.int i) = True := by simp only [eq_iff_iff, iff_true]; exact .inl rfl
@[simp ↓] theorem eqOk_i_s {i : Int} {x : Str} : EqOk (.int i) (.str x) = True := by simp only [eq_iff_iff, iff_true]; exact .inl rfl
@[simp ↓] theorem eqOk_n_s {x : Str} : EqOk (.non) (.str x) = True := by simp only [eq_iff_iff, iff_true]; exact .inl rfl
@[simp ↓] theorem eqOk_s_n {x : Str} : EqOk (.str x) (.non) = True := by simp only [eq_iff_iff, iff_true]; exact .inl rfl
@[simp ↓] theorem isL_upd {M : Mh} {p : Addr} {xs : List Dat} : isL (updM M p (.lst xs)) (.ref p) = True := by simp only [eq_iff_iff, iff_true]; exact ⟨p, xs, rfl, updM_same⟩
@[simp ↓] theorem mAppend_upd {M : Mh} {p : Addr} {xs : List Dat} {d : Dat} {Q : VD} : mAppend (.ref p) [d] (updM M p (.lst xs)) Q = (xs.length < sizeLine ∧ Q .non (updM M p (.lst (xs ++ [d])))) := by
  simp [mAppend, updM_same, updM_updM]
@[simp ↓] theorem seqOf_upd {M : Mh} {p : Addr} {xs : List Dat} : seqOf (updM M p (.lst xs)) (.ref p) = some xs := by simp [seqOf, lstOf, updM_same]
@[simp ↓] theorem lstOf_upd {M : Mh} {p : Addr} {xs : List Dat} : lstOf (updM M p (.lst xs)) (.ref p) = some xs := by simp [lstOf, updM_same]
@[simp ↓] theorem ownOf_upd {M : Mh} {p : Addr} {xs : List Dat} : ownOf (updM M p (.lst xs)) (.ref p) = some xs := by simp [ownOf, lstOf, updM_same]
@[simp ↓] theorem lenOf_upd {M : Mh} {p : Addr} {xs : List Dat} : lenOf (updM M p (.lst xs)) (.ref p) = some xs.length := by simp [lenOf, updM_same]
@[simp ↓] theorem ixOf_upd {M : Mh} {p : Addr} {xs : List Dat} {i : Int} : ixOf (updM M p (.lst xs)) (.ref p) (.int i) = pyIx xs i := by simp [ixOf, updM_same]
@[simp ↓] theorem inOf_upd {M : Mh} {p : Addr} {xs : List Dat} {d : Dat} : inOf (updM M p (.lst xs)) d (.ref p) = inFlat d xs := by simp [inOf, updM_same]
theorem u_append {M : Mh} {p : Addr} {xs : List Dat} {d : Dat} {Q : VD} (h : M p = some (.lst xs)) (hl : xs.length < sizeLine) (q : Q .non (updM M p (.lst (xs ++ [d])))) : isL M (.ref p) ∧ mAppend (.ref p) [d] M Q := ⟨⟨p, xs, rfl, h⟩, xs, h, hl, q⟩
/-- an object that is no more needed -/
theorem drop_new {env : List (Option Dat)} {M : Mh} {p q : Addr} {A A' B : MO} {N : DS → Prop} (hq : M q = none) (hne : p ≠ q) (h : N ⟨env, updM M p A'⟩) : ∃ S0, Imp ⟨env, updM (updM (updM M p A) q B) p A'⟩ S0 ∧ N S0 := by
  refine ⟨⟨env, updM M p A'⟩, .le ⟨rfl, fun _ _ e => e, ?_⟩, h⟩
  show LeM (updM M p A') (updM (updM (updM M p A) q B) p A')
  rw [updM_comm hne, updM_updM]
  exact .upd2 (.upd hq)
theorem endsU {Q : Res → Mh → Prop} {r : Res} {M : Mh} {p : Addr} {o : MO} (h : M p = none) (q : Q r M) : ∃ M0, LeM M0 (updM M p o) ∧ Q r M0 := ⟨M, .upd h, q⟩
@[simp ↓] theorem zipOf_tup {xs ys : List Dat} : zipOf (.tup xs) (.tup ys) = some (pairsD xs ys) := rfl
@[simp ↓] theorem zipOf_fl {xs ys : List Dat} : zipOf (.fl xs) (.fl ys) = some (pairsD xs ys) := rfl
@[simp ↓] theorem kD_inl {i : Int} : kD (.inl i) = .int i := rfl
@[simp ↓] theorem kD_inr {x : Str} : kD (.inr x) = .str x := rfl
@[simp ↓ 2000] theorem fMax2_n {m n : Nat} {M : Mh} {Q : VD} : fMax2 (.int (m : Nat)) (.int (n : Nat)) M Q = Q (.int (max m n : Nat)) M := by
  rw [fMax2_i]
  congr 2
  split <;> omega
@[simp ↓ 2000] theorem fMin2_n {m n : Nat} {M : Mh} {Q : VD} : fMin2 (.int (m : Nat)) (.int (n : Nat)) M Q = Q (.int (min m n : Nat)) M := by
  rw [fMin2_i]
  congr 2
  split <;> omega
@[simp ↓] theorem RB_n {n : Nat} : RB (n : Int) = (n ≤ 16777216) := by
  unfold RB
  simp only [eq_iff_iff]
  omega
/-! ### loops -/
theorem forL_ind {α : Type} {enc : α → Dat} {g : WG} {t : WS} {D : DEnds} (I : List α → DS → Prop) (h0 : ∀ S, I [] S → D.nx S)
    (h1 : ∀ a l S, I (a :: l) S → ∀ N : DS → Prop, (∀ S', I l S' → N S') → g (enc a) S fun S1 => t S1 { D with nx := fun S' => ∃ S0, Imp S' S0 ∧ N S0, ct := fun S' => ∃ S0, Imp S' S0 ∧ N S0, bk := D.nx }) :
    ∀ l S, I l S → wForL g t (l.map enc) S D
  | [], S, h => h0 S h
  | a :: l, S, h => h1 a l S h _ (forL_ind I h0 h1 l)
theorem forR_ind {g : WG} {t : WS} {D : DEnds} {n : Nat} (I : Nat → DS → Prop) (h0 : ∀ S, I n S → D.nx S)
    (h1 : ∀ k S, k < n → I k S → ∀ N : DS → Prop, (∀ S', I (k + 1) S' → N S') → g (.int (k : Nat)) S fun S1 => t S1 { D with nx := fun S' => ∃ S0, Imp S' S0 ∧ N S0, ct := fun S' => ∃ S0, Imp S' S0 ∧ N S0, bk := D.nx }) (S : DS) (h : I 0 S) : wForL g t (intsD 0 n) S D := by
  refine forL_ind (enc := fun i : Nat => .int (0 + (i : Int))) (fun l S => ∃ k, k ≤ n ∧ l = (List.range n).drop k ∧ I k S) ?_ ?_ (List.range n) S ⟨0, Nat.zero_le _, rfl, h⟩
  · rintro S ⟨k, hk, e, hI⟩
    have : k = n := by
      have z := congrArg List.length e
      simp at z
      omega
    subst this
    exact h0 S hI
  · rintro a l S ⟨k, hk, e, hI⟩ N hN
    have hlt : k < n := by
      have z := congrArg List.length e
      simp at z
      omega
    rw [List.drop_eq_getElem_cons (by simpa using hlt)] at e
    simp only [List.getElem_range, List.cons.injEq] at e
    obtain ⟨e1, e2⟩ := e
    subst e1
    have z := h1 a S hlt hI N fun S' hS' => hN S' ⟨a + 1, hlt, e2, hS'⟩
    have e0 : (0 : Int) + (a : Int) = (a : Nat) := by omega
    rw [e0]
    exact z
theorem nxt {N : DS → Prop} {S : DS} (h : N S) : ∃ S0, Imp S S0 ∧ N S0 := ⟨S, .refl S, h⟩
theorem compL_pure {α : Type} {enc : α → Dat} {g : WG} {wt : WT} {we : WE} {env : List (Option Dat)} {M : Mh} (p : α → Bool) (f : α → Dat) {Q : List Dat → Mh → Prop} :
    ∀ (l : List α) (acc : List Dat), (∀ a ∈ l, ∀ (Q1 : Dat → Mh → Prop) (Q2 : Mh → Prop), (p a = true → Q1 (f a) M) → (p a = false → Q2 M) → g (enc a) ⟨env, M⟩ fun S1 => wt S1 fun b M1 => if b = true then we ⟨S1.env, M1⟩ Q1 else Q2 M1) →
      Q (acc ++ (l.filter p).map f) M → wCompL g wt we env (l.map enc) acc M Q
  | [], acc, _, q => by simpa [wCompL] using q
  | a :: l, acc, h, q => by
    refine h a List.mem_cons_self _ _ (fun hp => ?_) fun hp => ?_
    · refine compL_pure p f l _ (fun b hb => h b (List.mem_cons_of_mem _ hb)) ?_
      rw [List.filter_cons_of_pos hp, List.map_cons] at q
      simpa using q
    · refine compL_pure p f l _ (fun b hb => h b (List.mem_cons_of_mem _ hb)) ?_
      rw [List.filter_cons_of_neg (by simp [hp])] at q
      exact q
theorem compL_map {α : Type} {enc : α → Dat} {g : WG} {we : WE} {env : List (Option Dat)} {M : Mh} (f : α → Dat) {Q : List Dat → Mh → Prop} (l : List α)
    (h : ∀ a ∈ l, ∀ (Q1 : Dat → Mh → Prop), Q1 (f a) M → g (enc a) ⟨env, M⟩ fun S1 => we ⟨S1.env, S1.M⟩ Q1) (q : Q (l.map f) M) : wCompL g wYes we env (l.map enc) [] M Q := by
  refine compL_pure (fun _ => true) f l [] (fun a ha Q1 Q2 h1 _ => ?_) (by rw [List.filter_eq_self.mpr fun _ _ => rfl]; exact q)
  have z := h a ha Q1 (h1 rfl)
  simpa [wYes] using z
theorem setL_pure {α : Type} {enc : α → Dat} {g : WG} {wt : WT} {we : WE} {env : List (Option Dat)} {M : Mh} (p : α → Bool) (f : α → Key) {Q : List Key → Mh → Prop} :
    ∀ (l : List α) (ks : List Key), ks.length + l.length + 1 < scanBound → (∀ a ∈ l, ∀ (Q1 : Dat → Mh → Prop) (Q2 : Mh → Prop), (p a = true → Q1 (kD (f a)) M) → (p a = false → Q2 M) → g (enc a) ⟨env, M⟩ fun S1 => wt S1 fun b M1 => if b = true then we ⟨S1.env, M1⟩ Q1 else Q2 M1) →
      Q (addKs ks ((l.filter p).map f)) M → wSetL g wt we env (l.map enc) ks M Q
  | [], ks, _, _, q => by simpa [wSetL, addKs] using q
  | a :: l, ks, hb, h, q => by
    rw [List.length_cons] at hb
    refine h a List.mem_cons_self _ _ (fun hp => ?_) fun hp => ?_
    · refine ⟨f a, by cases f a <;> rfl, by omega, setL_pure p f l _ (by have := addK_len ks (f a); omega) (fun b hb => h b (List.mem_cons_of_mem _ hb)) ?_⟩
      rw [List.filter_cons_of_pos hp, List.map_cons] at q
      exact q
    · refine setL_pure p f l _ (by omega) (fun b hb => h b (List.mem_cons_of_mem _ hb)) ?_
      rw [List.filter_cons_of_neg (by simp [hp])] at q
      exact q
theorem dictL_map {α : Type} {enc : α → Dat} {g : WG} {wk wv : WE} {env : List (Option Dat)} {M : Mh} (kf : α → Key) (vf : α → Dat) {Q : List (Key × Dat) → Mh → Prop} :
    ∀ (l : List α) (acc : List (Key × Dat)), acc.length + l.length < sizeLine → (∀ a ∈ l, ∀ R : Dat → Dat → Mh → Prop, R (kD (kf a)) (vf a) M → g (enc a) ⟨env, M⟩ fun S1 => wk ⟨S1.env, S1.M⟩ fun y M2 => wv ⟨S1.env, M2⟩ fun z M3 => R y z M3) →
      (acc.map (·.1) ++ l.map kf).Nodup → Q (acc ++ l.map fun a => (kf a, vf a)) M → wDictL g wYes wk wv env (l.map enc) acc M Q
  | [], acc, _, _, _, q => by simpa [wDictL] using q
  | a :: l, acc, hl, h, nd, q => by
    rw [List.length_cons] at hl
    have hp : putD acc (kf a) (vf a) = acc ++ [(kf a, vf a)] := by
      unfold putD
      rw [if_neg]
      intro hany
      rw [List.any_eq_true] at hany
      obtain ⟨kv, h1, h2⟩ := hany
      rw [decide_eq_true_eq] at h2
      rw [List.nodup_append] at nd
      exact nd.2.2 kv.1 (List.mem_map.mpr ⟨kv, h1, rfl⟩) (kf a) (by simp) h2
    have z := h a List.mem_cons_self (fun y z M3 => ∃ k, keyOf y = some k ∧ acc.length < sizeLine ∧ wDictL g wYes wk wv env (l.map enc) (putD acc k z) M3 Q) ⟨kf a, by cases kf a <;> rfl, by omega, by
      rw [hp]
      refine dictL_map kf vf l _ (by simp; omega) (fun b hb => h b (List.mem_cons_of_mem _ hb)) ?_ (by simpa using q)
      simpa using nd⟩
    simpa [wDictL, wYes] using z
/-! ### sorted -/
theorem sortD_ints (xs : List Int) : sortD (xs.map .int) = (xs.mergeSort fun i j => decide (i ≤ j)).map .int := by
  unfold sortD
  rw [List.map_mergeSort (s := PySem.W.dataLe false toPy)]
  intro a _ b _
  rw [PySem.W.dataLe_eq]
  show _ = !PySem.W.dataLt (PyData.int b) (PyData.int a)
  rw [PySem.W.dataLt_int, PySem.W.not_lt_int]
def ssort (xs : List Str) : List Str := xs.mergeSort fun a b => !ltS b a
theorem sortD_strs (xs : List Str) : sortD (xs.map .str) = (ssort xs).map .str := by
  unfold sortD ssort
  rw [List.map_mergeSort (s := PySem.W.dataLe false toPy)]
  intro a _ b _
  rw [PySem.W.dataLe_eq]
  show _ = !PySem.W.dataLt (PyData.str b) (PyData.str a)
  rw [PySem.W.dataLt_str]
  rfl
theorem sortOk_ints (xs : List Int) : SortOk (xs.map .int) where
  pl := fun d hd => by obtain ⟨i, _, rfl⟩ := List.mem_map.mp hd; rfl
  al := fun d hd e he => by
    simp only [List.map_map, List.mem_map, Function.comp] at hd he
    obtain ⟨i, _, rfl⟩ := hd
    obtain ⟨j, _, rfl⟩ := he
    simp [toPy, PySem.W.alike]
  kn := .inr fun d hd => by
    simp only [List.map_map, List.mem_map, Function.comp] at hd
    obtain ⟨i, _, rfl⟩ := hd
    exact ⟨by simp [toPy], fun xs => by simp [toPy]⟩
  dp := fun d hd => by obtain ⟨i, _, rfl⟩ := List.mem_map.mp hd; simp [toPy, PyData.depth]
theorem sortOk_strs (xs : List Str) : SortOk (xs.map .str) where
  pl := fun d hd => by obtain ⟨i, _, rfl⟩ := List.mem_map.mp hd; rfl
  al := fun d hd e he => by
    simp only [List.map_map, List.mem_map, Function.comp] at hd he
    obtain ⟨i, _, rfl⟩ := hd
    obtain ⟨j, _, rfl⟩ := he
    simp [toPy, PySem.W.alike]
  kn := .inr fun d hd => by
    simp only [List.map_map, List.mem_map, Function.comp] at hd
    obtain ⟨i, _, rfl⟩ := hd
    exact ⟨by simp [toPy], fun xs => by simp [toPy]⟩
  dp := fun d hd => by obtain ⟨i, _, rfl⟩ := List.mem_map.mp hd; simp [toPy, PyData.depth]
def isort (xs : List Int) : List Int := xs.mergeSort fun i j => decide (i ≤ j)
def dedup (l : List Int) : List Int := l.foldl (fun acc x => if x ∈ acc then acc else acc ++ [x]) []
theorem isort_perm {xs ys : List Int} (h : xs.Perm ys) : isort xs = isort ys := by
  unfold isort
  have tr : ∀ a b c : Int, decide (a ≤ b) = true → decide (b ≤ c) = true → decide (a ≤ c) = true := fun a b c h1 h2 => by simp at *; omega
  have to : ∀ a b : Int, (decide (a ≤ b) || decide (b ≤ a)) = true := fun a b => by simp; omega
  refine List.Perm.eq_of_pairwise (le := fun i j => decide (i ≤ j) = true) (fun a b _ _ h1 h2 => by simp at h1 h2; omega) (List.pairwise_mergeSort tr to xs) (List.pairwise_mergeSort tr to ys) ?_
  exact (List.mergeSort_perm xs _).trans (h.trans (List.mergeSort_perm ys _).symm)
theorem addKs_ints (l acc : List Int) : addKs (acc.map Sum.inl) (l.map Sum.inl) = (l.foldl (fun acc x => if x ∈ acc then acc else acc ++ [x]) acc).map Sum.inl := by
  induction l generalizing acc with
  | nil => rfl
  | cons x l ih =>
    show addKs (addK (acc.map Sum.inl) (Sum.inl x)) (l.map Sum.inl) = _
    have e : addK (acc.map Sum.inl) (Sum.inl x : Key) = (if x ∈ acc then acc else acc ++ [x]).map Sum.inl := by
      unfold addK
      by_cases h : x ∈ acc
      · rw [if_pos h, if_pos (List.mem_map.mpr ⟨x, h, rfl⟩)]
      · rw [if_neg h, if_neg (fun z => by
          obtain ⟨y, hy, e⟩ := List.mem_map.mp z
          exact h (Sum.inl.inj e ▸ hy)), List.map_append]
        rfl
    rw [e, ih]
    rfl
theorem perm_ints {ks : List Key} {l : List Int} (h : ks.Perm (l.map Sum.inl)) : ∃ l' : List Int, ks = l'.map Sum.inl ∧ l'.Perm l := by
  refine ⟨ks.filterMap Sum.getLeft?, ?_, ?_⟩
  · have hm : ∀ k ∈ ks, ∃ i : Int, k = Sum.inl i := fun k hk => by
      obtain ⟨i, _, e⟩ := List.mem_map.mp (h.mem_iff.mp hk)
      exact ⟨i, e.symm⟩
    clear h
    induction ks with
    | nil => rfl
    | cons k ks ih =>
      obtain ⟨i, rfl⟩ := hm k List.mem_cons_self
      have z := ih fun k hk => hm k (List.mem_cons_of_mem _ hk)
      show _ = Sum.inl i :: List.map Sum.inl (List.filterMap Sum.getLeft? ks)
      rw [← z]
  · have z := h.filterMap Sum.getLeft?
    rw [List.filterMap_map] at z
    have e : ∀ l : List Int, (List.filterMap ((Sum.getLeft? : Key → Option Int) ∘ Sum.inl) l) = l := fun l => by
      induction l with
      | nil => rfl
      | cons x l ih =>
        show x :: _ = x :: l
        rw [ih]
    rw [e] at z
    exact z
theorem col_set {w : World} {M : Mh} {p : Addr} {ks : List Key} {R : List Dat → Prop} (h : ∀ ks' : List Key, ks'.Perm ks → R (ks'.map kD)) : colD w (updM M p (.set w ks)) (.ref p) R := by
  simp only [colD, updM_same]
  exact ⟨trivial, h⟩
/-- sorted(a set of whole numbers) -/
theorem sorted_set {w : World} {M : Mh} {p : Addr} {l : List Int} {R : List Dat → Prop} (h : R ((isort (dedup l)).map .int)) : colD w (updM M p (.set w (addKs [] (l.map Sum.inl)))) (.ref p) fun ds => SortOk ds ∧ R (sortD ds) := by
  refine col_set fun ks' pm => ?_
  have e := addKs_ints l []
  rw [List.map_nil] at e
  rw [e] at pm
  obtain ⟨l', rfl, pm'⟩ := perm_ints pm
  have ek : (l'.map (Sum.inl : Int → Key)).map kD = l'.map .int := by rw [List.map_map]; rfl
  rw [ek]
  refine ⟨sortOk_ints _, ?_⟩
  rw [sortD_ints]
  have z := isort_perm pm'
  unfold isort at z
  rw [z]
  exact h
/-! ### data -/
abbrev Cont := List (Str × List Int)
def dI (xs : List Int) : Dat := .tup (xs.map .int)
def dC (c : Cont) : Dat := .tup (c.map fun p => .tup [.str p.1, dI p.2])
def dV (v : List (Str × Int)) : Dat := .tup (v.map fun p => .tup [.str p.1, .int p.2])
def dO : Option Int → Dat
  | none => .non
  | some i => .int i
def dT (t : List (Option Int)) : Dat := .tup (t.map dO)
/-- the bin a's things -/
def getc (c : Cont) (a : Str) : Option (List Int) := (c.find? fun p => decide (p.1 = a)).map (·.2)
def setc (c : Cont) (a : Str) (xs : List Int) : Cont := c.map fun p => (p.1, if p.1 = a then xs else p.2)
def vget (v : List (Str × Int)) (a : Str) : Option Int := (v.find? fun p => decide (p.1 = a)).map (·.2)
inductive Cmd where
  | put (a : Str) (k : Int) | putN (a n : Str) | take (a : Str) | peek (a : Str) | drop (a : Str) | move (a b : Str) | pour (a b : Str) | swap (a b : Str)
def dCmd : Cmd → Dat
  | .put a k => .tup [.str "put", .str a, .int k]
  | .putN a n => .tup [.str "put", .str a, .str n]
  | .take a => .tup [.str "take", .str a]
  | .peek a => .tup [.str "peek", .str a]
  | .drop a => .tup [.str "drop", .str a]
  | .move a b => .tup [.str "move", .str a, .str b]
  | .pour a b => .tup [.str "pour", .str a, .str b]
  | .swap a b => .tup [.str "swap", .str a, .str b]
def dR (r : List Cmd) : Dat := .tup (r.map dCmd)

@[simp] theorem w_put_take : (PySem.Str.ofString "put" = PySem.Str.ofString "take") = False := by simp only [eq_iff_iff, iff_false]; decide +kernel
@[simp] theorem w_put_peek : (PySem.Str.ofString "put" = PySem.Str.ofString "peek") = False := by simp only [eq_iff_iff, iff_false]; decide +kernel
@[simp] theorem w_put_drop : (PySem.Str.ofString "put" = PySem.Str.ofString "drop") = False := by simp only [eq_iff_iff, iff_false]; decide +kernel
@[simp] theorem w_put_move : (PySem.Str.ofString "put" = PySem.Str.ofString "move") = False := by simp only [eq_iff_iff, iff_false]; decide +kernel
@[simp] theorem w_put_pour : (PySem.Str.ofString "put" = PySem.Str.ofString "pour") = False := by simp only [eq_iff_iff, iff_false]; decide +kernel
@[simp] theorem w_put_swap : (PySem.Str.ofString "put" = PySem.Str.ofString "swap") = False := by simp only [eq_iff_iff, iff_false]; decide +kernel
@[simp] theorem w_take_put : (PySem.Str.ofString "take" = PySem.Str.ofString "put") = False := by simp only [eq_iff_iff, iff_false]; decide +kernel
@[simp] theorem w_take_peek : (PySem.Str.ofString "take" = PySem.Str.ofString "peek") = False := by simp only [eq_iff_iff, iff_false]; decide +kernel
@[simp] theorem w_take_drop : (PySem.Str.ofString "take" = PySem.Str.ofString "drop") = False := by simp only [eq_iff_iff, iff_false]; decide +kernel
@[simp] theorem w_take_move : (PySem.Str.ofString "take" = PySem.Str.ofString "move") = False := by simp only [eq_iff_iff, iff_false]; decide +kernel
@[simp] theorem w_take_pour : (PySem.Str.ofString "take" = PySem.Str.ofString "pour") = False := by simp only [eq_iff_iff, iff_false]; decide +kernel
@[simp] theorem w_take_swap : (PySem.Str.ofString "take" = PySem.Str.ofString "swap") = False := by simp only [eq_iff_iff, iff_false]; decide +kernel
@[simp] theorem w_peek_put : (PySem.Str.ofString "peek" = PySem.Str.ofString "put") = False := by simp only [eq_iff_iff, iff_false]; decide +kernel
@[simp] theorem w_peek_take : (PySem.Str.ofString "peek" = PySem.Str.ofString "take") = False := by simp only [eq_iff_iff, iff_false]; decide +kernel
@[simp] theorem w_peek_drop : (PySem.Str.ofString "peek" = PySem.Str.ofString "drop") = False := by simp only [eq_iff_iff, iff_false]; decide +kernel
@[simp] theorem w_peek_move : (PySem.Str.ofString "peek" = PySem.Str.ofString "move") = False := by simp only [eq_iff_iff, iff_false]; decide +kernel
@[simp] theorem w_peek_pour : (PySem.Str.ofString "peek" = PySem.Str.ofString "pour") = False := by simp only [eq_iff_iff, iff_false]; decide +kernel
@[simp] theorem w_peek_swap : (PySem.Str.ofString "peek" = PySem.Str.ofString "swap") = False := by simp only [eq_iff_iff, iff_false]; decide +kernel
@[simp] theorem w_drop_put : (PySem.Str.ofString "drop" = PySem.Str.ofString "put") = False := by simp only [eq_iff_iff, iff_false]; decide +kernel
@[simp] theorem w_drop_take : (PySem.Str.ofString "drop" = PySem.Str.ofString "take") = False := by simp only [eq_iff_iff, iff_false]; decide +kernel
@[simp] theorem w_drop_peek : (PySem.Str.ofString "drop" = PySem.Str.ofString "peek") = False := by simp only [eq_iff_iff, iff_false]; decide +kernel
@[simp] theorem w_drop_move : (PySem.Str.ofString "drop" = PySem.Str.ofString "move") = False := by simp only [eq_iff_iff, iff_false]; decide +kernel
@[simp] theorem w_drop_pour : (PySem.Str.ofString "drop" = PySem.Str.ofString "pour") = False := by simp only [eq_iff_iff, iff_false]; decide +kernel
@[simp] theorem w_drop_swap : (PySem.Str.ofString "drop" = PySem.Str.ofString "swap") = False := by simp only [eq_iff_iff, iff_false]; decide +kernel
@[simp] theorem w_move_put : (PySem.Str.ofString "move" = PySem.Str.ofString "put") = False := by simp only [eq_iff_iff, iff_false]; decide +kernel
@[simp] theorem w_move_take : (PySem.Str.ofString "move" = PySem.Str.ofString "take") = False := by simp only [eq_iff_iff, iff_false]; decide +kernel
@[simp] theorem w_move_peek : (PySem.Str.ofString "move" = PySem.Str.ofString "peek") = False := by simp only [eq_iff_iff, iff_false]; decide +kernel
@[simp] theorem w_move_drop : (PySem.Str.ofString "move" = PySem.Str.ofString "drop") = False := by simp only [eq_iff_iff, iff_false]; decide +kernel
@[simp] theorem w_move_pour : (PySem.Str.ofString "move" = PySem.Str.ofString "pour") = False := by simp only [eq_iff_iff, iff_false]; decide +kernel
@[simp] theorem w_move_swap : (PySem.Str.ofString "move" = PySem.Str.ofString "swap") = False := by simp only [eq_iff_iff, iff_false]; decide +kernel
@[simp] theorem w_pour_put : (PySem.Str.ofString "pour" = PySem.Str.ofString "put") = False := by simp only [eq_iff_iff, iff_false]; decide +kernel
@[simp] theorem w_pour_take : (PySem.Str.ofString "pour" = PySem.Str.ofString "take") = False := by simp only [eq_iff_iff, iff_false]; decide +kernel
@[simp] theorem w_pour_peek : (PySem.Str.ofString "pour" = PySem.Str.ofString "peek") = False := by simp only [eq_iff_iff, iff_false]; decide +kernel
@[simp] theorem w_pour_drop : (PySem.Str.ofString "pour" = PySem.Str.ofString "drop") = False := by simp only [eq_iff_iff, iff_false]; decide +kernel
@[simp] theorem w_pour_move : (PySem.Str.ofString "pour" = PySem.Str.ofString "move") = False := by simp only [eq_iff_iff, iff_false]; decide +kernel
@[simp] theorem w_pour_swap : (PySem.Str.ofString "pour" = PySem.Str.ofString "swap") = False := by simp only [eq_iff_iff, iff_false]; decide +kernel
@[simp] theorem w_swap_put : (PySem.Str.ofString "swap" = PySem.Str.ofString "put") = False := by simp only [eq_iff_iff, iff_false]; decide +kernel
@[simp] theorem w_swap_take : (PySem.Str.ofString "swap" = PySem.Str.ofString "take") = False := by simp only [eq_iff_iff, iff_false]; decide +kernel
@[simp] theorem w_swap_peek : (PySem.Str.ofString "swap" = PySem.Str.ofString "peek") = False := by simp only [eq_iff_iff, iff_false]; decide +kernel
@[simp] theorem w_swap_drop : (PySem.Str.ofString "swap" = PySem.Str.ofString "drop") = False := by simp only [eq_iff_iff, iff_false]; decide +kernel
@[simp] theorem w_swap_move : (PySem.Str.ofString "swap" = PySem.Str.ofString "move") = False := by simp only [eq_iff_iff, iff_false]; decide +kernel
@[simp] theorem w_swap_pour : (PySem.Str.ofString "swap" = PySem.Str.ofString "pour") = False := by simp only [eq_iff_iff, iff_false]; decide +kernel
/-! ### contracts -/
def wf_is_number : WF := fun ds M Q => ∃ d t, ds = [d] ∧ tagOf M d = some t ∧ Q (.val (.bl (isTag t .I && !isTag t .B))) M
def wf_at_most : WF := fun ds M Q => ∃ a b : Option Int, ds = [dO a, dO b] ∧ Q (.val (.bl (match a, b with
  | some i, some j => decide (i ≤ j)
  | _, none => true
  | none, some _ => false))) M
def wf_least_of : WF := fun ds M Q => ∃ xs, ds = [dI xs] ∧ Q (.val (dO xs.head?)) M
def sIns (xs : List Int) (k : Int) : List Int := xs.takeWhile (fun x => decide (x ≤ k)) ++ k :: xs.dropWhile (fun x => decide (x ≤ k))
def wf_put_in : WF := fun ds M Q => ∃ xs k, ds = [dI xs, .int k] ∧ xs.length < 100000 ∧ Q (.val (dI (sIns xs k))) M
def wf_poured : WF := fun ds M Q => ∃ xs ys, ds = [dI xs, dI ys] ∧ xs.length + ys.length ≤ 100000 ∧ Q (.val (dI (isort (xs ++ ys)))) M
def wf_put_of : WF := fun ds M Q => ∃ c, ds = [dCmd c] ∧ Q (.val (match c with
  | .put _ k => .int k
  | .putN _ n => .str n
  | _ => .non)) M
def wf_held_in : WF := fun ds M Q => ∃ c a xs, ds = [dC c, .str a] ∧ getc c a = some xs ∧ Q (.val (dI xs)) M
def wf_with_held : WF := fun ds M Q => ∃ c a ys xs, ds = [dC c, .str a, dI xs] ∧ getc c a = some ys ∧ c.length ≤ 1000 ∧ Q (.val (dC (setc c a xs))) M
def wf_value_of : WF := fun ds M Q => ∃ d v a i, ds = [d, .str a] ∧ weak d = dV v ∧ vget v a = some i ∧ Q (.val (.int i)) M
def wf_number_put : WF := fun ds M Q => ∃ c d v i, ds = [dCmd c, d] ∧ weak d = dV v ∧ (match c with
  | .put _ k => some k
  | .putN _ n => vget v n
  | _ => none) = some i ∧ Q (.val (.int i)) M
/-- one command done: what is held behind it, whether something is told, what -/
def step (v : List (Str × Int)) (c : Cont) : Cmd → Cont × Bool × Option Int
  | .put a k => (setc c a (sIns ((getc c a).getD []) k), false, none)
  | .putN a n => (setc c a (sIns ((getc c a).getD []) ((vget v n).getD 0)), false, none)
  | .take a => (setc c a ((getc c a).getD []).tail, true, ((getc c a).getD []).head?)
  | .peek a => (c, true, ((getc c a).getD []).head?)
  | .drop a => (setc c a ((getc c a).getD []).tail, false, none)
  | .move a b => (match (getc c a).getD [] with
    | [] => c
    | x :: xs => setc (setc c a xs) b (sIns ((getc c b).getD []) x), false, none)
  | .pour a b => (setc (setc c a []) b (isort (((getc c a).getD []) ++ ((getc c b).getD []))), false, none)
  | .swap a b => (setc (setc c a ((getc c b).getD [])) b ((getc c a).getD []), false, none)
def has (c : Cont) (a : Str) : Prop := a ∈ c.map (·.1)
/-- the command's bins are held, its name has a value -/
def CmdOk (v : List (Str × Int)) (ns : List Str) : Cmd → Prop
  | .put a _ => a ∈ ns
  | .putN a n => a ∈ ns ∧ ∃ i, vget v n = some i
  | .take a => a ∈ ns
  | .peek a => a ∈ ns
  | .drop a => a ∈ ns
  | .move a b => a ∈ ns ∧ b ∈ ns ∧ a ≠ b
  | .pour a b => a ∈ ns ∧ b ∈ ns ∧ a ≠ b
  | .swap a b => a ∈ ns ∧ b ∈ ns ∧ a ≠ b
def tot (c : Cont) : Nat := (c.map fun p => p.2.length).sum
structure ContOk (c : Cont) (n : Nat) : Prop where
  nd : (c.map (·.1)).Nodup
  sm : tot c ≤ n
  ln : c.length ≤ 1000
def wf_done_command : WF := fun ds M Q => ∃ cm c d v n, ds = [dCmd cm, dC c, d] ∧ weak d = dV v ∧ CmdOk v (c.map (·.1)) cm ∧ ContOk c n ∧ n ≤ 10000 ∧ Q (.val (.tup [dC (step v c cm).1, .tup [.bl (step v c cm).2.1, dO (step v c cm).2.2]])) M
def run (v : List (Str × Int)) : List Cmd → Cont → List (Option Int) × Cont
  | [], c => ([], c)
  | cm :: r, c => ((if (step v c cm).2.1 then [(step v c cm).2.2] else []) ++ (run v r (step v c cm).1).1, (run v r (step v c cm).1).2)
def wf_run_recipe : WF := fun ds M Q => ∃ r c d v n, ds = [dR r, dC c, d] ∧ weak d = dV v ∧ (∀ cm ∈ r, CmdOk v (c.map (·.1)) cm) ∧ ContOk c n ∧ n + r.length ≤ 10000 ∧ Q (.val (.tup [dT (run v r c).1, dC (run v r c).2])) M
theorem getc_setc {c : Cont} {a b : Str} {xs : List Int} : getc (setc c a xs) b = if b = a then (getc c b).map fun _ => xs else getc c b := by
  unfold getc setc
  induction c with
  | nil => simp
  | cons p c ih =>
    obtain ⟨n, ys⟩ := p
    by_cases e : n = b
    · subst e
      by_cases e2 : n = a <;> simp [e2]
    · simpa [e] using ih
theorem has_get {c : Cont} {a : Str} (h : a ∈ c.map (·.1)) : ∃ xs, getc c a = some xs := by
  unfold getc
  induction c with
  | nil => simp at h
  | cons p c ih =>
    by_cases e : p.1 = a
    · exact ⟨p.2, by simp [e]⟩
    · simp [e]
      have h' : a ∈ c.map (·.1) := by
        rw [List.map_cons, List.mem_cons] at h
        exact h.resolve_left fun z => e z.symm
      simpa using ih h'
@[simp] theorem setc_names {c : Cont} {a : Str} {xs : List Int} : (setc c a xs).map (·.1) = c.map (·.1) := by simp [setc, Function.comp]
@[simp] theorem setc_len {c : Cont} {a : Str} {xs : List Int} : (setc c a xs).length = c.length := by simp [setc]
theorem tot_setc {c : Cont} {a : Str} {xs ys : List Int} (nd : (c.map (·.1)).Nodup) (h : getc c a = some ys) : tot (setc c a xs) + ys.length = tot c + xs.length := by
  unfold tot setc getc at *
  induction c with
  | nil => simp at h
  | cons p c ih =>
    obtain ⟨n, zs⟩ := p
    simp only [List.map_cons, List.sum_cons, List.nodup_cons] at nd ⊢
    by_cases e : n = a
    · subst e
      simp at h
      subst h
      have hk : (c.map fun p => (p.1, if p.1 = n then xs else p.2)) = c := by
        conv => rhs; rw [← List.map_id c]
        apply List.map_congr_left
        rintro ⟨m, ws⟩ hm
        have : m ≠ n := fun z => nd.1 (List.mem_map.mpr ⟨(m, ws), hm, z⟩)
        simp [this]
      rw [hk]
      simp
      omega
    · simp [e] at h ⊢
      have z := ih nd.2 (by simpa using h)
      simp only [List.map_map, Function.comp] at z
      omega
theorem get_le {c : Cont} {a : Str} {ys : List Int} (h : getc c a = some ys) : ys.length ≤ tot c := by
  unfold tot getc at *
  induction c with
  | nil => simp at h
  | cons p c ih =>
    by_cases e : p.1 = a
    · simp [e] at h
      subst h
      simp
    · simp [e] at h
      have z := ih (by simpa using h)
      simp
      omega
theorem sIns_len (xs : List Int) (k : Int) : (sIns xs k).length = xs.length + 1 := by
  unfold sIns
  have z := congrArg List.length (List.takeWhile_append_dropWhile (p := fun x => decide (x ≤ k)) (l := xs))
  rw [List.length_append] at z ⊢
  rw [List.length_cons]
  omega
theorem isort_len (xs : List Int) : (isort xs).length = xs.length := by unfold isort; exact List.length_mergeSort ..
theorem ContOk.set {c : Cont} {a : Str} {xs ys : List Int} {n m : Nat} (h : ContOk c n) (hg : getc c a = some ys) (hl : n + xs.length ≤ m + ys.length) : ContOk (setc c a xs) m := by
  have z := tot_setc (xs := xs) h.nd hg
  exact ⟨by rw [setc_names]; exact h.nd, by have := h.sm; omega, by rw [setc_len]; exact h.ln⟩
theorem u_held_in {c : Cont} {a : Str} {xs : List Int} {M : Mh} {Q : Res → Mh → Prop} (h : getc c a = some xs) (q : Q (.val (dI xs)) M) : wf_held_in [dC c, .str a] M Q := ⟨c, a, xs, rfl, h, q⟩
theorem u_with_held {c : Cont} {a : Str} {xs ys : List Int} {M : Mh} {Q : Res → Mh → Prop} (h : getc c a = some ys) (hl : c.length ≤ 1000) (q : Q (.val (dC (setc c a xs))) M) : wf_with_held [dC c, .str a, dI xs] M Q := ⟨c, a, ys, xs, rfl, h, hl, q⟩
theorem u_put_in {xs : List Int} {k : Int} {M : Mh} {Q : Res → Mh → Prop} (h : xs.length < 100000) (q : Q (.val (dI (sIns xs k))) M) : wf_put_in [dI xs, .int k] M Q := ⟨xs, k, rfl, h, q⟩
theorem u_least_of {xs : List Int} {M : Mh} {Q : Res → Mh → Prop} (q : Q (.val (dO xs.head?)) M) : wf_least_of [dI xs] M Q := ⟨xs, rfl, q⟩
theorem u_poured {xs ys : List Int} {M : Mh} {Q : Res → Mh → Prop} (h : xs.length + ys.length ≤ 100000) (q : Q (.val (dI (isort (xs ++ ys)))) M) : wf_poured [dI xs, dI ys] M Q := ⟨xs, ys, rfl, h, q⟩
/-- what a step keeps -/
theorem step_ok {v : List (Str × Int)} {c : Cont} {n : Nat} {cm : Cmd} (h : ContOk c n) (ok : CmdOk v (c.map (·.1)) cm) : ContOk (step v c cm).1 (n + 1) ∧ (step v c cm).1.map (·.1) = c.map (·.1) := by
  cases cm with
  | put a k =>
    obtain ⟨xs, hx⟩ := has_get ok
    exact ⟨h.set hx (by simp [hx, sIns_len]; try omega), setc_names⟩
  | putN a m =>
    obtain ⟨xs, hx⟩ := has_get ok.1
    exact ⟨h.set hx (by simp [hx, sIns_len]; try omega), setc_names⟩
  | take a =>
    obtain ⟨xs, hx⟩ := has_get ok
    exact ⟨h.set hx (by simp [hx]; try omega), setc_names⟩
  | peek a => exact ⟨⟨h.nd, by have := h.sm; show tot c ≤ n + 1; omega, h.ln⟩, rfl⟩
  | drop a =>
    obtain ⟨xs, hx⟩ := has_get ok
    exact ⟨h.set hx (by simp [hx]; try omega), setc_names⟩
  | move a b =>
    obtain ⟨xs, hx⟩ := has_get ok.1
    obtain ⟨ys, hy⟩ := has_get ok.2.1
    have hne : b ≠ a := fun z => ok.2.2 z.symm
    cases xs with
    | nil =>
      simp [step, hx]
      exact ⟨h.nd, by have := h.sm; omega, h.ln⟩
    | cons x xs =>
      simp only [step, hx, hy, Option.getD_some]
      have h1 : ContOk (setc c a xs) n := h.set hx (by simp; try omega)
      refine ⟨h1.set (by rw [getc_setc, if_neg hne]; exact hy) (by rw [sIns_len]; omega), by simp⟩
  | pour a b =>
    obtain ⟨xs, hx⟩ := has_get ok.1
    obtain ⟨ys, hy⟩ := has_get ok.2.1
    have hne : b ≠ a := fun z => ok.2.2 z.symm
    simp only [step, hx, hy, Option.getD_some]
    have z1 := tot_setc (xs := ([] : List Int)) h.nd hx
    have z2 : (tot (setc (setc c a []) b (isort (xs ++ ys)))) + ys.length = tot (setc c a []) + (isort (xs ++ ys)).length := tot_setc (by rw [setc_names]; exact h.nd) (by rw [getc_setc, if_neg hne]; exact hy)
    rw [isort_len] at z2
    simp at z1 z2
    exact ⟨⟨by simp [h.nd], by have := h.sm; omega, by simp [h.ln]⟩, by simp⟩
  | swap a b =>
    obtain ⟨xs, hx⟩ := has_get ok.1
    obtain ⟨ys, hy⟩ := has_get ok.2.1
    have hne : b ≠ a := fun z => ok.2.2 z.symm
    simp only [step, hx, hy, Option.getD_some]
    have z1 := tot_setc (xs := ys) h.nd hx
    have z2 : (tot (setc (setc c a ys) b xs)) + ys.length = tot (setc c a ys) + xs.length := tot_setc (by rw [setc_names]; exact h.nd) (by rw [getc_setc, if_neg hne]; exact hy)
    exact ⟨⟨by simp [h.nd], by have := h.sm; omega, by simp [h.ln]⟩, by simp⟩
theorem u_done_command {cm : Cmd} {c : Cont} {d : Dat} {v : List (Str × Int)} {n : Nat} {M : Mh} {Q : Res → Mh → Prop} (hd : weak d = dV v) (ok : CmdOk v (c.map (·.1)) cm) (hc : ContOk c n) (hn : n ≤ 10000) (q : Q (.val (.tup [dC (step v c cm).1, .tup [.bl (step v c cm).2.1, dO (step v c cm).2.2]])) M) : wf_done_command [dCmd cm, dC c, d] M Q := ⟨cm, c, d, v, n, rfl, hd, ok, hc, hn, q⟩
theorem le_tot {c : Cont} {p : Str × List Int} (h : p ∈ c) : p.2.length ≤ tot c := by
  unfold tot
  induction c with
  | nil => cases h
  | cons q c ih =>
    rw [List.map_cons, List.sum_cons]
    rcases List.mem_cons.mp h with e | e
    · rw [e]; omega
    · have := ih e; omega
theorem u_run_recipe {r : List Cmd} {c : Cont} {d : Dat} {v : List (Str × Int)} {n : Nat} {M : Mh} {Q : Res → Mh → Prop} (hd : weak d = dV v) (ok : ∀ cm ∈ r, CmdOk v (c.map (·.1)) cm) (hc : ContOk c n) (hn : n + r.length ≤ 10000) (q : Q (.val (.tup [dT (run v r c).1, dC (run v r c).2])) M) : wf_run_recipe [dR r, dC c, d] M Q := ⟨r, c, d, v, n, rfl, hd, ok, hc, hn, q⟩
/-! ### order -/
theorem pairsD_map {α β : Type} (f : α → Dat) (g : β → Dat) (xs : List α) (ys : List β) : pairsD (xs.map f) (ys.map g) = (xs.zip ys).map fun p => .tup [f p.1, g p.2] := by
  unfold pairsD
  rw [List.zip_map, List.map_map]
  rfl
def belowL (xs ys : List Int) : Bool := decide (ys.length ≤ xs.length) && (xs.zip ys).all fun p => decide (p.1 ≤ p.2)
def below (c d : Cont) : Bool := (c.zip d).all fun p => belowL p.1.2 p.2.2
def atMost : Option Int → Option Int → Bool
  | some i, some j => decide (i ≤ j)
  | _, none => true
  | none, some _ => false
def toldBelow (s t : List (Option Int)) : Bool := decide (s.length = t.length) && (s.zip t).all fun p => atMost p.1 p.2
def keeps (v : List (Str × Int)) (r : List Cmd) (c d : Cont) : Bool := toldBelow (run v r c).1 (run v r d).1 && below (run v r c).2 (run v r d).2
def wf__row_below : WF := fun ds M Q => ∃ xs ys, ds = [dI xs, dI ys] ∧ xs.length ≤ 100000 ∧ Q (.val (.bl (belowL xs ys))) M
def wf_is_below : WF := fun ds M Q => ∃ c d n m, ds = [dC c, dC d] ∧ ContOk c n ∧ n ≤ 10000 ∧ ContOk d m ∧ m ≤ 10000 ∧ Q (.val (.bl (below c d))) M
def wf_told_below : WF := fun ds M Q => ∃ s t, ds = [dT s, dT t] ∧ s.length ≤ 10000 ∧ Q (.val (.bl (toldBelow s t))) M
/-- a recipe that can be run on c -/
structure RunOk (v : List (Str × Int)) (r : List Cmd) (c : Cont) : Prop where
  ok : ∀ cm ∈ r, CmdOk v (c.map (·.1)) cm
  cont : ContOk c 5000
  len : r.length ≤ 1000
def wf_keeps_order : WF := fun ds M Q => ∃ r c d w v, ds = [dR r, dC c, dC d, w] ∧ weak w = dV v ∧ RunOk v r c ∧ RunOk v r d ∧ Q (.val (.bl (keeps v r c d))) M
def wf_between : WF := fun ds M Q => ∃ a b c, ds = [dC a, dC b, dC c] ∧ ContOk a 10000 ∧ ContOk b 10000 ∧ ContOk c 10000 ∧ Q (.val (.bl (below a b && below b c))) M
def wf_order_kept : WF := fun ds M Q => ∃ (r : List Cmd) (bs : List Cont) (w : Dat) (v : List (Str × Int)), ds = [dR r, .tup (bs.map dC), w] ∧ weak w = dV v ∧ (∀ c ∈ bs, RunOk v r c) ∧ Q (.val (.bl (bs.all fun c => bs.all fun d => !below c d || keeps v r c d))) M
theorem u__row_below {xs ys : List Int} {M : Mh} {Q : Res → Mh → Prop} (h : xs.length ≤ 100000) (q : Q (.val (.bl (belowL xs ys))) M) : wf__row_below [dI xs, dI ys] M Q := ⟨xs, ys, rfl, h, q⟩
theorem u_is_below {c d : Cont} {n m : Nat} {M : Mh} {Q : Res → Mh → Prop} (h : ContOk c n) (hn : n ≤ 10000) (h' : ContOk d m) (hm : m ≤ 10000) (q : Q (.val (.bl (below c d))) M) : wf_is_below [dC c, dC d] M Q := ⟨c, d, n, m, rfl, h, hn, h', hm, q⟩
theorem u_told_below {s t : List (Option Int)} {M : Mh} {Q : Res → Mh → Prop} (h : s.length ≤ 10000) (q : Q (.val (.bl (toldBelow s t))) M) : wf_told_below [dT s, dT t] M Q := ⟨s, t, rfl, h, q⟩
theorem u_at_most {a b : Option Int} {M : Mh} {Q : Res → Mh → Prop} (q : Q (.val (.bl (atMost a b))) M) : wf_at_most [dO a, dO b] M Q := ⟨a, b, rfl, by cases a <;> cases b <;> exact q⟩
theorem u_keeps {r : List Cmd} {c d : Cont} {w : Dat} {v : List (Str × Int)} {M : Mh} {Q : Res → Mh → Prop} (hw : weak w = dV v) (h1 : RunOk v r c) (h2 : RunOk v r d) (q : Q (.val (.bl (keeps v r c d))) M) : wf_keeps_order [dR r, dC c, dC d, w] M Q := ⟨r, c, d, w, v, rfl, hw, h1, h2, q⟩
theorem bls_eq {bs cs : List Bool} (h : bs.map Dat.bl = cs.map Dat.bl) : bs = cs := by
  induction bs generalizing cs with
  | nil => cases cs with
    | nil => rfl
    | cons => simp at h
  | cons b bs ih => cases cs with
    | nil => simp at h
    | cons c cs =>
      simp at h
      rw [h.1, ih h.2]
theorem all_fl' {α : Type} {R : Bool → Prop} {l : List α} {f : α → Bool} (q : R (l.all f)) : ∃ bs : List Bool, (l.map fun a => Dat.bl (f a)) = bs.map .bl ∧ R (bs.all id) := ⟨l.map f, by simp, by simpa [List.all_map] using q⟩
theorem all_fl {α : Type} {M : Mh} {Q : VD} {l : List α} {f : α → Bool} (q : Q (.bl (l.all f)) M) : ∃ bs : List Bool, lstOf M (.fl (l.map fun a => .bl (f a))) = some (bs.map .bl) ∧ Q (.bl (bs.all id)) M := ⟨l.map f, by simp, by simpa [List.all_map] using q⟩
theorem run_cont {v : List (Str × Int)} : ∀ {r : List Cmd} {c : Cont} {n : Nat}, (∀ cm ∈ r, CmdOk v (c.map (·.1)) cm) → ContOk c n → ContOk (run v r c).2 (n + r.length) ∧ (run v r c).2.map (·.1) = c.map (·.1) ∧ (run v r c).1.length ≤ r.length
  | [], c, n, _, h => ⟨h, rfl, Nat.le_refl _⟩
  | cm :: r, c, n, ok, h => by
    obtain ⟨k1, k2⟩ := step_ok h (ok cm List.mem_cons_self)
    obtain ⟨j1, j2, j3⟩ := run_cont (r := r) (fun cm' h' => by rw [k2]; exact ok cm' (List.mem_cons_of_mem _ h')) k1
    refine ⟨?_, j2.trans k2, ?_⟩
    · have e : n + (cm :: r).length = n + 1 + r.length := by simp; omega
      rw [e]
      exact j1
    · simp only [run, List.length_append]
      split <;> simp <;> omega
/-! ### lower, upper -/
def mixL (lower : Bool) (xs ys : List Int) : List Int := (List.range (if lower then max xs.length ys.length else min xs.length ys.length)).map fun i => match xs[i]?, ys[i]? with
  | some a, some b => if lower then min a b else max a b
  | some a, none => a
  | none, some b => b
  | none, none => 0
def mixed (lower : Bool) (c d : Cont) : Cont := (c.zip d).map fun p => (p.1.1, mixL lower p.1.2 p.2.2)
def wf__mixed : WF := fun ds M Q => ∃ c d b, ds = [dC c, dC d, .bl b] ∧ ContOk c 10000 ∧ ContOk d 10000 ∧ Q (.val (dC (mixed b c d))) M
def wf_lower_contents : WF := fun ds M Q => ∃ c d, ds = [dC c, dC d] ∧ ContOk c 10000 ∧ ContOk d 10000 ∧ Q (.val (dC (mixed true c d))) M
def wf_upper_contents : WF := fun ds M Q => ∃ c d, ds = [dC c, dC d] ∧ ContOk c 10000 ∧ ContOk d 10000 ∧ Q (.val (dC (mixed false c d))) M
theorem mixL_len (b : Bool) (xs ys : List Int) : (mixL b xs ys).length = if b then max xs.length ys.length else min xs.length ys.length := by simp [mixL]
theorem mixL_at {b : Bool} {xs ys : List Int} {k : Nat} (h : k < (mixL b xs ys).length) : (mixL b xs ys)[k] = (match xs[k]?, ys[k]? with
  | some a, some c => if b then min a c else max a c
  | some a, none => a
  | none, some c => c
  | none, none => 0) := by simp [mixL]
theorem take_snoc {α : Type} {l : List α} {k : Nat} (h : k < l.length) : l.take (k + 1) = l.take k ++ [l[k]] := by
  rw [List.take_add_one, List.getElem?_eq_getElem h]
  rfl
/-! ### counts -/
abbrev Cnt := List (Str × Int)
def cnt (xs : List Int) (t : Int) : Int := ((xs.filter fun x => decide (x ≤ t)).length : Nat)
def cntC (c : Cont) (t : Int) : Cnt := c.map fun p => (p.1, cnt p.2 t)
def wf_counts_at : WF := fun ds M Q => ∃ c t, ds = [dC c, .int t] ∧ ContOk c 10000 ∧ Q (.val (dV (cntC c t))) M
def cntOrder (c d : Cont) (ts : List Int) : Bool := ts.all fun t => ((cntC c t).zip (cntC d t)).all fun p => decide (p.2.2 ≤ p.1.2)
def wf_counts_order : WF := fun ds M Q => ∃ c d ts, ds = [dC c, dC d, dI ts] ∧ ContOk c 10000 ∧ ContOk d 10000 ∧ Q (.val (.bl (cntOrder c d ts))) M
theorem u_counts_at {c : Cont} {t : Int} {M : Mh} {Q : Res → Mh → Prop} (h : ContOk c 10000) (q : Q (.val (dV (cntC c t))) M) : wf_counts_at [dC c, .int t] M Q := ⟨c, t, rfl, h, q⟩
/-! ### the numbers that are put -/
def sset (l : List Int) : List Int := isort (dedup l)
def puts : List Cmd → List Int
  | [] => []
  | .put _ k :: r => k :: puts r
  | _ :: r => puts r
def isPutI : Cmd → Bool
  | .put _ _ => true
  | _ => false
def putI : Cmd → Int
  | .put _ k => k
  | _ => 0
theorem puts_eq : ∀ r : List Cmd, (r.filter isPutI).map (fun c => (Sum.inl (putI c) : Key)) = (puts r).map Sum.inl
  | [] => rfl
  | c :: r => by
    cases c <;> first | exact congrArg (List.cons (Sum.inl _)) (puts_eq r) | exact puts_eq r
theorem puts_len : ∀ r : List Cmd, (puts r).length ≤ r.length
  | [] => Nat.le_refl _
  | c :: r => by
    have := puts_len r
    cases c <;> simp [puts] <;> omega
theorem isort_sorted (xs : List Int) : (isort xs).Pairwise (· ≤ ·) := by
  unfold isort
  have z := List.pairwise_mergeSort (le := fun i j : Int => decide (i ≤ j)) (fun a b c h1 h2 => by simp at *; omega) (fun a b => by simp; omega) xs
  exact z.imp fun h => by simpa using h
theorem isort_mem {xs : List Int} {x : Int} : x ∈ isort xs ↔ x ∈ xs := (List.mergeSort_perm xs _).mem_iff
theorem dedup_aux (l acc : List Int) (h : acc.Nodup) : (l.foldl (fun acc x => if x ∈ acc then acc else acc ++ [x]) acc).Nodup ∧ (∀ x, x ∈ l.foldl (fun acc x => if x ∈ acc then acc else acc ++ [x]) acc ↔ x ∈ acc ∨ x ∈ l) ∧ (l.foldl (fun acc x => if x ∈ acc then acc else acc ++ [x]) acc).length ≤ acc.length + l.length := by
  induction l generalizing acc with
  | nil => exact ⟨h, fun x => by simp, by simp⟩
  | cons y l ih =>
    rw [List.foldl_cons]
    by_cases e : y ∈ acc
    · rw [if_pos e]
      obtain ⟨a, b, c⟩ := ih acc h
      refine ⟨a, fun x => ?_, by simp; omega⟩
      rw [b x, List.mem_cons]
      exact ⟨fun z => z.elim .inl fun q => .inr (.inr q), fun z => z.elim .inl fun q => q.elim (fun q => .inl (q ▸ e)) .inr⟩
    · rw [if_neg e]
      have hn : (acc ++ [y]).Nodup := List.nodup_append.mpr ⟨h, by simp, fun a ha b hb => by rw [List.mem_singleton.mp hb]; exact fun q => e (q ▸ ha)⟩
      obtain ⟨a, b, c⟩ := ih (acc ++ [y]) hn
      refine ⟨a, fun x => ?_, by simp at c ⊢; omega⟩
      rw [b x, List.mem_append, List.mem_singleton, List.mem_cons, or_assoc]
theorem dedup_nodup (l : List Int) : (dedup l).Nodup := (dedup_aux l [] List.nodup_nil).1
theorem dedup_mem {l : List Int} {x : Int} : x ∈ dedup l ↔ x ∈ l := by
  have z := (dedup_aux l [] List.nodup_nil).2.1 x
  unfold dedup
  simpa using z
theorem dedup_len (l : List Int) : (dedup l).length ≤ l.length := by
  have z := (dedup_aux l [] List.nodup_nil).2.2
  unfold dedup
  simpa using z
theorem sset_mem {l : List Int} {x : Int} : x ∈ sset l ↔ x ∈ l := isort_mem.trans dedup_mem
theorem sset_nodup (l : List Int) : (sset l).Nodup := (List.mergeSort_perm (dedup l) _).nodup_iff.mpr (dedup_nodup l)
theorem sset_len (l : List Int) : (sset l).length ≤ l.length := by
  unfold sset
  rw [isort_len]
  exact dedup_len l
theorem dedup_self : ∀ {l : List Int}, l.Nodup → dedup l = l := fun {l} h => by
  have aux : ∀ (l acc : List Int), (acc ++ l).Nodup → l.foldl (fun acc x => if x ∈ acc then acc else acc ++ [x]) acc = acc ++ l := fun l => by
    induction l with
    | nil => intro acc _; simp
    | cons y l ih =>
      intro acc hn
      have hy : y ∉ acc := fun z => by
        rw [List.nodup_append] at hn
        exact hn.2.2 y z y List.mem_cons_self rfl
      rw [List.foldl_cons, if_neg hy, ih _ (by simpa using hn)]
      simp
  have z := aux l [] (by simpa using h)
  simpa [dedup] using z
theorem isort_self {l : List Int} (h : l.Pairwise (· ≤ ·)) : isort l = l := by
  unfold isort
  exact List.mergeSort_of_pairwise (h.imp fun z => by simpa using z)
theorem sset_sset (l : List Int) : sset (sset l) = sset l := by
  have e : dedup (sset l) = sset l := dedup_self (sset_nodup l)
  conv => lhs; unfold sset
  rw [show dedup (isort (dedup l)) = sset l from e]
  exact isort_self (isort_sorted _)
def wf_told_numbers : WF := fun ds M Q => ∃ r, ds = [dR r] ∧ r.length ≤ 1000 ∧ Q (.val (dI (sset (puts r)))) M
def wf_numbers_of_all : WF := fun ds M Q => ∃ r, ds = [.tup [dR r]] ∧ r.length ≤ 1000 ∧ Q (.val (dI (sset (puts r)))) M
def wf_limits_of : WF := fun ds M Q => ∃ c d, ds = [dC c, dC d] ∧ ContOk c 1000 ∧ ContOk d 1000 ∧ Q (.val (dI (sset ((c ++ d).flatMap (·.2))))) M
def wf_cut_at : WF := fun ds M Q => ∃ r w v t, ds = [.tup [dR r], w, .int t] ∧ weak w = dV v ∧ r.length ≤ 1000 ∧ v.length ≤ 1000 ∧ Q (.val (.tup [.int (((sset (puts r)).filter fun x => decide (x ≤ t)).length : Nat), .tup ((v.filter fun p => decide (p.2 ≤ t)).map fun p => .str p.1)])) M
theorem u_told_numbers {r : List Cmd} {M : Mh} {Q : Res → Mh → Prop} (h : r.length ≤ 1000) (q : Q (.val (dI (sset (puts r)))) M) : wf_told_numbers [dR r] M Q := ⟨r, rfl, h, q⟩
theorem u_numbers_of_all {r : List Cmd} {M : Mh} {Q : Res → Mh → Prop} (h : r.length ≤ 1000) (q : Q (.val (dI (sset (puts r)))) M) : wf_numbers_of_all [.tup [dR r]] M Q := ⟨r, rfl, h, q⟩
/-! ### counts along a recipe -/
inductive Stp where
  | put (i : Nat) (s : Bool) | take (i : Nat) | peek (i : Nat) | drop (i : Nat) | move (i j : Nat) | pour (i j : Nat) | swap (i j : Nat)
def dStp : Stp → Dat
  | .put i s => .tup [.str "put", .int i, .int 0, .bl s]
  | .take i => .tup [.str "take", .int i, .int 0, .bl false]
  | .peek i => .tup [.str "peek", .int i, .int 0, .bl false]
  | .drop i => .tup [.str "drop", .int i, .int 0, .bl false]
  | .move i j => .tup [.str "move", .int i, .int j, .bl false]
  | .pour i j => .tup [.str "pour", .int i, .int j, .bl false]
  | .swap i j => .tup [.str "swap", .int i, .int j, .bl false]
def StpOk (n : Nat) : Stp → Prop
  | .put i _ => i < n
  | .take i => i < n
  | .peek i => i < n
  | .drop i => i < n
  | .move i j => i < n ∧ j < n ∧ i ≠ j
  | .pour i j => i < n ∧ j < n ∧ i ≠ j
  | .swap i j => i < n ∧ j < n ∧ i ≠ j
/-- one step on a row of counts -/
def rstep (row : List Int) : Stp → List Int × Option Int
  | .put i s => (row.set i (row.getD i 0 + if s then 1 else 0), none)
  | .take i => (row.set i (if row.getD i 0 - 1 > 0 then row.getD i 0 - 1 else 0), some (if 1 < row.getD i 0 then 1 else row.getD i 0))
  | .peek i => (row, some (if 1 < row.getD i 0 then 1 else row.getD i 0))
  | .drop i => (row.set i (if row.getD i 0 - 1 > 0 then row.getD i 0 - 1 else 0), none)
  | .move i j => (if 0 < row.getD i 0 then (row.set i (row.getD i 0 - 1)).set j (row.getD j 0 + 1) else row, none)
  | .pour i j => ((row.set i 0).set j (row.getD j 0 + row.getD i 0), none)
  | .swap i j => ((row.set i (row.getD j 0)).set j (row.getD i 0), none)
def rrun : List Stp → List Int → List Int × List Int
  | [], row => ([], row)
  | s :: ss, row => ((rstep row s).2.toList ++ (rrun ss (rstep row s).1).1, (rrun ss (rstep row s).1).2)
theorem rstep_len {row : List Int} {s : Stp} : (rstep row s).1.length = row.length := by
  cases s <;> simp [rstep]
  split <;> simp
def wf__stepped : WF := fun ds M Q => ∃ s p row, ds = [dStp s, .ref p] ∧ M p = some (.lst (row.map .int)) ∧ StpOk row.length s ∧ Q (.val (dO (rstep row s).2)) (updM M p (.lst ((rstep row s).1.map .int)))
def wf_run_steps : WF := fun ds M Q => ∃ (ss : List Stp) (d : Dat) (row : List Int), ds = [.tup (ss.map dStp), d] ∧ (d = .fl (row.map .int) ∨ d = .tup (row.map .int)) ∧ (∀ s ∈ ss, StpOk row.length s) ∧ ss.length ≤ 1000 ∧ Q (.val (.tup [dI (rrun ss row).1, dI (rrun ss row).2])) M
theorem ixN_nat {n i : Nat} (h : i < n) : ixN n (i : Int) = some i := by
  unfold ixN
  rw [if_pos (by omega), if_pos (by omega)]
  simp
theorem u_setL {M : Mh} {p : Addr} {xs : List Dat} {i : Nat} {d : Dat} {Q : Mh → Prop} (h : M p = some (.lst xs)) (hi : i < xs.length) (q : Q (updM M p (.lst (xs.set i d)))) : fSet (.ref p) (.int (i : Nat)) d M Q := by
  simp only [fSet, h]
  exact ⟨i, ixN_nat hi, q⟩
theorem u__stepped {s : Stp} {p : Addr} {row : List Int} {M : Mh} {Q : Res → Mh → Prop} (hM : M p = some (.lst (row.map .int))) (ok : StpOk row.length s) (q : Q (.val (dO (rstep row s).2)) (updM M p (.lst ((rstep row s).1.map .int)))) : wf__stepped [dStp s, .ref p] M Q := ⟨s, p, row, rfl, hM, ok, q⟩
theorem u_run_steps {ss : List Stp} {d : Dat} {row : List Int} {M : Mh} {Q : Res → Mh → Prop} (hd : d = .fl (row.map .int) ∨ d = .tup (row.map .int)) (ok : ∀ s ∈ ss, StpOk row.length s) (hl : ss.length ≤ 1000) (q : Q (.val (.tup [dI (rrun ss row).1, dI (rrun ss row).2])) M) : wf_run_steps [.tup (ss.map dStp), d] M Q := ⟨ss, d, row, rfl, hd, ok, hl, q⟩
/-- a command as a step -/
def stpOf (ns : List Str) (sm : Cmd → Bool) : Cmd → Stp
  | .put a k => .put (ns.idxOf a) (sm (.put a k))
  | .putN a n => .put (ns.idxOf a) (sm (.putN a n))
  | .take a => .take (ns.idxOf a)
  | .peek a => .peek (ns.idxOf a)
  | .drop a => .drop (ns.idxOf a)
  | .move a b => .move (ns.idxOf a) (ns.idxOf b)
  | .pour a b => .pour (ns.idxOf a) (ns.idxOf b)
  | .swap a b => .swap (ns.idxOf a) (ns.idxOf b)
/-- is it small -/
def smallIn (ks : List Int) (lot : List Str) : Cmd → Bool
  | .put _ k => decide (k ∈ ks)
  | .putN _ n => decide (n ∈ lot)
  | _ => false
/-- the command's bins are among ns -/
def BinsIn (ns : List Str) : Cmd → Prop
  | .put a _ => a ∈ ns
  | .putN a _ => a ∈ ns
  | .take a => a ∈ ns
  | .peek a => a ∈ ns
  | .drop a => a ∈ ns
  | .move a b => a ∈ ns ∧ b ∈ ns ∧ a ≠ b
  | .pour a b => a ∈ ns ∧ b ∈ ns ∧ a ≠ b
  | .swap a b => a ∈ ns ∧ b ∈ ns ∧ a ≠ b
def wf_steps_at : WF := fun ds M Q => ∃ (r : List Cmd) (m : Nat) (lot ns : List Str), ds = [.tup [dR r], .tup [.int (m : Nat), .tup (lot.map .str)], dR r, .tup (ns.map .str)] ∧ ns.Nodup ∧ ns.length ≤ 1000 ∧ (∀ c ∈ r, BinsIn ns c) ∧ r.length ≤ 1000 ∧ lot.length ≤ 1000 ∧
  Q (.val (.tup ((r.map (stpOf ns (smallIn ((sset (puts r)).take m) lot))).map dStp))) M
def crun (r : List Cmd) (sm : Cmd → Bool) (c : Cnt) : List Int × Cnt := ((rrun (r.map (stpOf (c.map (·.1)) sm)) (c.map (·.2))).1, (c.map (·.1)).zip (rrun (r.map (stpOf (c.map (·.1)) sm)) (c.map (·.2))).2)
def wf_run_counts : WF := fun ds M Q => ∃ (r : List Cmd) (m : Nat) (lot : List Str) (c : Cnt) (d : Dat), ds = [.tup [dR r], .tup [.int (m : Nat), .tup (lot.map .str)], dR r, d] ∧ weak d = dV c ∧ (c.map (·.1)).Nodup ∧ c.length ≤ 1000 ∧ (∀ cm ∈ r, BinsIn (c.map (·.1)) cm) ∧ r.length ≤ 1000 ∧ lot.length ≤ 1000 ∧
  Q (.val (.tup [dI (crun r (smallIn ((sset (puts r)).take m) lot) c).1, dV (crun r (smallIn ((sset (puts r)).take m) lot) c).2])) M
theorem u_steps_at {r : List Cmd} {m : Nat} {lot ns : List Str} {M : Mh} {Q : Res → Mh → Prop} (h1 : ns.Nodup) (h2 : ns.length ≤ 1000) (h3 : ∀ c ∈ r, BinsIn ns c) (h4 : r.length ≤ 1000) (h5 : lot.length ≤ 1000) (q : Q (.val (.tup ((r.map (stpOf ns (smallIn ((sset (puts r)).take m) lot))).map dStp))) M) :
    wf_steps_at [.tup [dR r], .tup [.int (m : Nat), .tup (lot.map .str)], dR r, .tup (ns.map .str)] M Q := ⟨r, m, lot, ns, rfl, h1, h2, h3, h4, h5, q⟩
theorem stpOf_ok {ns : List Str} {sm : Cmd → Bool} {c : Cmd} (h : BinsIn ns c) : StpOk ns.length (stpOf ns sm c) := by
  have ix : ∀ {a : Str}, a ∈ ns → ns.idxOf a < ns.length := fun h => List.idxOf_lt_length_of_mem h
  have ne : ∀ {a b : Str}, a ∈ ns → b ∈ ns → a ≠ b → ns.idxOf a ≠ ns.idxOf b := fun {a b} ha hb hn e => hn (by
    have z1 := List.getElem_idxOf (ix ha)
    have z2 := List.getElem_idxOf (ix hb)
    rw [← z1, ← z2]
    simp only [e])
  cases c <;> first | exact ix h | exact ix h.1 | exact ⟨ix h.1, ix h.2.1, ne h.1 h.2.1 h.2.2⟩
theorem enumD_strs (ns : List Str) : enumD (ns.map .str) = ((List.range ns.length).zip ns).map fun p => .tup [.int (p.1 : Nat), .str p.2] := by
  unfold enumD
  rw [List.length_map]
  conv => lhs; rw [show List.range ns.length = (List.range ns.length).map id from (List.map_id _).symm]
  rw [List.zip_map, List.map_map]
  rfl
def placesOf (ns : List Str) : List (Key × Dat) := ((List.range ns.length).zip ns).map fun p => (.inr p.2, .int (p.1 : Nat))
theorem places_get {ns : List Str} {a : Str} (h : a ∈ ns) : getD (placesOf ns) (.inr a : Key) = some (.int (ns.idxOf a : Nat)) := by
  have aux : ∀ (ns : List Str) (k : Nat), a ∈ ns → getD (((List.range' k ns.length).zip ns).map fun p => ((.inr p.2 : Key), Dat.int (p.1 : Nat))) (.inr a : Key) = some (.int ((k + ns.idxOf a : Nat) : Nat)) := fun ns => by
    induction ns with
    | nil => intro k h; cases h
    | cons b ns ih =>
      intro k h
      rw [List.length_cons, List.range'_succ, List.zip_cons_cons, List.map_cons]
      unfold getD
      by_cases e : b = a
      · subst e
        simp
      · have h' : a ∈ ns := (List.mem_cons.mp h).resolve_left fun z => e z.symm
        have z := ih (k + 1) h'
        unfold getD at z
        rw [List.find?_cons_of_neg (by simpa using e), z, List.idxOf_cons, show (b == a) = false from by simpa using e]
        simp
        omega
  have z := aux ns 0 h
  rw [← List.range_eq_range'] at z
  simpa [placesOf] using z
theorem inFlat_int {xs : List Int} {k : Int} : inFlat (.int k) (xs.map .int) = some (decide (k ∈ xs)) := by
  unfold inFlat
  rw [if_pos ⟨rfl, by simp [flatD]⟩]
  congr 1
  rw [Bool.eq_iff_iff]
  simp [eqv, toPy, PyData.eqv]
theorem inFlat_str {xs : List Str} {k : Str} : inFlat (.str k) (xs.map .str) = some (decide (k ∈ xs)) := by
  unfold inFlat
  rw [if_pos ⟨rfl, by simp [flatD]⟩]
  congr 1
  rw [Bool.eq_iff_iff]
  simp [eqv, toPy, PyData.eqv]
theorem ixOf_dk {M : Mh} {p q : Addr} {es : List (Key × Dat)} {A : MO} {a : Str} (h : p ≠ q) : ixOf (updM (updM M p (.dk es)) q A) (.ref p) (.str a) = getD es (.inr a) := by
  simp only [ixOf, updM_ne h, updM_same]
  rfl
theorem u_run_counts {r : List Cmd} {m : Nat} {lot : List Str} {c : Cnt} {d : Dat} {M : Mh} {Q : Res → Mh → Prop} (h0 : weak d = dV c) (h1 : (c.map (·.1)).Nodup) (h2 : c.length ≤ 1000) (h3 : ∀ cm ∈ r, BinsIn (c.map (·.1)) cm) (h4 : r.length ≤ 1000) (h5 : lot.length ≤ 1000) (q : Q (.val (.tup [dI (crun r (smallIn ((sset (puts r)).take m) lot) c).1, dV (crun r (smallIn ((sset (puts r)).take m) lot) c).2])) M) :
    wf_run_counts [.tup [dR r], .tup [.int (m : Nat), .tup (lot.map .str)], dR r, d] M Q := ⟨r, m, lot, c, d, rfl, h0, h1, h2, h3, h4, h5, q⟩
/-- the runs on c and d in order -/
def moreIs (r : List Cmd) (sm : Cmd → Bool) (c d : Cnt) : Bool := (((crun r sm c).1.zip (crun r sm d).1).all fun p => decide (p.2 ≤ p.1)) && ((crun r sm c).2.zip (crun r sm d).2).all fun p => decide (p.2.2 ≤ p.1.2)
def wf_more_is_more : WF := fun ds M Q => ∃ (r : List Cmd) (m : Nat) (lot : List Str) (c1 c2 : Cnt) (d1 d2 : Dat), ds = [dR r, .tup [.int (m : Nat), .tup (lot.map .str)], d1, d2] ∧ weak d1 = dV c1 ∧ weak d2 = dV c2 ∧ (c1.map (·.1)).Nodup ∧ (c2.map (·.1)).Nodup ∧ c1.length ≤ 1000 ∧ c2.length ≤ 1000 ∧ (∀ cm ∈ r, BinsIn (c1.map (·.1)) cm) ∧ (∀ cm ∈ r, BinsIn (c2.map (·.1)) cm) ∧ r.length ≤ 1000 ∧ lot.length ≤ 1000 ∧
  Q (.val (.bl (moreIs r (smallIn ((sset (puts r)).take m) lot) c1 c2))) M
theorem rrun_bits : ∀ (ss : List Stp) (row : List Int), (rrun ss row).1.length ≤ ss.length
  | [], _ => Nat.le_refl _
  | s :: ss, row => by
    have z := rrun_bits ss (rstep row s).1
    have : (rstep row s).2.toList.length ≤ 1 := by cases (rstep row s).2 <;> simp
    simp [rrun]
    omega
theorem crun_bits (r : List Cmd) (sm : Cmd → Bool) (c : Cnt) : (crun r sm c).1.length ≤ r.length := by
  have := rrun_bits (r.map (stpOf (c.map (·.1)) sm)) (c.map (·.2))
  simpa [crun] using this
theorem crun_cnt (r : List Cmd) (sm : Cmd → Bool) (c : Cnt) : (crun r sm c).2.length ≤ c.length := by
  simp [crun]
  omega
/-- the pool of draws: a list of numbers -/
def IsPool (M : Mh) (p : Addr) : Prop := ∃ xs : List Int, xs.length ≤ 1200 ∧ M p = some (.lst (xs.map .int))
def wf__law_pick : WF := fun ds M Q => ∃ (p : Addr) (n : Int), ds = [.ref p, .int n] ∧ 0 < n ∧ IsPool M p ∧
  ∀ (i : Int) (M' : Mh), 0 ≤ i → i < n → (∃ ys : List Int, ys.length ≤ 1200 ∧ M' = updM M p (.lst (ys.map .int))) → Q (.val (.int i)) M'
def wf__law_below : WF := fun ds M Q => ∃ c d n m, ds = [dC c, dC d] ∧ c.length = d.length ∧ ContOk c n ∧ n ≤ 10000 ∧ ContOk d m ∧ m ≤ 10000 ∧ Q (.val (.bl (below c d))) M
def wf__law_told_below : WF := fun ds M Q => ∃ s t, ds = [dT s, dT t] ∧ s.length ≤ 10000 ∧ t.length ≤ 10000 ∧ Q (.val (.bl (toldBelow s t))) M
theorem intsD_0 (n : Nat) : intsD 0 n = (List.range n).map fun i : Nat => Dat.int (i : Nat) := by
  unfold intsD
  simp
/-- all over a zip, by places -/
theorem filter_zip {α β : Type} (p : α × β → Bool) {xs : List α} {ys : List β} (h : xs.length = ys.length) (b : Nat → Bool) (hb : ∀ i (h1 : i < xs.length) (h2 : i < ys.length), b i = !p (xs[i], ys[i])) : (((List.range xs.length).filter b) = []) ↔ (xs.zip ys).all p = true := by
  rw [List.filter_eq_nil_iff, List.all_eq_true]
  constructor
  · intro z q hq
    obtain ⟨i, hi, rfl⟩ := List.mem_iff_getElem.mp hq
    have h1 : i < xs.length := by simp at hi; omega
    have h2 : i < ys.length := by omega
    have := z i (List.mem_range.mpr h1)
    rw [hb i h1 h2] at this
    simpa using this
  · intro z i hi
    have h1 := List.mem_range.mp hi
    have h2 : i < ys.length := by omega
    have hz : i < (xs.zip ys).length := by simp; omega
    have := z _ (List.getElem_mem hz)
    rw [hb i h1 h2]
    simpa using this
theorem filter_below {xs ys : List Int} (h : ys.length ≤ xs.length) : (((List.range ys.length).filter fun i => decide (ys.getD i 0 < xs.getD i 0)) = []) ↔ ((xs.zip ys).all fun p => decide (p.1 ≤ p.2)) = true := by
  rw [List.filter_eq_nil_iff, List.all_eq_true]
  constructor
  · intro z q hq
    obtain ⟨i, hi, rfl⟩ := List.mem_iff_getElem.mp hq
    have h2 : i < ys.length := by simp at hi; omega
    have h1 : i < xs.length := by omega
    have := z i (List.mem_range.mpr h2)
    simp [h1, h2] at this
    simpa using this
  · intro z i hi
    have h2 := List.mem_range.mp hi
    have h1 : i < xs.length := by omega
    have hz : i < (xs.zip ys).length := by simp; omega
    have := z _ (List.getElem_mem hz)
    simp at this
    simpa [h1, h2] using this
def wf__law_at : WF := fun ds M Q => ∃ c t n, ds = [dC c, .int t] ∧ ContOk c n ∧ n ≤ 10000 ∧ Q (.val (.stp ((cntC c t).map fun p => .tup [.str p.1, .int p.2]))) M
/-! ### sorted sets of texts -/
theorem ltS_irrefl (a : Str) : ltS a a = false := by
  unfold ltS
  exact decide_eq_false (List.lt_irrefl _)
theorem ltS_asymm {a b : Str} (h : ltS a b = false) (h' : ltS b a = false) : a = b := by
  unfold ltS at h h'
  have h := of_decide_eq_false h
  have h' := of_decide_eq_false h'
  have e := List.le_antisymm (List.not_lt.mp h') (List.not_lt.mp h)
  cases a; cases b
  simp at e
  rw [e]
theorem leS_trans {a b c : Str} (h : ltS b a = false) (h' : ltS c b = false) : ltS c a = false := by
  unfold ltS at *
  have h := List.not_lt.mp (of_decide_eq_false h)
  have h' := List.not_lt.mp (of_decide_eq_false h')
  exact decide_eq_false (List.not_lt.mpr (List.le_trans h h'))
theorem leS_total (a b : Str) : (!ltS b a || !ltS a b) = true := by
  cases h : ltS b a with
  | false => rfl
  | true =>
    have : ltS a b = false := by
      unfold ltS at *
      exact decide_eq_false (List.not_lt.mpr (List.le_of_lt (of_decide_eq_true h)))
    rw [this]
    rfl
theorem ssort_pw (xs : List Str) : (ssort xs).Pairwise fun a b => (!ltS b a) = true := by
  unfold ssort
  refine List.pairwise_mergeSort (fun a b c h1 h2 => ?_) leS_total xs
  simp at h1 h2 ⊢
  exact leS_trans h1 h2
theorem ssort_perm {xs ys : List Str} (h : xs.Perm ys) : ssort xs = ssort ys := by
  refine List.Perm.eq_of_pairwise (le := fun a b => (!ltS b a) = true) (fun a b _ _ h1 h2 => ?_) (ssort_pw xs) (ssort_pw ys) ?_
  · simp at h1 h2
    exact ltS_asymm h2 h1
  · unfold ssort
    exact (List.mergeSort_perm xs _).trans (h.trans (List.mergeSort_perm ys _).symm)
def dedupS (l : List Str) : List Str := l.foldl (fun acc x => if x ∈ acc then acc else acc ++ [x]) []
theorem addKs_strs (l acc : List Str) : addKs (acc.map Sum.inr) (l.map Sum.inr) = (l.foldl (fun acc x => if x ∈ acc then acc else acc ++ [x]) acc).map Sum.inr := by
  induction l generalizing acc with
  | nil => rfl
  | cons x l ih =>
    show addKs (addK (acc.map Sum.inr) (Sum.inr x)) (l.map Sum.inr) = _
    have e : addK (acc.map Sum.inr) (Sum.inr x : Key) = (if x ∈ acc then acc else acc ++ [x]).map Sum.inr := by
      unfold addK
      by_cases h : x ∈ acc
      · rw [if_pos h, if_pos (List.mem_map.mpr ⟨x, h, rfl⟩)]
      · rw [if_neg h, if_neg (fun z => by
          obtain ⟨y, hy, e⟩ := List.mem_map.mp z
          exact h (Sum.inr.inj e ▸ hy)), List.map_append]
        rfl
    rw [e, ih]
    rfl
theorem perm_strs {ks : List Key} {l : List Str} (h : ks.Perm (l.map Sum.inr)) : ∃ l' : List Str, ks = l'.map Sum.inr ∧ l'.Perm l := by
  refine ⟨ks.filterMap Sum.getRight?, ?_, ?_⟩
  · have hm : ∀ k ∈ ks, ∃ i : Str, k = Sum.inr i := fun k hk => by
      obtain ⟨i, _, e⟩ := List.mem_map.mp (h.mem_iff.mp hk)
      exact ⟨i, e.symm⟩
    clear h
    induction ks with
    | nil => rfl
    | cons k ks ih =>
      obtain ⟨i, rfl⟩ := hm k List.mem_cons_self
      have z := ih fun k hk => hm k (List.mem_cons_of_mem _ hk)
      show _ = Sum.inr i :: List.map Sum.inr (List.filterMap Sum.getRight? ks)
      rw [← z]
  · have z := h.filterMap Sum.getRight?
    rw [List.filterMap_map] at z
    have e : ∀ l : List Str, (List.filterMap ((Sum.getRight? : Key → Option Str) ∘ Sum.inr) l) = l := fun l => by
      induction l with
      | nil => rfl
      | cons x l ih =>
        show x :: _ = x :: l
        rw [ih]
    rw [e] at z
    exact z
def sortS (l : List Str) : List Str := ssort (dedupS l)
/-- sorted(a set of texts) -/
theorem sorted_setS {w : World} {M : Mh} {p : Addr} {l : List Str} {R : List Dat → Prop} (h : R ((sortS l).map .str)) : colD w (updM M p (.set w (addKs [] (l.map Sum.inr)))) (.ref p) fun ds => SortOk ds ∧ R (sortD ds) := by
  refine col_set fun ks' pm => ?_
  have e := addKs_strs l []
  rw [List.map_nil] at e
  rw [e] at pm
  obtain ⟨l', rfl, pm'⟩ := perm_strs pm
  have ek : (l'.map (Sum.inr : Str → Key)).map kD = l'.map .str := by rw [List.map_map]; rfl
  rw [ek]
  refine ⟨sortOk_strs _, ?_⟩
  rw [sortD_strs, ssort_perm pm']
  exact h
def putsN : List Cmd → List Str
  | [] => []
  | .putN _ k :: r => k :: putsN r
  | _ :: r => putsN r
def isPut : Cmd → Bool
  | .put _ _ => true
  | .putN _ _ => true
  | _ => false
def putV : Cmd → Dat
  | .put _ k => .int k
  | .putN _ k => .str k
  | _ => .non
def isI : Dat → Bool
  | .int _ => true
  | _ => false
def isS : Dat → Bool
  | .str _ => true
  | _ => false
def allPuts (r : List Cmd) : List Dat := (r.filter isPut).map putV
theorem allPuts_I : ∀ r : List Cmd, (allPuts r).filter isI = (puts r).map .int
  | [] => rfl
  | c :: r => by cases c <;> first | exact congrArg (List.cons (Dat.int _)) (allPuts_I r) | exact allPuts_I r
theorem allPuts_S : ∀ r : List Cmd, (allPuts r).filter isS = (putsN r).map .str
  | [] => rfl
  | c :: r => by cases c <;> first | exact congrArg (List.cons (Dat.str _)) (allPuts_S r) | exact allPuts_S r
theorem allPuts_len (r : List Cmd) : (allPuts r).length ≤ r.length := by
  unfold allPuts
  rw [List.length_map]
  exact List.length_filter_le _ _
theorem putsN_len : ∀ r : List Cmd, (putsN r).length ≤ r.length
  | [] => Nat.le_refl _
  | c :: r => by
    have := putsN_len r
    cases c <;> simp [putsN] <;> omega
theorem allPuts_mem {r : List Cmd} {d : Dat} (h : d ∈ allPuts r) : (∃ k, d = .int k) ∨ ∃ k, d = .str k := by
  obtain ⟨c, hc, rfl⟩ := List.mem_map.mp h
  have := (List.mem_filter.mp hc).2
  cases c <;> simp [isPut] at this
  · exact .inl ⟨_, rfl⟩
  · exact .inr ⟨_, rfl⟩
def wf__law_puts : WF := fun ds M Q => ∃ (r : List Cmd), ds = [dR r] ∧ r.length ≤ 1000 ∧
  Q (.val (.tup [.fl ((sset (puts r)).map .int), .fl ((sortS (putsN r)).map .str)])) M
theorem f_sorted_set {w : World} {M : Mh} {p : Addr} {l : List Int} {Q : MO → Mh → Prop} (q : Q (.lst ((sset l).map .int)) (updM M p (.set w (addKs [] (l.map Sum.inl))))) : fSorted w (.ref p) (updM M p (.set w (addKs [] (l.map Sum.inl)))) Q := sorted_set (R := fun ds => Q (.lst ds) _) q
theorem f_sorted_setS {w : World} {M : Mh} {p : Addr} {l : List Str} {Q : MO → Mh → Prop} (q : Q (.lst ((sortS l).map .str)) (updM M p (.set w (addKs [] (l.map Sum.inr))))) : fSorted w (.ref p) (updM M p (.set w (addKs [] (l.map Sum.inr)))) Q := sorted_setS (R := fun ds => Q (.lst ds) _) q
theorem keysOf_ints (xs : List Int) : keysOf (xs.map .int) = some (xs.map Sum.inl) := by
  induction xs with
  | nil => rfl
  | cons x xs ih => simp [keysOf, Lk.keyOf, ih]
theorem keysOf_strs (xs : List Str) : keysOf (xs.map .str) = some (xs.map Sum.inr) := by
  induction xs with
  | nil => rfl
  | cons x xs ih => simp [keysOf, Lk.keyOf, ih]
theorem u__law_puts {r : List Cmd} {M : Mh} {Q : Res → Mh → Prop} (h : r.length ≤ 1000) (q : Q (.val (.tup [.fl ((sset (puts r)).map .int), .fl ((sortS (putsN r)).map .str)])) M) : wf__law_puts [dR r] M Q := ⟨r, rfl, h, q⟩
def smallNs (r : List Cmd) (t : Int) : List Int := (sset (puts r)).filter fun x => decide (x ≤ t)
def lotAt (v : List (Str × Int)) (t : Int) : List Str := (v.filter fun p => decide (p.2 ≤ t)).map (·.1)
/-- the greatest put that is at most t, or -1 -/
def likeAt (r : List Cmd) (t : Int) : Int := (smallNs r t).getLastD (-1)
def wf__law_cut_at : WF := fun ds M Q => ∃ r w v t, ds = [dR r, w, .int t] ∧ weak w = dV v ∧ r.length ≤ 1000 ∧ v.length ≤ 1000 ∧
  Q (.val (.tup [.tup [.int ((smallNs r t).length : Nat), .tup ((lotAt v t).map .str)], .int (likeAt r t), .tup ((lotAt v t).map .str)])) M
end Lk

namespace Law
open PySem PySem.Spec L2 Lk
def top (i : Nat) : Stmt := PySem.Challenge.pw_likethings_k78_whole_order_kept.main.body.getD i (.Pass ⟨0, 0, 0, 0⟩)
structure Txt (mg : Str → Option Value) : Prop where
  no_all : mg "all" = none
  no_bool : mg "bool" = none
  no_dict : mg "dict" = none
  no_enumerate : mg "enumerate" = none
  no_int : mg "int" = none
  no_isinstance : mg "isinstance" = none
  no_len : mg "len" = none
  no_list : mg "list" = none
  no_max : mg "max" = none
  no_min : mg "min" = none
  no_range : mg "range" = none
  no_set : mg "set" = none
  no_sorted : mg "sorted" = none
  no_str : mg "str" = none
  no_tuple : mg "tuple" = none
  no_zip : mg "zip" = none
section
variable {P : Program} {w : World} {K : PySem.W.Frag} {mg : Str → Option Value} {base : Heap}
abbrev s_is_number : Stmt := top 5
abbrev N_is_number : List Str := ["thing"]
theorem sc_is_number : FnScope N_is_number ["thing"] (defScope s_is_number) := ⟨rfl, rfl, rfl, by decide +kernel, rfl, by decide +kernel, by decide +kernel⟩
theorem d_is_number (D : Def K mg "is_number" s_is_number ["thing"]) (T : Txt mg)  : Has P w K mg base "is_number" 1 1 wf_is_number := by
  refine has_def 1 D sc_is_number rfl (fun f cdv A outer s H E hr => (dss_one (ds_ret (de_and (de_isi (n := .I) rfl T.no_isinstance (de_var (pv 0)) rfl T.no_int (by decide +kernel) (by decide) (by decide)) (de_one (de_not (de_isi (n := .B) rfl T.no_isinstance (de_var (pv 0)) rfl T.no_bool (by decide +kernel) (by decide) (by decide)))))))) ?_
  intro ds M Q hn h
  obtain ⟨d, t, rfl, ht, q⟩ := h
  cases h1 : isTag t .I <;> cases h2 : isTag t .B <;> simp_all <;> exact ends q
abbrev s_at_most : Stmt := top 6
abbrev N_at_most : List Str := ["one", "other"]
theorem sc_at_most : FnScope N_at_most ["one", "other"] (defScope s_at_most) := ⟨rfl, rfl, rfl, by decide +kernel, rfl, by decide +kernel, by decide +kernel⟩
theorem d_at_most (D : Def K mg "at_most" s_at_most ["one", "other"]) (T : Txt mg)  : Has P w K mg base "at_most" 1 2 wf_at_most := by
  refine has_def 2 D sc_at_most rfl (fun f cdv A outer s H E hr => (dss_cons (ds_if (dt_w (dw_or (dt_isN (de_var (pv 0)) de_non) (dw_or1 (dt_isN (de_var (pv 1)) de_non)))) (dss_one (ds_ret (de_isN (de_var (pv 1)) de_non))) dss_nil) (dss_one (ds_ret (de_le (de_var (pv 0)) (de_var (pv 1))))))) ?_
  intro ds M Q hn h
  obtain ⟨a, b, rfl, q⟩ := h
  cases a <;> cases b <;> simp_all [dO] <;> exact ends q
abbrev s_least_of : Stmt := top 7
abbrev N_least_of : List Str := ["things"]
theorem sc_least_of : FnScope N_least_of ["things"] (defScope s_least_of) := ⟨rfl, rfl, rfl, by decide +kernel, rfl, by decide +kernel, by decide +kernel⟩
theorem d_least_of (D : Def K mg "least_of" s_least_of ["things"]) (T : Txt mg)  : Has P w K mg base "least_of" 1 1 wf_least_of := by
  refine has_def 1 D sc_least_of rfl (fun f cdv A outer s H E hr => (dss_one (ds_ret (de_ite (dt_gt (de_len rfl T.no_len (da_cons (de_var (pv 0)) da_nil)) de_int) (de_ix (hu_of hr) (de_var (pv 0)) de_int) de_non)))) ?_
  intro ds M Q hn h
  obtain ⟨xs, rfl, q⟩ := h
  cases xs <;> simp_all [dO, dI, pyIx] <;> exact ends q
abbrev s_put_in : Stmt := top 8
abbrev N_put_in : List Str := ["things", "one", "at"]
theorem sc_put_in : FnScope N_put_in ["things", "one"] (defScope s_put_in) := ⟨rfl, rfl, rfl, by decide +kernel, rfl, by decide +kernel, by decide +kernel⟩
theorem d_put_in (D : Def K mg "put_in" s_put_in ["things", "one"]) (T : Txt mg)  : Has P w K mg base "put_in" 1 2 wf_put_in := by
  refine has_def 2 D sc_put_in rfl (fun f cdv A outer s H E hr => (dss_cons (ds_set' (ps_set (i := 2) sc_put_in.nd rfl (Or.inl rfl) de_int)) (dss_cons (ds_while PassesOwn.never (dt_w (dw_and (dt_lt (de_var (pv 2)) (de_len rfl T.no_len (da_cons (de_var (pv 0)) da_nil))) (dw_and1 (dt_le (de_ix (hu_of hr) (de_var (pv 0)) (de_var (pv 2))) (de_var (pv 1)))))) (dss_one (ds_set' (ps_set (i := 2) sc_put_in.nd rfl (Or.inl rfl) (de_add (de_var (pv 2)) de_int))))) (dss_one (ds_ret (de_add (de_add (de_slice (de_var (pv 0)) do_none (do_some (de_var (pv 2)))) (de_tup (da_cons (de_var (pv 1)) da_nil))) (de_slice (de_var (pv 0)) (do_some (de_var (pv 2))) do_none))))))) ?_
  intro ds M Q hn h
  obtain ⟨xs, k, rfl, hl, q⟩ := h
  have hz := sizeLine_eq
  simp only [wSeq, wSet, wC]
  refine ⟨fun m S => ∃ n, m = xs.length - n ∧ n ≤ (xs.takeWhile fun x => decide (x ≤ k)).length ∧ S = ⟨[some (dI xs), some (.int k), some (.int (n : Nat))], M⟩, ⟨xs.length, _, .refl _, 0, by simp, Nat.zero_le _, rfl⟩, ?_⟩
  rintro m S ⟨n, rfl, hn, rfl⟩
  have htl : (xs.takeWhile fun x => decide (x ≤ k)).length ≤ xs.length := (List.takeWhile_sublist _).length_le
  have hsp := List.takeWhile_append_dropWhile (p := fun x => decide (x ≤ k)) (l := xs)
  rcases Nat.lt_or_ge n (xs.takeWhile fun x => decide (x ≤ k)).length with h1 | h1
  · obtain ⟨x, hx, hp⟩ : ∃ x, xs[n]? = some x ∧ x ≤ k := by
      refine ⟨(xs.takeWhile fun x => decide (x ≤ k))[n], ?_, ?_⟩
      · conv => lhs; rw [← hsp]
        rw [List.getElem?_append_left h1, List.getElem?_eq_getElem h1]
      · have z := List.all_takeWhile (p := fun x => decide (x ≤ k)) (l := xs)
        rw [List.all_eq_true] at z
        simpa using z _ (List.getElem_mem h1)
    have hlt : n < xs.length := by omega
    have hp' : xs[n] ≤ k := by rw [List.getElem?_eq_getElem hlt] at hx; cases hx; exact hp
    simp [dI, hlt, hp']
    exact ⟨xs.length - (n + 1), by omega, _, .refl _, n + 1, rfl, by omega, rfl⟩
  · have e : n = (xs.takeWhile fun x => decide (x ≤ k)).length := by omega
    have ht : xs.take n = xs.takeWhile fun x => decide (x ≤ k) := by
      conv => lhs; rw [← hsp]
      rw [e, List.take_left']
      rfl
    have hd : xs.drop n = xs.dropWhile fun x => decide (x ≤ k) := by
      conv => lhs; rw [← hsp]
      rw [e, List.drop_left']
      rfl
    have fin : xs.length - 0 ≤ 100000 → ∃ M0, LeM M0 M ∧ Q (.val (.tup (((xs.map Dat.int).take n ++ [.int k]) ++ (xs.map Dat.int).drop n))) M0 := fun _ => by
      refine ends ?_
      rw [← List.map_take, ← List.map_drop, ht, hd]
      simpa [dI, sIns] using q
    cases hx : xs[n]? with
    | none =>
      have hlt : ¬ n < xs.length := by
        have z := List.getElem?_eq_none_iff.mp hx
        omega
      simp [dI, hlt]
      have z := fin (by omega)
      simp at z ⊢
      first | exact ⟨by omega, z⟩ | exact ⟨by omega, by omega, z⟩ | exact ⟨by omega, by omega, by omega, z⟩
    | some x =>
      have hlt : n < xs.length := (List.getElem?_eq_some_iff.mp hx).1
      have hp : ¬ x ≤ k := by
        have h2 : (xs.dropWhile fun x => decide (x ≤ k))[0]? = some x := by rw [← hd, List.getElem?_drop]; simpa using hx
        intro hk
        have z := List.head?_dropWhile_not (fun x => decide (x ≤ k)) xs
        rw [← List.head?_eq_getElem?] at h2
        rw [h2] at z
        simp [hk] at z
      have hp' : ¬ xs[n] ≤ k := by rw [List.getElem?_eq_getElem hlt] at hx; cases hx; exact hp
      simp [dI, hlt, hp']
      have z := fin (by omega)
      simp at z ⊢
      first | exact ⟨by omega, z⟩ | exact ⟨by omega, by omega, z⟩ | exact ⟨by omega, by omega, by omega, z⟩
abbrev s_poured : Stmt := top 9
abbrev N_poured : List Str := ["one", "other"]
theorem sc_poured : FnScope N_poured ["one", "other"] (defScope s_poured) := ⟨rfl, rfl, rfl, by decide +kernel, rfl, by decide +kernel, by decide +kernel⟩
theorem d_poured (D : Def K mg "poured" s_poured ["one", "other"]) (T : Txt mg)  : Has P w K mg base "poured" 1 2 wf_poured := by
  refine has_def 2 D sc_poured rfl (fun f cdv A outer s H E hr => (dss_one (ds_ret (de_tupOf rfl T.no_tuple (da_cons (de_fz (dn_sorted (w := w) rfl (hu66 hr) rfl T.no_sorted (da_cons (de_add (de_var (pv 0)) (de_var (pv 1))) da_nil))) da_nil))))) ?_
  intro ds M Q hn h
  obtain ⟨xs, ys, rfl, hl, q⟩ := h
  have hz := sizeLine_eq
  simp [dI, fSorted, colD]
  rw [← List.map_append, sortD_ints]
  exact ⟨by omega, sortOk_ints _, ends q⟩
abbrev s_put_of : Stmt := top 11
abbrev N_put_of : List Str := ["command"]
theorem sc_put_of : FnScope N_put_of ["command"] (defScope s_put_of) := ⟨rfl, rfl, rfl, by decide +kernel, rfl, by decide +kernel, by decide +kernel⟩
theorem d_put_of (D : Def K mg "put_of" s_put_of ["command"]) (T : Txt mg)  : Has P w K mg base "put_of" 1 1 wf_put_of := by
  refine has_def 1 D sc_put_of rfl (fun f cdv A outer s H E hr => (dss_one (ds_ret (de_ite (dt_eq (hr.units) (de_ix (hu_of hr) (de_var (pv 0)) de_int) de_str) (de_ix (hu_of hr) (de_var (pv 0)) de_int) de_non)))) ?_
  intro ds M Q hn h
  obtain ⟨c, rfl, q⟩ := h
  cases c <;> simp_all [dCmd, pyIx] <;> exact ends q
abbrev s_counts_at : Stmt := top 16
abbrev N_counts_at : List Str := ["contents", "limit", ".0", "name", "things", "one"]
theorem sc_counts_at : FnScope N_counts_at ["contents", "limit"] (defScope s_counts_at) := ⟨rfl, rfl, rfl, by decide +kernel, rfl, by decide +kernel, by decide +kernel⟩
theorem d_counts_at (D : Def K mg "counts_at" s_counts_at ["contents", "limit"]) (T : Txt mg)  : Has P w K mg base "counts_at" 1 2 wf_counts_at := by
  refine has_def 2 D sc_counts_at rfl (fun f cdv A outer s H E hr => (dss_one (ds_ret (de_tupOf rfl T.no_tuple (da_cons (de_fz (dn_comp (own := [(".0", 2), ("name", 3), ("things", 4)]) rfl sc_counts_at.nd (di_val (de_var (pv 0))) (blkOk_by (N := N_counts_at) (sc := defScope s_counts_at) (by decide +kernel)) (fun _ _ _ _ _ => (dgc_tup (n := 2) rfl (dgsc_cons (dgc_name (pg_name (i := 3) sc_counts_at.nd rfl (Or.inl rfl)) (by decide)) (dgsc_cons (dgc_name (pg_name (i := 4) sc_counts_at.nd rfl (Or.inl rfl)) (by decide)) dgsc_nil)))) (fun _ _ _ _ _ => dts_nil) (fun _ _ _ _ _ => (de_tup (da_cons (de_var (pv 3)) (da_cons (de_len rfl T.no_len (da_cons (de_fz (dn_comp (own := [(".0", 2), ("one", 5)]) rfl sc_counts_at.nd (di_val (de_var (pv 4))) (blkOk_by (by kernel_rfl)) (fun _ _ _ _ _ => (dgc_name (pg_name (i := 5) sc_counts_at.nd rfl (Or.inl rfl)) (by decide))) (fun _ _ _ _ _ => (dts_one (dt_le (de_var (pv 5)) (de_var (pv 1))))) (fun _ _ _ _ _ => (de_var (pv 5))))) da_nil)) da_nil)))))) da_nil))))) ?_
  intro ds M Q hn h
  obtain ⟨c, t, rfl, hc, q⟩ := h
  have hz := sizeLine_eq
  have hl := hc.ln
  simp [dC, wComp, wipeD]
  refine ⟨by omega, compL_map (fun p => .tup [.str p.1, .int (cnt p.2 t)]) c (fun p hp Q1 q1 => ?_) (ends (by simpa [dV, cntC, Function.comp_def] using q))⟩
  have := le_tot hp
  have := hc.sm
  simp [dI, wComp, wipeD]
  refine ⟨by omega, compL_pure (fun x => decide (x ≤ t)) .int p.2 [] (fun x hx Q1 Q2 h1 h2 => ?_) ?_⟩
  · simp
    by_cases e : x ≤ t
    · simpa [e] using h1 (by simp [e])
    · simpa [e] using h2 (by simp [e])
  · simpa [cnt] using q1
abbrev s__stepped : Stmt := top 18
abbrev N__stepped : List Str := ["step", "row", "word", "at", "other", "small", "here"]
theorem sc__stepped : FnScope N__stepped ["step", "row"] (defScope s__stepped) := ⟨rfl, rfl, rfl, by decide +kernel, rfl, by decide +kernel, by decide +kernel⟩
theorem d__stepped (D : Def K mg "_stepped" s__stepped ["step", "row"]) (T : Txt mg)  : Has P w K mg base "_stepped" 1 2 wf__stepped := by
  refine has_def 2 D sc__stepped rfl (fun f cdv A outer s H E hr => (dss_cons (ds_asg (de_var (pv 0)) (dg_tup (n := 4) rfl (dgs_cons (dg_name (pg_name (i := 2) sc__stepped.nd rfl (Or.inl rfl))) (dgs_cons (dg_name (pg_name (i := 3) sc__stepped.nd rfl (Or.inl rfl))) (dgs_cons (dg_name (pg_name (i := 4) sc__stepped.nd rfl (Or.inl rfl))) (dgs_cons (dg_name (pg_name (i := 5) sc__stepped.nd rfl (Or.inl rfl))) dgs_nil)))))) (dss_cons (ds_set' (ps_set (i := 6) sc__stepped.nd rfl (Or.inl rfl) (de_ix (hu_of hr) (de_var (pv 1)) (de_var (pv 3))))) (dss_cons (ds_if (dt_eq (hr.units) (de_var (pv 2)) de_str) (dss_one (ds_asg (de_add (de_var (pv 6)) (de_intOf rfl T.no_int (da_cons (de_var (pv 5)) da_nil))) (dg_set (hu_of hr) (de_var (pv 1)) (de_var (pv 3))))) (dss_one (ds_if (dt_in (hu_of hr) (de_var (pv 2)) (de_tup (da_cons de_str (da_cons de_str da_nil)))) (dss_one (ds_asg (de_max2 rfl rfl T.no_max (da_cons de_int (da_cons (de_sub (de_var (pv 6)) de_int) da_nil))) (dg_set (hu_of hr) (de_var (pv 1)) (de_var (pv 3))))) (dss_one (ds_if (dt_w (dw_and (dt_eq (hr.units) (de_var (pv 2)) de_str) (dw_and1 (dt_gt (de_var (pv 6)) de_int)))) (dss_cons (ds_asg (de_sub (de_var (pv 6)) de_int) (dg_set (hu_of hr) (de_var (pv 1)) (de_var (pv 3)))) (dss_one (ds_asg (de_add (de_ix (hu_of hr) (de_var (pv 1)) (de_var (pv 4))) de_int) (dg_set (hu_of hr) (de_var (pv 1)) (de_var (pv 4)))))) (dss_one (ds_if (dt_eq (hr.units) (de_var (pv 2)) de_str) (dss_cons (ds_asg de_int (dg_set (hu_of hr) (de_var (pv 1)) (de_var (pv 3)))) (dss_one (ds_asg (de_add (de_ix (hu_of hr) (de_var (pv 1)) (de_var (pv 4))) (de_var (pv 6))) (dg_set (hu_of hr) (de_var (pv 1)) (de_var (pv 4)))))) (dss_one (ds_if (dt_eq (hr.units) (de_var (pv 2)) de_str) (dss_one (ds_asg (de_tup (da_cons (de_ix (hu_of hr) (de_var (pv 1)) (de_var (pv 4))) (da_cons (de_var (pv 6)) da_nil))) (dg_tup (n := 2) rfl (dgs_cons (dg_set (hu_of hr) (de_var (pv 1)) (de_var (pv 3))) (dgs_cons (dg_set (hu_of hr) (de_var (pv 1)) (de_var (pv 4))) dgs_nil))))) dss_nil))))))))) (dss_one (ds_ret (de_ite (dt_in (hu_of hr) (de_var (pv 2)) (de_tup (da_cons de_str (da_cons de_str da_nil)))) (de_min2 rfl rfl T.no_min (da_cons (de_var (pv 6)) (da_cons de_int da_nil))) de_non))))))) ?_
  intro ds M Q hn h
  obtain ⟨s, p, row, rfl, hM, ok, q⟩ := h
  have hix : ∀ i : Nat, i < row.length → ixOf M (.ref p) (.int (i : Nat)) = some (.int (row.getD i 0)) := fun i hi => by
    simp [ixOf, hM, hi]
  cases s with
  | put i b =>
    have hi : i < row.length := ok
    simp [dStp, hix i hi]
    exact u_setL hM (by simpa using hi) (ends (by simpa [rstep, dO, List.map_set] using q))
  | take i =>
    have hi : i < row.length := ok
    simp [dStp, hix i hi]
    exact u_setL hM (by simpa using hi) (ends (by simpa [rstep, dO, List.map_set] using q))
  | peek i =>
    have hi : i < row.length := ok
    simp [dStp, hix i hi]
    refine ⟨M, .refl M, ?_⟩
    have e : updM M p (.lst (row.map .int)) = M := by
      funext a
      unfold updM
      split
      · rename_i h; rw [h, hM]
      · rfl
    simpa [rstep, dO, e] using q
  | drop i =>
    have hi : i < row.length := ok
    simp [dStp, hix i hi]
    exact u_setL hM (by simpa using hi) (ends (by simpa [rstep, dO, List.map_set] using q))
  | move i j =>
    obtain ⟨hi, hj, hne⟩ := ok
    simp [dStp, hix i hi]
    by_cases hp : 0 < row[i]
    · simp [hi, hp]
      refine u_setL hM (by simpa using hi) ?_
      simp [ixOf, updM_same, hj, List.getElem_set, hne]
      refine u_setL (xs := (row.map .int).set i _) updM_same (by simpa using hj) ?_
      rw [updM_updM]
      refine ends ?_
      simpa [rstep, dO, List.map_set, hi, hj, hp] using q
    · simp [hi, hp]
      refine ⟨M, .refl M, ?_⟩
      have e : updM M p (.lst (row.map .int)) = M := by
        funext a
        unfold updM
        split
        · rename_i h; rw [h, hM]
        · rfl
      simpa [rstep, dO, e, hi, hp] using q
  | pour i j =>
    obtain ⟨hi, hj, hne⟩ := ok
    simp [dStp, hix i hi]
    refine u_setL hM (by simpa using hi) ?_
    simp [ixOf, updM_same, hj, List.getElem_set, hne]
    refine u_setL (xs := (row.map .int).set i _) updM_same (by simpa using hj) ?_
    rw [updM_updM]
    refine ends ?_
    simpa [rstep, dO, List.map_set, hi, hj] using q
  | swap i j =>
    obtain ⟨hi, hj, hne⟩ := ok
    simp [dStp, hix i hi, hix j hj]
    refine u_setL hM (by simpa using hi) ?_
    refine u_setL (xs := (row.map .int).set i _) updM_same (by simpa using hj) ?_
    rw [updM_updM]
    refine ends ?_
    simpa [rstep, dO, List.map_set, hi, hj] using q
abbrev s_held_in : Stmt := top 22
abbrev N_held_in : List Str := ["contents", "name", "one", "things"]
theorem sc_held_in : FnScope N_held_in ["contents", "name"] (defScope s_held_in) := ⟨rfl, rfl, rfl, by decide +kernel, rfl, by decide +kernel, by decide +kernel⟩
theorem d_held_in (D : Def K mg "held_in" s_held_in ["contents", "name"]) (T : Txt mg)  : Has P w K mg base "held_in" 1 2 wf_held_in := by
  refine has_def 2 D sc_held_in rfl (fun f cdv A outer s H E hr => (dss_cons (ds_for PassesOwn.never rfl (di_val (de_var (pv 0))) (dg_tup (n := 2) rfl (dgs_cons (dg_name (pg_name (i := 2) sc_held_in.nd rfl (Or.inl rfl))) (dgs_cons (dg_name (pg_name (i := 3) sc_held_in.nd rfl (Or.inl rfl))) dgs_nil))) (dss_one (ds_if (dt_w (dw_and (dt_val (de_isi (n := .S) rfl T.no_isinstance (de_var (pv 1)) rfl T.no_str (by decide +kernel) (by decide) (by decide))) (dw_and1 (dt_eq (hr.units) (de_var (pv 2)) (de_var (pv 1)))))) (dss_one (ds_ret (de_var (pv 3)))) dss_nil))) (dss_one ds_never))) ?_
  intro ds M Q hn h
  obtain ⟨c, a, xs, rfl, hg, q⟩ := h
  simp [dC, wFor]
  refine forL_ind (I := fun l S => getc l a = some xs ∧ ∃ e2 e3, S = ⟨[some (dC c), some (.str a), e2, e3], M⟩) ?_ ?_ c _ ⟨hg, none, none, rfl⟩
  · rintro S ⟨h, _⟩
    simp [getc] at h
  · rintro ⟨b, ys⟩ l S ⟨h, e2, e3, rfl⟩ N hN
    by_cases e : b = a
    · subst e
      simp [getc] at h
      subst h
      simp 
      exact ends q
    · simp [e]
      refine nxt (hN _ ⟨?_, _, _, rfl⟩)
      simpa [getc, e] using h
abbrev s_value_of : Stmt := top 25
abbrev N_value_of : List Str := ["values", "name", "one", "thing"]
theorem sc_value_of : FnScope N_value_of ["values", "name"] (defScope s_value_of) := ⟨rfl, rfl, rfl, by decide +kernel, rfl, by decide +kernel, by decide +kernel⟩
theorem d_value_of (D : Def K mg "value_of" s_value_of ["values", "name"]) (T : Txt mg)  : Has P w K mg base "value_of" 1 2 wf_value_of := by
  refine has_def 2 D sc_value_of rfl (fun f cdv A outer s H E hr => (dss_cons (ds_for PassesOwn.never rfl (di_val (de_weak (de_var (pv 0)))) (dg_tup (n := 2) rfl (dgs_cons (dg_name (pg_name (i := 2) sc_value_of.nd rfl (Or.inl rfl))) (dgs_cons (dg_name (pg_name (i := 3) sc_value_of.nd rfl (Or.inl rfl))) dgs_nil))) (dss_one (ds_if (dt_w (dw_and (dt_val (de_isi (n := .S) rfl T.no_isinstance (de_var (pv 1)) rfl T.no_str (by decide +kernel) (by decide) (by decide))) (dw_and1 (dt_eq (hr.units) (de_var (pv 2)) (de_var (pv 1)))))) (dss_one (ds_ret (de_var (pv 3)))) dss_nil))) (dss_one ds_never))) ?_
  intro ds M Q hn h
  obtain ⟨d, v, a, i, rfl, hd, hg, q⟩ := h
  simp [wFor, hd, dV]
  refine forL_ind (I := fun l S => vget l a = some i ∧ ∃ e2 e3, S = ⟨[some d, some (.str a), e2, e3], M⟩) ?_ ?_ v _ ⟨hg, none, none, rfl⟩
  · rintro S ⟨h, _⟩
    simp [vget] at h
  · rintro ⟨b, j⟩ l S ⟨h, e2, e3, rfl⟩ N hN
    by_cases e : b = a
    · subst e
      simp [vget] at h
      subst h
      simp 
      exact ends q
    · simp [e]
      refine nxt (hN _ ⟨?_, _, _, rfl⟩)
      simpa [vget, e] using h
abbrev s__row_below : Stmt := top 32
abbrev N__row_below : List Str := ["one", "other", ".0", "first", "second"]
theorem sc__row_below : FnScope N__row_below ["one", "other"] (defScope s__row_below) := ⟨rfl, rfl, rfl, by decide +kernel, rfl, by decide +kernel, by decide +kernel⟩
theorem d__row_below (D : Def K mg "_row_below" s__row_below ["one", "other"]) (T : Txt mg)  : Has P w K mg base "_row_below" 1 2 wf__row_below := by
  refine has_def 2 D sc__row_below rfl (fun f cdv A outer s H E hr => (dss_cons (ds_if (dt_lt (de_len rfl T.no_len (da_cons (de_var (pv 0)) da_nil)) (de_len rfl T.no_len (da_cons (de_var (pv 1)) da_nil))) (dss_one (ds_ret de_bl)) dss_nil) (dss_one (ds_ret (de_all rfl rfl T.no_all (da_cons (de_fz (dn_comp (own := [(".0", 2), ("first", 3), ("second", 4)]) rfl sc__row_below.nd (di_zip rfl T.no_zip (de_var (pv 0)) (de_var (pv 1))) (blkOk_by (N := N__row_below) (sc := defScope s__row_below) (by decide +kernel)) (fun _ _ _ _ _ => (dgc_tup (n := 2) rfl (dgsc_cons (dgc_name (pg_name (i := 3) sc__row_below.nd rfl (Or.inl rfl)) (by decide)) (dgsc_cons (dgc_name (pg_name (i := 4) sc__row_below.nd rfl (Or.inl rfl)) (by decide)) dgsc_nil)))) (fun _ _ _ _ _ => dts_nil) (fun _ _ _ _ _ => (de_le (de_var (pv 3)) (de_var (pv 4)))))) da_nil)))))) ?_
  intro ds M Q hn h
  obtain ⟨xs, ys, rfl, hl, q⟩ := h
  have hz := sizeLine_eq
  simp [dI]
  by_cases h : xs.length < ys.length
  · simp [h]
    refine ends ?_
    simpa [belowL, Nat.not_le.mpr h] using q
  · simp [h, wComp, wipeD, pairsD_map]
    refine ⟨by omega, compL_map (fun p => .bl (decide (p.1 ≤ p.2))) (xs.zip ys) (fun p hp Q1 q1 => by simpa using q1) ⟨(xs.zip ys).map fun p => decide (p.1 ≤ p.2), by simp, ends ?_⟩⟩
    simpa [List.all_map, Function.comp_def, belowL, Nat.not_lt.mp h] using q
abbrev s__mixed : Stmt := top 37
abbrev N__mixed : List Str := ["one", "other", "lower", "told", "name", "things", "_", "more", "row", "at", "parts", ".0", "part"]
theorem sc__mixed : FnScope N__mixed ["one", "other", "lower"] (defScope s__mixed) := ⟨rfl, rfl, rfl, by decide +kernel, rfl, by decide +kernel, by decide +kernel⟩
theorem d__mixed (D : Def K mg "_mixed" s__mixed ["one", "other", "lower"]) (T : Txt mg)  : Has P w K mg base "_mixed" 1 3 wf__mixed := by
  refine has_def 3 D sc__mixed rfl (fun f cdv A outer s H E hr => (dss_cons (ds_setNew' (ps_set (i := 3) sc__mixed.nd rfl (Or.inl rfl) (dn_lst da_nil))) (dss_cons (ds_for PassesOwn.never rfl (di_zip rfl T.no_zip (de_var (pv 0)) (de_var (pv 1))) (dg_tup (n := 2) rfl (dgs_cons (dg_tup (n := 2) rfl (dgs_cons (dg_name (pg_name (i := 4) sc__mixed.nd rfl (Or.inl rfl))) (dgs_cons (dg_name (pg_name (i := 5) sc__mixed.nd rfl (Or.inl rfl))) dgs_nil))) (dgs_cons (dg_tup (n := 2) rfl (dgs_cons (dg_name (pg_name (i := 6) sc__mixed.nd rfl (Or.inl rfl))) (dgs_cons (dg_name (pg_name (i := 7) sc__mixed.nd rfl (Or.inl rfl))) dgs_nil))) dgs_nil))) (dss_cons (ds_setNew' (ps_set (i := 8) sc__mixed.nd rfl (Or.inl rfl) (dn_lst da_nil))) (dss_cons (ds_for PassesOwn.never rfl (di_range1 rfl T.no_range (de_ite (dt_val (de_var (pv 2))) (de_max2 rfl rfl T.no_max (da_cons (de_len rfl T.no_len (da_cons (de_var (pv 5)) da_nil)) (da_cons (de_len rfl T.no_len (da_cons (de_var (pv 7)) da_nil)) da_nil))) (de_min2 rfl rfl T.no_min (da_cons (de_len rfl T.no_len (da_cons (de_var (pv 5)) da_nil)) (da_cons (de_len rfl T.no_len (da_cons (de_var (pv 7)) da_nil)) da_nil))))) (dg_name (pg_name (i := 9) sc__mixed.nd rfl (Or.inr rfl))) (dss_cons (ds_setFz' (ds_setComp (i := 10) (own := [(".0", 11), ("part", 12)]) rfl sc__mixed.nd rfl rfl (sw_true rfl rfl rfl (by decide +kernel)) (di_val (de_tup (da_cons (de_var (pv 5)) (da_cons (de_var (pv 7)) da_nil)))) (blkOk_by (N := N__mixed) (sc := defScope s__mixed) (by decide +kernel)) (fun _ _ _ _ _ => (dgc_name (pg_name (i := 12) sc__mixed.nd rfl (Or.inl rfl)) (by decide))) (fun _ _ _ _ _ => (dts_one (dt_lt (de_var (pv 9)) (de_len rfl T.no_len (da_cons (de_var (pv 12)) da_nil))))) (fun _ _ _ _ _ => (de_ix (hu_of hr) (de_var (pv 12)) (de_var (pv 9)))))) (dss_one (ds_expr (de_append (de_var (pv 8)) (da_cons (de_ite (dt_val (de_var (pv 2))) (de_minL rfl rfl T.no_min (da_cons (de_var (pv 10)) da_nil)) (de_maxL rfl rfl T.no_max (da_cons (de_var (pv 10)) da_nil))) da_nil)))))) (dss_one (ds_expr (de_append (de_var (pv 3)) (da_cons (de_tup (da_cons (de_var (pv 4)) (da_cons (de_tupOf rfl T.no_tuple (da_cons (de_var (pv 8)) da_nil)) da_nil))) da_nil))))))) (dss_one (ds_ret (de_tupOf rfl T.no_tuple (da_cons (de_var (pv 3)) da_nil))))))) ?_
  intro ds M Q hn h
  obtain ⟨c, d, b, rfl, hc, hd, q⟩ := h
  have hz := sizeLine_eq
  have hcl := hc.ln
  simp [wFor, wSetNew, dC, pairsD_map]
  intro p hp
  refine forL_ind (I := fun l S => ∃ done e4 e5 e6 e7 e8 e9 e10 e11 e12, S = ⟨[some (dC c), some (dC d), some (.bl b), some (.ref p), e4, e5, e6, e7, e8, e9, e10, e11, e12], updM M p (.lst (done.map fun p : Str × List Int => .tup [.str p.1, dI p.2]))⟩ ∧ done ++ l.map (fun p => (p.1.1, mixL b p.1.2 p.2.2)) = mixed b c d ∧ (∀ x ∈ l, x ∈ c.zip d) ∧ done.length + l.length ≤ 1000) ?_ ?_ (c.zip d) _ ⟨[], none, none, none, none, none, none, none, none, none, rfl, rfl, fun _ h => h, by simp; omega⟩
  · rintro S ⟨done, e4, e5, e6, e7, e8, e9, e10, e11, e12, rfl, e, _, _⟩
    simp at e
    subst e
    simp
    exact endsU hp q
  · rintro ⟨⟨nm, xs⟩, nm2, ys⟩ l S ⟨done, e4, e5, e6, e7, e8, e9, e10, e11, e12, rfl, e, hl, hdl⟩ N hN
    have hm := hl _ List.mem_cons_self
    have hx := le_tot (List.of_mem_zip hm).1
    have hy := le_tot (List.of_mem_zip hm).2
    have := hc.sm
    have := hd.sm
    simp at hx hy
    simp [wFor, dI]
    intro p2 hp2
    have hne : p2 ≠ p := fun z => by
      have hp2' : updM M p _ p2 = none := hp2
      rw [z, updM_same] at hp2'
      cases hp2'
    have hM2 : M p2 = none := by
      have hp2' : updM M p _ p2 = none := hp2
      rw [updM_ne hne] at hp2'
      exact hp2'
    have hlen := mixL_len b xs ys
    have hat : ∀ k (h : k < (mixL b xs ys).length), (mixL b xs ys)[k] = (match xs[k]?, ys[k]? with
      | some a, some c => if b then min a c else max a c
      | some a, none => a
      | none, some c => c
      | none, none => 0) := fun k h => mixL_at h
    have e' : done ++ [(nm, mixL b xs ys)] ++ l.map (fun p => (p.1.1, mixL b p.1.2 p.2.2)) = mixed b c d := by rw [← e]; simp
    clear e
    generalize mixL b xs ys = mm at hlen hat e'
    have fin : ∀ S : DS, (∃ e9 e10 e11 e12, S = ⟨[some (dC c), some (dC d), some (.bl b), some (.ref p), some (.str nm), some (dI xs), some (.str nm2), some (dI ys), some (.ref p2), e9, e10, e11, e12], updM (updM M p (.lst (done.map fun p : Str × List Int => .tup [.str p.1, dI p.2]))) p2 (.lst (mm.map .int))⟩) →
        ∃ S0, Imp ⟨S.env, updM (updM (updM M p (.lst (done.map fun p : Str × List Int => .tup [.str p.1, dI p.2]))) p2 (.lst (mm.map .int))) p (.lst ((done ++ [(nm, mm)]).map fun p : Str × List Int => .tup [.str p.1, dI p.2]))⟩ S0 ∧ N S0 := by
      rintro S ⟨e9, e10, e11, e12, rfl⟩
      refine drop_new hM2 (Ne.symm hne) (hN _ ⟨done ++ [(nm, mm)], _, _, _, _, _, _, _, _, _, rfl, e', fun x hx => hl x (List.mem_cons_of_mem _ hx), ?_⟩)
      simp at hdl ⊢
      omega
    clear hN
    cases b
    · simp [wRange1] at hlen hat ⊢
      refine ⟨by omega, ?_⟩
      rw [← hlen]
      refine forR_ind (fun k S => ∃ e9 e10 e11 e12, S = ⟨[some (dC c), some (dC d), some (.bl false), some (.ref p), some (.str nm), some (dI xs), some (.str nm2), some (dI ys), some (.ref p2), e9, e10, e11, e12], updM (updM M p (.lst (done.map fun p : Str × List Int => .tup [.str p.1, dI p.2]))) p2 (.lst ((mm.take k).map .int))⟩) ?_ ?_ _ ⟨e9, e10, e11, e12, by simp [dI]⟩
      · rintro S ⟨e9, e10, e11, e12, rfl⟩
        rw [List.take_length]
        simp
        refine u_append (xs := done.map fun p : Str × List Int => .tup [.str p.1, dI p.2]) (by rw [updM_ne (Ne.symm hne), updM_same]) (by simp at hdl ⊢; omega) ?_
        have z := fin _ ⟨e9, e10, e11, e12, rfl⟩
        simpa [dI] using z
      · rintro k S hk ⟨e9, e10, e11, e12, rfl⟩ N2 hN2
        have z := hat k hk
        have hsn := take_snoc hk
        have hN3 : ∀ e9 e10 e11 e12, N2 ⟨[some (dC c), some (dC d), some (.bl false), some (.ref p), some (.str nm), some (dI xs), some (.str nm2), some (dI ys), some (.ref p2), e9, e10, e11, e12], updM (updM M p (.lst (done.map fun p : Str × List Int => .tup [.str p.1, dI p.2]))) p2 (.lst ((mm.take k).map .int ++ [.int mm[k]]))⟩ := fun e9 e10 e11 e12 => by
          have z := hN2 _ ⟨e9, e10, e11, e12, rfl⟩
          rw [hsn, List.map_append] at z
          exact z
        simp [wComp, wipeD]
        rw [show [dI xs, dI ys] = [xs, ys].map dI from rfl]
        refine ⟨by omega, compL_pure (fun w => decide (k < w.length)) (fun w => .int (w.getD k 0)) [xs, ys] [] (fun w hw Q1 Q2 h1 h2 => ?_) ?_⟩
        · simp [dI]
          by_cases hkw : k < w.length
          · simpa [hkw, dI] using h1 (by simpa using hkw)
          · simpa [hkw, dI] using h2 (by simpa using hkw)
        · refine ⟨by simp, ([xs, ys].filter fun w => decide (k < w.length)).map fun w => w.getD k 0, by simp, ?_, fun m hm hmin => ?_⟩
          · by_cases h1 : k < xs.length
            · simp [h1]
            · by_cases h2 : k < ys.length
              · simp [h1, h2]
              · omega
          · have em : m = mm[k] := by
              rw [z]
              by_cases h1 : k < xs.length <;> by_cases h2 : k < ys.length <;> simp [h1, h2] at hm hmin ⊢ <;> (try rw [Int.max_def]) <;> (try rw [Int.min_def]) <;> (try split) <;> omega
            rw [em]
            simp
            exact ⟨by omega, nxt (by simpa using hN3 _ _ _ _)⟩
    · simp [wRange1] at hlen hat ⊢
      refine ⟨by omega, ?_⟩
      rw [← hlen]
      refine forR_ind (fun k S => ∃ e9 e10 e11 e12, S = ⟨[some (dC c), some (dC d), some (.bl true), some (.ref p), some (.str nm), some (dI xs), some (.str nm2), some (dI ys), some (.ref p2), e9, e10, e11, e12], updM (updM M p (.lst (done.map fun p : Str × List Int => .tup [.str p.1, dI p.2]))) p2 (.lst ((mm.take k).map .int))⟩) ?_ ?_ _ ⟨e9, e10, e11, e12, by simp [dI]⟩
      · rintro S ⟨e9, e10, e11, e12, rfl⟩
        rw [List.take_length]
        simp
        refine u_append (xs := done.map fun p : Str × List Int => .tup [.str p.1, dI p.2]) (by rw [updM_ne (Ne.symm hne), updM_same]) (by simp at hdl ⊢; omega) ?_
        have z := fin _ ⟨e9, e10, e11, e12, rfl⟩
        simpa [dI] using z
      · rintro k S hk ⟨e9, e10, e11, e12, rfl⟩ N2 hN2
        have z := hat k hk
        have hsn := take_snoc hk
        have hN3 : ∀ e9 e10 e11 e12, N2 ⟨[some (dC c), some (dC d), some (.bl true), some (.ref p), some (.str nm), some (dI xs), some (.str nm2), some (dI ys), some (.ref p2), e9, e10, e11, e12], updM (updM M p (.lst (done.map fun p : Str × List Int => .tup [.str p.1, dI p.2]))) p2 (.lst ((mm.take k).map .int ++ [.int mm[k]]))⟩ := fun e9 e10 e11 e12 => by
          have z := hN2 _ ⟨e9, e10, e11, e12, rfl⟩
          rw [hsn, List.map_append] at z
          exact z
        simp [wComp, wipeD]
        rw [show [dI xs, dI ys] = [xs, ys].map dI from rfl]
        refine ⟨by omega, compL_pure (fun w => decide (k < w.length)) (fun w => .int (w.getD k 0)) [xs, ys] [] (fun w hw Q1 Q2 h1 h2 => ?_) ?_⟩
        · simp [dI]
          by_cases hkw : k < w.length
          · simpa [hkw, dI] using h1 (by simpa using hkw)
          · simpa [hkw, dI] using h2 (by simpa using hkw)
        · refine ⟨by simp, ([xs, ys].filter fun w => decide (k < w.length)).map fun w => w.getD k 0, by simp, ?_, fun m hm hmin => ?_⟩
          · by_cases h1 : k < xs.length
            · simp [h1]
            · by_cases h2 : k < ys.length
              · simp [h1, h2]
              · omega
          · have em : m = mm[k] := by
              rw [z]
              by_cases h1 : k < xs.length <;> by_cases h2 : k < ys.length <;> simp [h1, h2] at hm hmin ⊢ <;> (try rw [Int.max_def]) <;> (try rw [Int.min_def]) <;> (try split) <;> omega
            rw [em]
            simp
            exact ⟨by omega, nxt (by simpa using hN3 _ _ _ _)⟩
abbrev s_limits_of : Stmt := top 39
abbrev N_limits_of : List Str := ["one", "other", ".0", "_", "things", "thing"]
theorem sc_limits_of : FnScope N_limits_of ["one", "other"] (defScope s_limits_of) := ⟨rfl, rfl, rfl, by decide +kernel, rfl, by decide +kernel, by decide +kernel⟩
theorem d_limits_of (D : Def K mg "limits_of" s_limits_of ["one", "other"]) (T : Txt mg)  : Has P w K mg base "limits_of" 1 2 wf_limits_of := by
  refine has_def 2 D sc_limits_of rfl (fun f cdv A outer s H E hr => (dss_one (ds_ret (de_tupOf rfl T.no_tuple (da_cons (de_fz (dn_sorted (w := w) rfl (hu66 hr) rfl T.no_sorted (da_cons (de_new (dn_setComp2 (w := w) (own := [(".0", 2), ("_", 3), ("things", 4), ("thing", 5)]) (vs1 := [5]) rfl sc_limits_of.nd (di_val (de_add (de_var (pv 0)) (de_var (pv 1)))) (blkOk_by (N := N_limits_of) (sc := defScope s_limits_of) (by decide +kernel)) (by decide) (fun _ _ _ _ _ => (dgc_tup (n := 2) rfl (dgsc_cons (dgc_name (pg_name (i := 3) sc_limits_of.nd rfl (Or.inl rfl)) (by decide)) (dgsc_cons (dgc_name (pg_name (i := 4) sc_limits_of.nd rfl (Or.inl rfl)) (by decide)) dgsc_nil)))) (fun _ _ _ _ _ => dts_nil) (fun _ _ _ _ _ => (di_val (de_var (pv 4)))) (fun _ _ _ _ _ => (dgc_name (pg_name (i := 5) sc_limits_of.nd rfl (Or.inl rfl)) (by decide))) (fun _ _ _ _ _ => dts_nil) (fun _ _ _ _ _ => (de_var (pv 5))))) da_nil))) da_nil))))) ?_
  intro ds M Q hn h
  obtain ⟨c, d, rfl, hc, hd, q⟩ := h
  have hb : scanBound = 4096 := rfl
  have hz := sizeLine_eq
  have l1 := hc.ln
  have l2 := hd.ln
  simp [dC, wSetC2, wipeD, fSorted]
  refine ⟨by omega, ?_⟩
  have s1 := hc.sm
  have s2 := hd.sm
  have hlen : ∀ c : Cont, (c.flatMap (·.2)).length = tot c := fun c => by simp [tot, List.length_flatMap]
  rw [← List.map_append]
  have key : ∀ (l : Cont) (acc : List Int) (R : List Key → Mh → Prop), acc.length + (l.flatMap (·.2)).length + 1 < scanBound → R (addKs [] ((acc ++ l.flatMap (·.2)).map Sum.inl)) M →
      wSet2 (gTp 2 (gMore (gN 3) (gMore (gN 4) gEnd))) wYes (wIter (wVar 4)) (gN 5) wYes (wVar 5) [5] [some (dC c), some (dC d), none, none, none, none] (l.map fun p => .tup [.str p.1, dI p.2]) (addKs [] (acc.map Sum.inl)) M R := fun l => by
    induction l with
    | nil => intro acc R _ h; simpa [wSet2] using h
    | cons p l ih =>
      intro acc R hl h
      rw [List.flatMap_cons, List.length_append] at hl
      have h3 := (dedup_aux acc [] List.nodup_nil).2.2
      have e := addKs_ints acc []
      rw [List.map_nil] at e
      simp [wSet2, dI, wipeD]
      refine setL_pure (fun _ => true) Sum.inl p.2 _ (by rw [e, List.length_map]; simp at h3; omega) (fun x hx Q1 Q2 h1 h2 => by simpa [wYes] using h1 rfl) ?_
      rw [List.filter_eq_self.mpr fun _ _ => rfl]
      have e2 : addKs (addKs [] (acc.map Sum.inl)) (p.2.map Sum.inl) = addKs [] ((acc ++ p.2).map Sum.inl) := by
        simp [addKs, List.foldl_append]
      rw [e2]
      refine ih (acc ++ p.2) R (by rw [List.length_append]; omega) ?_
      simpa using h
  refine key (c ++ d) [] _ (by simp [hlen]; omega) fun p hp => ?_
  exact sorted_set (R := fun ds => ∃ M0, LeM M0 _ ∧ Q (.val (.tup ds)) M0) (endsU hp q)
abbrev s__law_pick : Stmt := top 49
abbrev N__law_pick : List Str := ["pool", "many"]
theorem sc__law_pick : FnScope N__law_pick ["pool", "many"] (defScope s__law_pick) := ⟨rfl, rfl, rfl, by decide +kernel, rfl, by decide +kernel, by decide +kernel⟩
theorem d__law_pick (D : Def K mg "_law_pick" s__law_pick ["pool", "many"]) (T : Txt mg)  : Has P w K mg base "_law_pick" 1 2 wf__law_pick := by
  refine has_def 2 D sc__law_pick rfl (fun f cdv A outer s H E hr => (dss_one (ds_ret (de_ite (dt_gt (de_len rfl T.no_len (da_cons (de_var (pv 0)) da_nil)) de_int) (de_mod (de_intOf rfl T.no_int (da_cons (de_pop (de_var (pv 0))) da_nil)) (de_var (pv 1))) de_int)))) ?_
  intro ds M Q hn h
  obtain ⟨p, n, rfl, hn0, ⟨xs, hl, hM⟩, q⟩ := h
  have hz := sizeLine_eq
  simp [lenOf, hM]
  by_cases h0 : 0 < xs.length
  · simp [h0, mPop, hM]
    refine ⟨⟨p, _, rfl, hM⟩, _, ⟨xs[xs.length - 1], by simp [h0], rfl⟩, ?_⟩
    simp [fInt, fI]
    refine ⟨hn0, ends (q _ _ (Int.emod_nonneg _ (by omega)) (Int.emod_lt_of_pos _ hn0) ⟨xs.dropLast, by simp; omega, by rw [List.map_dropLast]⟩)⟩
  · have e : xs = [] := List.eq_nil_of_length_eq_zero (by omega)
    subst e
    simp
    refine ends (q 0 M (Int.le_refl _) hn0 ⟨[], by simp, ?_⟩)
    funext a
    by_cases ha : a = p
    · rw [ha, hM, updM_same]
    · rw [updM_ne ha]
abbrev s__law_puts : Stmt := top 59
abbrev N__law_puts : List Str := ["recipe", "puts", ".0", "command", "one"]
theorem sc__law_puts : FnScope N__law_puts ["recipe"] (defScope s__law_puts) := ⟨rfl, rfl, rfl, by decide +kernel, rfl, by decide +kernel, by decide +kernel⟩
theorem d__law_puts (D : Def K mg "_law_puts" s__law_puts ["recipe"]) (T : Txt mg)  : Has P w K mg base "_law_puts" 1 1 wf__law_puts := by
  refine has_def 1 D sc__law_puts rfl (fun f cdv A outer s H E hr => (dss_cons (ds_setFz' (ds_setComp (i := 1) (own := [(".0", 2), ("command", 3)]) rfl sc__law_puts.nd rfl rfl (sw_true rfl rfl rfl (by decide +kernel)) (di_val (de_var (pv 0))) (blkOk_by (N := N__law_puts) (sc := defScope s__law_puts) (by decide +kernel)) (fun _ _ _ _ _ => (dgc_name (pg_name (i := 3) sc__law_puts.nd rfl (Or.inl rfl)) (by decide))) (fun _ _ _ _ _ => (dts_one (dt_eq (hr.units) (de_ix (hu_of hr) (de_var (pv 3)) de_int) de_str))) (fun _ _ _ _ _ => (de_ix (hu_of hr) (de_var (pv 3)) de_int)))) (dss_one (ds_ret (de_tup (da_cons (de_fz (dn_sorted (w := w) rfl (hu66 hr) rfl T.no_sorted (da_cons (de_new (dn_set (w := w) rfl rfl T.no_set (da_cons (de_fz (dn_comp (own := [(".0", 2), ("one", 4)]) rfl sc__law_puts.nd (di_val (de_var (pv 1))) (blkOk_by (N := N__law_puts) (sc := defScope s__law_puts) (by decide +kernel)) (fun _ _ _ _ _ => (dgc_name (pg_name (i := 4) sc__law_puts.nd rfl (Or.inl rfl)) (by decide))) (fun _ _ _ _ _ => (dts_one (dt_not (dt_val (de_isi (n := .S) rfl T.no_isinstance (de_var (pv 4)) rfl T.no_str (by decide +kernel) (by decide) (by decide)))))) (fun _ _ _ _ _ => (de_var (pv 4))))) da_nil))) da_nil))) (da_cons (de_fz (dn_sorted (w := w) rfl (hu66 hr) rfl T.no_sorted (da_cons (de_new (dn_set (w := w) rfl rfl T.no_set (da_cons (de_fz (dn_comp (own := [(".0", 2), ("one", 4)]) rfl sc__law_puts.nd (di_val (de_var (pv 1))) (blkOk_by (N := N__law_puts) (sc := defScope s__law_puts) (by decide +kernel)) (fun _ _ _ _ _ => (dgc_name (pg_name (i := 4) sc__law_puts.nd rfl (Or.inl rfl)) (by decide))) (fun _ _ _ _ _ => (dts_one (dt_val (de_isi (n := .S) rfl T.no_isinstance (de_var (pv 4)) rfl T.no_str (by decide +kernel) (by decide) (by decide))))) (fun _ _ _ _ _ => (de_var (pv 4))))) da_nil))) da_nil))) da_nil))))))) ?_
  intro ds M Q hn h
  obtain ⟨r, rfl, hl, q⟩ := h
  have hz := sizeLine_eq
  have hb : scanBound = 4096 := rfl
  have l1 := allPuts_len r
  have l2 := puts_len r
  have l3 := putsN_len r
  simp [dR, wComp, wipeD]
  refine ⟨by omega, compL_pure isPut putV r [] (fun c hc Q1 Q2 h1 h2 => ?_) ?_⟩
  · cases c <;> simp [dCmd, isPut, putV] at h1 h2 ⊢ <;> first | exact h1 | exact h2
  rw [List.nil_append]
  show (allPuts r).length ≤ sizeLine ∧ _
  refine ⟨by omega, ?_⟩
  show wCompL _ _ _ _ (allPuts r) [] M _
  have em : allPuts r = (allPuts r).map id := by simp
  rw [em]
  refine compL_pure (enc := id) isI id (allPuts r) [] (fun d hd Q1 Q2 h1 h2 => ?_) ?_
  · rcases allPuts_mem hd with ⟨k, rfl⟩ | ⟨k, rfl⟩ <;> simp [isI] at h1 h2 ⊢ <;> first | exact h1 | exact h2
  rw [List.nil_append, allPuts_I, List.map_id]
  refine ⟨_, _, rfl, keysOf_ints _, by rw [List.length_map]; omega, fun p hp => f_sorted_set ⟨_, rfl, ?_⟩⟩
  show (allPuts r).length ≤ sizeLine ∧ wCompL _ _ _ _ (allPuts r) [] _ _
  rw [em]
  refine ⟨by rw [List.length_map]; omega, compL_pure (enc := id) isS id (allPuts r) [] (fun d hd Q1 Q2 h1 h2 => ?_) ?_⟩
  · rcases allPuts_mem hd with ⟨k, rfl⟩ | ⟨k, rfl⟩ <;> simp [isS] at h1 h2 ⊢ <;> first | exact h1 | exact h2
  rw [List.nil_append, allPuts_S, List.map_id]
  refine ⟨_, _, rfl, keysOf_strs _, by rw [List.length_map]; omega, fun p2 hp2 => f_sorted_setS ⟨_, rfl, M, ?_, q⟩⟩
  exact (LeM.upd hp).trans (LeM.upd hp2)
abbrev s__law_below : Stmt := top 61
abbrev N__law_below : List Str := ["one", "other", "k", "left", "right", ".0", "at"]
theorem sc__law_below : FnScope N__law_below ["one", "other"] (defScope s__law_below) := ⟨rfl, rfl, rfl, by decide +kernel, rfl, by decide +kernel, by decide +kernel⟩
theorem d__law_below (D : Def K mg "_law_below" s__law_below ["one", "other"]) (T : Txt mg)  : Has P w K mg base "_law_below" 1 2 wf__law_below := by
  refine has_def 2 D sc__law_below rfl (fun f cdv A outer s H E hr => (dss_cons (ds_for PassesOwn.never rfl (di_range1 rfl T.no_range (de_len rfl T.no_len (da_cons (de_var (pv 0)) da_nil))) (dg_name (pg_name (i := 2) sc__law_below.nd rfl (Or.inl rfl))) (dss_cons (ds_asg (de_tup (da_cons (de_ix (hu_of hr) (de_ix (hu_of hr) (de_var (pv 0)) (de_var (pv 2))) de_int) (da_cons (de_ix (hu_of hr) (de_ix (hu_of hr) (de_var (pv 1)) (de_var (pv 2))) de_int) da_nil))) (dg_tup (n := 2) rfl (dgs_cons (dg_name (pg_name (i := 3) sc__law_below.nd rfl (Or.inr rfl))) (dgs_cons (dg_name (pg_name (i := 4) sc__law_below.nd rfl (Or.inr rfl))) dgs_nil)))) (dss_one (ds_if (dt_w (dw_or (dt_lt (de_len rfl T.no_len (da_cons (de_var (pv 3)) da_nil)) (de_len rfl T.no_len (da_cons (de_var (pv 4)) da_nil))) (dw_or1 (dt_gt (de_len rfl T.no_len (da_cons (de_fz (dn_comp (own := [(".0", 5), ("at", 6)]) rfl sc__law_below.nd (di_range1 rfl T.no_range (de_len rfl T.no_len (da_cons (de_var (pv 4)) da_nil))) (blkOk_by (N := N__law_below) (sc := defScope s__law_below) (by decide +kernel)) (fun _ _ _ _ _ => (dgc_name (pg_name (i := 6) sc__law_below.nd rfl (Or.inl rfl)) (by decide))) (fun _ _ _ _ _ => (dts_one (dt_gt (de_ix (hu_of hr) (de_var (pv 3)) (de_var (pv 6))) (de_ix (hu_of hr) (de_var (pv 4)) (de_var (pv 6)))))) (fun _ _ _ _ _ => (de_var (pv 6))))) da_nil)) de_int)))) (dss_one (ds_ret de_bl)) dss_nil)))) (dss_one (ds_ret de_bl)))) ?_
  intro ds M Q hn h
  obtain ⟨c, d, n, m, rfl, hcd, hc, hn1, hd, hm1, q⟩ := h
  have hz := sizeLine_eq
  have hl := hc.ln
  simp [dC, wFor]
  refine ⟨c.length, by simp, (by unfold RB; omega : RB ((c.length : Nat) : Int)), ?_⟩
  refine forR_ind (n := c.length) (I := fun k S => ∃ e2 e3 e4 e5 e6, S = ⟨[some (dC c), some (dC d), e2, e3, e4, e5, e6], M⟩ ∧ k ≤ c.length ∧ below c d = ((c.zip d).drop k).all fun p => belowL p.1.2 p.2.2) ?_ ?_ _ ⟨none, none, none, none, none, rfl, by omega, rfl⟩
  · rintro S ⟨e2, e3, e4, e5, e6, rfl, _, e⟩
    rw [List.drop_eq_nil_of_le (by simp; omega)] at e
    rw [e] at q
    exact ends q
  · rintro k S hk ⟨e2, e3, e4, e5, e6, rfl, _, e⟩ N hN
    have hk2 : k < d.length := by omega
    simp [dC, hk, hk2]
    have t1 := le_tot (List.getElem_mem hk)
    have t2 := le_tot (List.getElem_mem hk2)
    have s1 := hc.sm
    have s2 := hd.sm
    have hz2 : k < (c.zip d).length := by simp; omega
    rw [List.drop_eq_getElem_cons hz2, List.all_cons, List.getElem_zip] at e
    simp only at e
    generalize hx : (c[k]).2 = xs at *
    generalize hy : (d[k]).2 = ys at *
    refine ⟨xs.length, by simp [dI], ys.length, by simp [dI], ?_⟩
    by_cases hlt : xs.length < ys.length
    · rw [if_pos hlt]
      have : belowL xs ys = false := by
        unfold belowL
        rw [decide_eq_false (by omega)]
        rfl
      rw [this, Bool.false_and] at e
      rw [e] at q
      exact ends q
    · rw [if_neg hlt]
      simp [wComp, wipeD, dI]
      refine ⟨ys.length, by simp, (by unfold RB; omega : RB ((ys.length : Nat) : Int)), by simp [intsD_0]; omega, ?_⟩
      rw [intsD_0]
      refine compL_pure (fun i : Nat => decide (ys.getD i 0 < xs.getD i 0)) (fun i : Nat => .int (i : Nat)) (List.range ys.length) [] (fun i hi Q1 Q2 h1 h2 => ?_) ?_
      · have hi := List.mem_range.mp hi
        have hi1 : i < xs.length := by omega
        simp [hi, hi1] at h1 h2 ⊢
        by_cases u : ys[i] < xs[i]
        · simpa [u] using h1 u
        · simpa [u] using h2 (by omega)
      · have z := filter_below (xs := xs) (ys := ys) (by omega)
        rw [List.nil_append, List.length_map]
        have eb : belowL xs ys = (xs.zip ys).all fun p => decide (p.1 ≤ p.2) := by
          unfold belowL
          rw [decide_eq_true (by omega : ys.length ≤ xs.length), Bool.true_and]
        cases hb : belowL xs ys with
        | true =>
          have z' := z.mpr (by rw [← eb, hb])
          rw [z']
          rw [if_neg (by simp)]
          refine nxt (hN _ ⟨_, _, _, _, _, rfl, by omega, ?_⟩)
          rw [e, hb, Bool.true_and]
        | false =>
          have z' : ¬ (List.filter (fun i => decide (ys.getD i 0 < xs.getD i 0)) (List.range ys.length) = []) := fun u => by
            have := z.mp u
            rw [← eb, hb] at this
            cases this
          rw [if_pos (List.length_pos_iff.mpr z')]
          rw [hb, Bool.false_and] at e
          rw [e] at q
          exact ends q
abbrev s__law_told_below : Stmt := top 62
abbrev N__law_told_below : List Str := ["one", "other", ".0", "k"]
theorem sc__law_told_below : FnScope N__law_told_below ["one", "other"] (defScope s__law_told_below) := ⟨rfl, rfl, rfl, by decide +kernel, rfl, by decide +kernel, by decide +kernel⟩
theorem d__law_told_below (D : Def K mg "_law_told_below" s__law_told_below ["one", "other"]) (T : Txt mg)  : Has P w K mg base "_law_told_below" 1 2 wf__law_told_below := by
  refine has_def 2 D sc__law_told_below rfl (fun f cdv A outer s H E hr => (dss_one (ds_ret (de_and (de_eq (hr.units) (de_len rfl T.no_len (da_cons (de_var (pv 0)) da_nil)) (de_len rfl T.no_len (da_cons (de_var (pv 1)) da_nil))) (de_one (de_eq (hr.units) (de_len rfl T.no_len (da_cons (de_fz (dn_comp (own := [(".0", 2), ("k", 3)]) rfl sc__law_told_below.nd (di_range1 rfl T.no_range (de_len rfl T.no_len (da_cons (de_var (pv 0)) da_nil))) (blkOk_by (N := N__law_told_below) (sc := defScope s__law_told_below) (by decide +kernel)) (fun _ _ _ _ _ => (dgc_name (pg_name (i := 3) sc__law_told_below.nd rfl (Or.inl rfl)) (by decide))) (fun _ _ _ _ _ => (dts_one (dt_w (dw_and (dt_notN (de_ix (hu_of hr) (de_var (pv 1)) (de_var (pv 3))) de_non) (dw_and1 (dt_w (dw_or (dt_isN (de_ix (hu_of hr) (de_var (pv 0)) (de_var (pv 3))) de_non) (dw_or1 (dt_gt (de_ix (hu_of hr) (de_var (pv 0)) (de_var (pv 3))) (de_ix (hu_of hr) (de_var (pv 1)) (de_var (pv 3)))))))))))) (fun _ _ _ _ _ => (de_var (pv 3))))) da_nil)) de_int)))))) ?_
  intro ds M Q hn h
  obtain ⟨s, t, rfl, h1, h2, q⟩ := h
  have hz := sizeLine_eq
  simp [dT]
  by_cases h : s.length = t.length
  · rw [if_pos (by omega)]
    simp [h, wComp, wipeD, intsD_0]
    have z := filter_zip (fun p : Option Int × Option Int => atMost p.1 p.2) h (fun i => !atMost (s.getD i none) (t.getD i none)) (fun i h1 h2 => by simp [h1, h2])
    refine ⟨t.length, by simp [h], (by unfold RB; omega : RB ((t.length : Nat) : Int)), by simp [intsD_0]; omega, ?_⟩
    rw [intsD_0]
    refine compL_pure (fun i : Nat => !atMost (s.getD i none) (t.getD i none)) (fun i : Nat => .int (i : Nat)) (List.range t.length) [] (fun i hi Q1 Q2 h1 h2 => ?_) ?_
    · have hi := List.mem_range.mp hi
      simp [h, hi]
      simp [h, hi, show i < s.length by omega] at h1 h2
      revert h1 h2
      cases t[i] with
      | none => cases s[i]'(by omega) <;> simp [dO, atMost]
      | some b =>
        cases s[i]'(by omega) with
        | none => simp [dO, atMost]
        | some a =>
          simp only [dO, atMost]
          intro h1 h2
          by_cases e : a ≤ b
          · simp [Int.not_lt.mpr e]
            exact h2 (by simpa using e)
          · simp [Int.not_le.mp e]
            exact h1 (by simpa using e)
    · refine ends ?_
      rw [List.nil_append]
      have e : decide (List.map (fun i : Nat => Dat.int (i : Nat)) (List.filter (fun i => !atMost (s.getD i none) (t.getD i none)) (List.range t.length)) = []) = toldBelow s t := by
        rw [h] at z
        rw [Bool.eq_iff_iff, decide_eq_true_iff, List.map_eq_nil_iff, z]
        simp [toldBelow, h]
      rw [e]
      exact q
  · rw [if_neg (by omega)]
    refine ends ?_
    simpa [toldBelow, h] using q
abbrev s__law_at : Stmt := top 65
abbrev N__law_at : List Str := ["contents", "limit", ".0", "name", "things", "one"]
theorem sc__law_at : FnScope N__law_at ["contents", "limit"] (defScope s__law_at) := ⟨rfl, rfl, rfl, by decide +kernel, rfl, by decide +kernel, by decide +kernel⟩
theorem d__law_at (D : Def K mg "_law_at" s__law_at ["contents", "limit"]) (T : Txt mg)  : Has P w K mg base "_law_at" 1 2 wf__law_at := by
  refine has_def 2 D sc__law_at rfl (fun f cdv A outer s H E hr => (dss_one (ds_ret (de_tupS rfl T.no_tuple (da_cons (de_fz (dn_comp (own := [(".0", 2), ("name", 3), ("things", 4)]) rfl sc__law_at.nd (di_val (de_var (pv 0))) (blkOk_by (N := N__law_at) (sc := defScope s__law_at) (by decide +kernel)) (fun _ _ _ _ _ => (dgc_tup (n := 2) rfl (dgsc_cons (dgc_name (pg_name (i := 3) sc__law_at.nd rfl (Or.inl rfl)) (by decide)) (dgsc_cons (dgc_name (pg_name (i := 4) sc__law_at.nd rfl (Or.inl rfl)) (by decide)) dgsc_nil)))) (fun _ _ _ _ _ => dts_nil) (fun _ _ _ _ _ => (de_tup (da_cons (de_var (pv 3)) (da_cons (de_len rfl T.no_len (da_cons (de_fz (dn_comp (own := [(".0", 2), ("one", 5)]) rfl sc__law_at.nd (di_val (de_var (pv 4))) (blkOk_by (by kernel_rfl)) (fun _ _ _ _ _ => (dgc_name (pg_name (i := 5) sc__law_at.nd rfl (Or.inl rfl)) (by decide))) (fun _ _ _ _ _ => (dts_one (dt_le (de_var (pv 5)) (de_var (pv 1))))) (fun _ _ _ _ _ => (de_var (pv 5))))) da_nil)) da_nil)))))) da_nil))))) ?_
  intro ds M Q hn h
  obtain ⟨c, t, n, rfl, hc, hn1, q⟩ := h
  have hz := sizeLine_eq
  have hl := hc.ln
  simp [dC, wComp, wipeD]
  refine ⟨by omega, compL_map (fun p => .tup [.str p.1, .int (cnt p.2 t)]) c (fun p hp Q1 q1 => ?_) (ends (by simpa [cntC, Function.comp_def] using q))⟩
  have := le_tot hp
  have := hc.sm
  simp [dI, wComp, wipeD]
  refine ⟨by omega, compL_pure (fun x => decide (x ≤ t)) .int p.2 [] (fun x hx Q1 Q2 h1 h2 => ?_) ?_⟩
  · simp
    by_cases e : x ≤ t
    · simpa [e] using h1 (by simp [e])
    · simpa [e] using h2 (by simp [e])
  · simpa [cnt] using q1
abbrev s_told_numbers : Stmt := top 13
abbrev N_told_numbers : List Str := ["recipe", ".0", "command"]
theorem sc_told_numbers : FnScope N_told_numbers ["recipe"] (defScope s_told_numbers) := ⟨rfl, rfl, rfl, by decide +kernel, rfl, by decide +kernel, by decide +kernel⟩
theorem d_told_numbers (D : Def K mg "told_numbers" s_told_numbers ["recipe"]) (T : Txt mg) (h_is_number : Has P w K mg base "is_number" 1 1 wf_is_number) (h_put_of : Has P w K mg base "put_of" 1 1 wf_put_of) : Has P w K mg base "told_numbers" 2 1 wf_told_numbers := by
  refine has_def 1 D sc_told_numbers rfl (fun f cdv A outer s H E hr => (dss_one (ds_ret (de_tupOf rfl T.no_tuple (da_cons (de_fz (dn_sorted (w := w) rfl (hu66 hr) rfl T.no_sorted (da_cons (de_new (dn_setComp (w := w) (own := [(".0", 1), ("command", 2)]) rfl sc_told_numbers.nd (di_val (de_var (pv 0))) (blkOk_by (N := N_told_numbers) (sc := defScope s_told_numbers) (by decide +kernel)) (fun _ _ _ _ _ => (dgc_name (pg_name (i := 2) sc_told_numbers.nd rfl (Or.inl rfl)) (by decide))) (fun _ _ _ _ _ => (dts_one (dt_val (de_call h_is_number (hr.mono (by decide)) rfl (da_cons (de_call h_put_of (hr.mono (by decide)) rfl (da_cons (de_var (pv 2)) da_nil)) da_nil))))) (fun _ _ _ _ _ => (de_call h_put_of (hr.mono (by decide)) rfl (da_cons (de_var (pv 2)) da_nil))))) da_nil))) da_nil))))) ?_
  intro ds M Q hn h
  obtain ⟨r, rfl, hl, q⟩ := h
  have hb : scanBound = 4096 := rfl
  simp [dR, wSetC, wipeD, fSorted]
  refine setL_pure isPutI (fun c => .inl (putI c)) r [] (by simp; omega) (fun c hc Q1 Q2 h1 h2 => ?_) fun p hp => ?_
  · simp
    refine ⟨c, rfl, ?_⟩
    cases c <;> (simp; refine ⟨_, _, rfl, rfl, ?_⟩; simp) <;> first | exact h2 rfl | exact ⟨_, rfl, h1 rfl⟩
  · rw [puts_eq]
    exact sorted_set (R := fun ds => ∃ M0, LeM M0 _ ∧ Q (.val (.tup ds)) M0) (endsU hp q)
abbrev s_run_steps : Stmt := top 19
abbrev N_run_steps : List Str := ["steps", "numbers", "row", "bits", "step", "bit"]
theorem sc_run_steps : FnScope N_run_steps ["steps", "numbers"] (defScope s_run_steps) := ⟨rfl, rfl, rfl, by decide +kernel, rfl, by decide +kernel, by decide +kernel⟩
theorem d_run_steps (D : Def K mg "run_steps" s_run_steps ["steps", "numbers"]) (T : Txt mg) (h__stepped : Has P w K mg base "_stepped" 1 2 wf__stepped) : Has P w K mg base "run_steps" 2 2 wf_run_steps := by
  refine has_def 2 D sc_run_steps rfl (fun f cdv A outer s H E hr => (dss_cons (ds_setNew' (ps_set (i := 2) sc_run_steps.nd rfl (Or.inl rfl) (dn_lstOf rfl T.no_list (da_cons (de_var (pv 1)) da_nil)))) (dss_cons (ds_setNew' (ps_set (i := 3) sc_run_steps.nd rfl (Or.inl rfl) (dn_lst da_nil))) (dss_cons (ds_for PassesOwn.never rfl (di_val (de_var (pv 0))) (dg_name (pg_name (i := 4) sc_run_steps.nd rfl (Or.inl rfl))) (dss_cons (ds_set' (ps_set (i := 5) sc_run_steps.nd rfl (Or.inl rfl) (de_call h__stepped (hr.mono (by decide)) rfl (da_cons (de_var (pv 4)) (da_cons (de_var (pv 2)) da_nil))))) (dss_one (ds_if (dt_notN (de_var (pv 5)) de_non) (dss_one (ds_expr (de_append (de_var (pv 3)) (da_cons (de_var (pv 5)) da_nil)))) dss_nil)))) (dss_one (ds_ret (de_tup (da_cons (de_tupOf rfl T.no_tuple (da_cons (de_var (pv 3)) da_nil)) (da_cons (de_tupOf rfl T.no_tuple (da_cons (de_var (pv 2)) da_nil)) da_nil))))))))) ?_
  intro ds M Q hn h
  obtain ⟨ss, d, row, rfl, hd, ok, hl, q⟩ := h
  have hz := sizeLine_eq
  have e0 : seqOf M d = some (row.map .int) := by rcases hd with e | e <;> (subst e; rfl)
  simp [wSetNew, wFor, e0]
  intro p hp p2 hp2
  have hne : p2 ≠ p := fun z => by
    have h' : updM M p _ p2 = none := hp2
    rw [z, updM_same] at h'
    cases h'
  have hM2 : M p2 = none := by
    have h' : updM M p _ p2 = none := hp2
    rw [updM_ne hne] at h'
    exact h'
  refine forL_ind (I := fun l S => ∃ rw bits e4 e5, S = ⟨[some (.tup (ss.map dStp)), some d, some (.ref p), some (.ref p2), e4, e5], updM (updM M p (.lst (rw.map .int))) p2 (.lst (bits.map .int))⟩ ∧ rw.length = row.length ∧ (∀ s ∈ l, StpOk row.length s) ∧ bits ++ (rrun l rw).1 = (rrun ss row).1 ∧ (rrun l rw).2 = (rrun ss row).2 ∧ bits.length + l.length ≤ 1000) ?_ ?_ ss _ ⟨row, [], none, none, rfl, rfl, ok, by simp, rfl, by simpa using hl⟩
  · rintro S ⟨rw, bits, e4, e5, rfl, hlen, _, h1, h2, _⟩
    simp [rrun] at h1 h2
    subst h1 h2
    simp [seqOf, lstOf, updM_same, updM_ne (Ne.symm hne)]
    refine ⟨M, ?_, q⟩
    exact (LeM.upd hp).updr hM2
  · rintro s l S ⟨rw, bits, e4, e5, rfl, hlen, hok, h1, h2, hl2⟩ N hN
    have hs := hok s List.mem_cons_self
    simp at hl2
    simp
    refine u__stepped (row := rw) (by simp [updM_same, updM_ne (Ne.symm hne)]) (by rw [hlen]; exact hs) ?_
    have fin : ∀ bits', bits' = bits ++ (rstep rw s).2.toList → ∀ e4 e5, N ⟨[some (.tup (ss.map dStp)), some d, some (.ref p), some (.ref p2), e4, e5], updM (updM M p (.lst ((rstep rw s).1.map .int))) p2 (.lst (bits'.map .int))⟩ := fun bits' e e4 e5 => by
      refine hN _ ⟨_, bits', e4, e5, rfl, by rw [rstep_len, hlen], fun s' h' => hok s' (List.mem_cons_of_mem _ h'), ?_, ?_, ?_⟩
      · rw [e, ← h1]
        simp [rrun]
      · rw [← h2]
        simp [rrun]
      · rw [e, List.length_append]
        have : (rstep rw s).2.toList.length ≤ 1 := by cases (rstep rw s).2 <;> simp
        omega
    have em : updM (updM (updM M p (.lst (rw.map .int))) p2 (.lst (bits.map .int))) p (.lst ((rstep rw s).1.map .int)) = updM (updM M p (.lst ((rstep rw s).1.map .int))) p2 (.lst (bits.map .int)) := by
      rw [updM_comm (Ne.symm hne), updM_updM]
      exact updM_comm hne
    rw [em]
    cases hb : (rstep rw s).2 with
    | none =>
      simp [dO]
      exact nxt (fin bits (by simp [hb]) _ _)
    | some i =>
      simp [dO]
      refine ⟨by omega, nxt ?_⟩
      simpa using fin (bits ++ [i]) (by simp [hb]) _ _
abbrev s_with_held : Stmt := top 23
abbrev N_with_held : List Str := ["contents", "name", "things", ".0", "one", "old"]
theorem sc_with_held : FnScope N_with_held ["contents", "name", "things"] (defScope s_with_held) := ⟨rfl, rfl, rfl, by decide +kernel, rfl, by decide +kernel, by decide +kernel⟩
theorem d_with_held (D : Def K mg "with_held" s_with_held ["contents", "name", "things"]) (T : Txt mg) (h_held_in : Has P w K mg base "held_in" 1 2 wf_held_in) : Has P w K mg base "with_held" 2 3 wf_with_held := by
  refine has_def 3 D sc_with_held rfl (fun f cdv A outer s H E hr => (dss_cons (ds_expr (de_call h_held_in (hr.mono (by decide)) rfl (da_cons (de_var (pv 0)) (da_cons (de_var (pv 1)) da_nil)))) (dss_one (ds_ret (de_tupOf rfl T.no_tuple (da_cons (de_fz (dn_comp (own := [(".0", 3), ("one", 4), ("old", 5)]) rfl sc_with_held.nd (di_val (de_var (pv 0))) (blkOk_by (N := N_with_held) (sc := defScope s_with_held) (by decide +kernel)) (fun _ _ _ _ _ => (dgc_tup (n := 2) rfl (dgsc_cons (dgc_name (pg_name (i := 4) sc_with_held.nd rfl (Or.inl rfl)) (by decide)) (dgsc_cons (dgc_name (pg_name (i := 5) sc_with_held.nd rfl (Or.inl rfl)) (by decide)) dgsc_nil)))) (fun _ _ _ _ _ => dts_nil) (fun _ _ _ _ _ => (de_tup (da_cons (de_var (pv 4)) (da_cons (de_ite (dt_eq (hr.units) (de_var (pv 4)) (de_var (pv 1))) (de_var (pv 2)) (de_var (pv 5))) da_nil)))))) da_nil)))))) ?_
  intro ds M Q hn h
  obtain ⟨c, a, ys, xs, rfl, hg, hl, q⟩ := h
  have hz := sizeLine_eq
  simp [dC]
  refine ⟨c, a, ys, rfl, hg, ?_⟩
  simp [wComp, wipeD]
  refine ⟨by omega, compL_map (fun p => .tup [.str p.1, dI (if p.1 = a then xs else p.2)]) c ?_ ?_⟩
  · rintro ⟨b, zs⟩ hb Q1 q1
    by_cases e : b = a
    · subst e
      simpa  using q1
    · simpa [e] using q1
  · refine ends ?_
    simp only [dC, setc, List.map_map] at q
    exact q
abbrev s_number_put : Stmt := top 26
abbrev N_number_put : List Str := ["command", "values"]
theorem sc_number_put : FnScope N_number_put ["command", "values"] (defScope s_number_put) := ⟨rfl, rfl, rfl, by decide +kernel, rfl, by decide +kernel, by decide +kernel⟩
theorem d_number_put (D : Def K mg "number_put" s_number_put ["command", "values"]) (T : Txt mg) (h_value_of : Has P w K mg base "value_of" 1 2 wf_value_of) : Has P w K mg base "number_put" 2 2 wf_number_put := by
  refine has_def 2 D sc_number_put rfl (fun f cdv A outer s H E hr => (dss_one (ds_ret (de_ite (dt_val (de_isi (n := .S) rfl T.no_isinstance (de_ix (hu_of hr) (de_var (pv 0)) de_int) rfl T.no_str (by decide +kernel) (by decide) (by decide))) (de_call h_value_of (hr.mono (by decide)) rfl (da_cons (de_var (pv 1)) (da_cons (de_ix (hu_of hr) (de_var (pv 0)) de_int) da_nil))) (de_ix (hu_of hr) (de_var (pv 0)) de_int))))) ?_
  intro ds M Q hn h
  obtain ⟨c, d, v, i, rfl, hd, hi, q⟩ := h
  cases c <;> simp_all [dCmd, pyIx, wf_value_of]
  · exact ends q
  · exact ⟨d, v, _, ⟨rfl, rfl⟩, hd, i, hi, ends q⟩
abbrev s_is_below : Stmt := top 31
abbrev N_is_below : List Str := ["one", "other", ".0", "_", "things", "more"]
theorem sc_is_below : FnScope N_is_below ["one", "other"] (defScope s_is_below) := ⟨rfl, rfl, rfl, by decide +kernel, rfl, by decide +kernel, by decide +kernel⟩
theorem d_is_below (D : Def K mg "is_below" s_is_below ["one", "other"]) (T : Txt mg) (h__row_below : Has P w K mg base "_row_below" 1 2 wf__row_below) : Has P w K mg base "is_below" 2 2 wf_is_below := by
  refine has_def 2 D sc_is_below rfl (fun f cdv A outer s H E hr => (dss_one (ds_ret (de_all rfl rfl T.no_all (da_cons (de_fz (dn_comp (own := [(".0", 2), ("_", 3), ("things", 4), ("more", 5)]) rfl sc_is_below.nd (di_zip rfl T.no_zip (de_var (pv 0)) (de_var (pv 1))) (blkOk_by (N := N_is_below) (sc := defScope s_is_below) (by decide +kernel)) (fun _ _ _ _ _ => (dgc_tup (n := 2) rfl (dgsc_cons (dgc_tup (n := 2) rfl (dgsc_cons (dgc_name (pg_name (i := 3) sc_is_below.nd rfl (Or.inl rfl)) (by decide)) (dgsc_cons (dgc_name (pg_name (i := 4) sc_is_below.nd rfl (Or.inl rfl)) (by decide)) dgsc_nil))) (dgsc_cons (dgc_tup (n := 2) rfl (dgsc_cons (dgc_name (pg_name (i := 3) sc_is_below.nd rfl (Or.inl rfl)) (by decide)) (dgsc_cons (dgc_name (pg_name (i := 5) sc_is_below.nd rfl (Or.inl rfl)) (by decide)) dgsc_nil))) dgsc_nil)))) (fun _ _ _ _ _ => dts_nil) (fun _ _ _ _ _ => (de_call h__row_below (hr.mono (by decide)) rfl (da_cons (de_var (pv 4)) (da_cons (de_var (pv 5)) da_nil)))))) da_nil))))) ?_
  intro ds M Q hn h
  obtain ⟨c, d, n, m, rfl, hc, hn1, hd, hm, q⟩ := h
  have hz := sizeLine_eq
  have hl := hc.ln
  simp [dC, wComp, wipeD, pairsD_map]
  refine ⟨by omega, compL_map (fun p => .bl (belowL p.1.2 p.2.2)) (c.zip d) (fun p hp Q1 q1 => ?_) ⟨(c.zip d).map fun p => belowL p.1.2 p.2.2, by simp, ends (by simpa [List.all_map, Function.comp_def, below] using q)⟩⟩
  simp
  refine u__row_below ?_ q1
  have h1 : p.1 ∈ c := (List.of_mem_zip hp).1
  have h2 : p.1.2.length ≤ tot c := le_tot h1
  have := hc.sm
  omega
abbrev s_told_below : Stmt := top 33
abbrev N_told_below : List Str := ["one", "other", ".0", "first", "second"]
theorem sc_told_below : FnScope N_told_below ["one", "other"] (defScope s_told_below) := ⟨rfl, rfl, rfl, by decide +kernel, rfl, by decide +kernel, by decide +kernel⟩
theorem d_told_below (D : Def K mg "told_below" s_told_below ["one", "other"]) (T : Txt mg) (h_at_most : Has P w K mg base "at_most" 1 2 wf_at_most) : Has P w K mg base "told_below" 2 2 wf_told_below := by
  refine has_def 2 D sc_told_below rfl (fun f cdv A outer s H E hr => (dss_one (ds_ret (de_and (de_eq (hr.units) (de_len rfl T.no_len (da_cons (de_var (pv 0)) da_nil)) (de_len rfl T.no_len (da_cons (de_var (pv 1)) da_nil))) (de_one (de_all rfl rfl T.no_all (da_cons (de_fz (dn_comp (own := [(".0", 2), ("first", 3), ("second", 4)]) rfl sc_told_below.nd (di_zip rfl T.no_zip (de_var (pv 0)) (de_var (pv 1))) (blkOk_by (N := N_told_below) (sc := defScope s_told_below) (by decide +kernel)) (fun _ _ _ _ _ => (dgc_tup (n := 2) rfl (dgsc_cons (dgc_name (pg_name (i := 3) sc_told_below.nd rfl (Or.inl rfl)) (by decide)) (dgsc_cons (dgc_name (pg_name (i := 4) sc_told_below.nd rfl (Or.inl rfl)) (by decide)) dgsc_nil)))) (fun _ _ _ _ _ => dts_nil) (fun _ _ _ _ _ => (de_call h_at_most (hr.mono (by decide)) rfl (da_cons (de_var (pv 3)) (da_cons (de_var (pv 4)) da_nil)))))) da_nil))))))) ?_
  intro ds M Q hn h
  obtain ⟨s, t, rfl, hl, q⟩ := h
  have hz := sizeLine_eq
  simp [dT]
  by_cases h : s.length = t.length
  · simp [h, wComp, wipeD, pairsD_map]
    refine ⟨by omega, compL_map (fun p => .bl (atMost p.1 p.2)) (s.zip t) (fun p hp Q1 q1 => ?_) ⟨(s.zip t).map fun p => atMost p.1 p.2, by simp, ends ?_⟩⟩
    · simp
      exact u_at_most q1
    · simpa [List.all_map, Function.comp_def, toldBelow, h] using q
  · rw [if_neg (by omega)]
    refine ends ?_
    simpa [toldBelow, h] using q
abbrev s_lower_contents : Stmt := top 35
abbrev N_lower_contents : List Str := ["one", "other"]
theorem sc_lower_contents : FnScope N_lower_contents ["one", "other"] (defScope s_lower_contents) := ⟨rfl, rfl, rfl, by decide +kernel, rfl, by decide +kernel, by decide +kernel⟩
theorem d_lower_contents (D : Def K mg "lower_contents" s_lower_contents ["one", "other"]) (T : Txt mg) (h__mixed : Has P w K mg base "_mixed" 1 3 wf__mixed) : Has P w K mg base "lower_contents" 2 2 wf_lower_contents := by
  refine has_def 2 D sc_lower_contents rfl (fun f cdv A outer s H E hr => (dss_one (ds_ret (de_call h__mixed (hr.mono (by decide)) rfl (da_cons (de_var (pv 0)) (da_cons (de_var (pv 1)) (da_cons de_bl da_nil))))))) ?_
  intro ds M Q hn h
  obtain ⟨c, d, rfl, hc, hd, q⟩ := h
  simp
  exact ⟨c, d, true, rfl, hc, hd, ends q⟩
abbrev s_upper_contents : Stmt := top 36
abbrev N_upper_contents : List Str := ["one", "other"]
theorem sc_upper_contents : FnScope N_upper_contents ["one", "other"] (defScope s_upper_contents) := ⟨rfl, rfl, rfl, by decide +kernel, rfl, by decide +kernel, by decide +kernel⟩
theorem d_upper_contents (D : Def K mg "upper_contents" s_upper_contents ["one", "other"]) (T : Txt mg) (h__mixed : Has P w K mg base "_mixed" 1 3 wf__mixed) : Has P w K mg base "upper_contents" 2 2 wf_upper_contents := by
  refine has_def 2 D sc_upper_contents rfl (fun f cdv A outer s H E hr => (dss_one (ds_ret (de_call h__mixed (hr.mono (by decide)) rfl (da_cons (de_var (pv 0)) (da_cons (de_var (pv 1)) (da_cons de_bl da_nil))))))) ?_
  intro ds M Q hn h
  obtain ⟨c, d, rfl, hc, hd, q⟩ := h
  simp
  exact ⟨c, d, false, rfl, hc, hd, ends q⟩
abbrev s_counts_order : Stmt := top 38
abbrev N_counts_order : List Str := ["one", "other", "limits", "limit", "_", "many", "more"]
theorem sc_counts_order : FnScope N_counts_order ["one", "other", "limits"] (defScope s_counts_order) := ⟨rfl, rfl, rfl, by decide +kernel, rfl, by decide +kernel, by decide +kernel⟩
theorem d_counts_order (D : Def K mg "counts_order" s_counts_order ["one", "other", "limits"]) (T : Txt mg) (h_counts_at : Has P w K mg base "counts_at" 1 2 wf_counts_at) : Has P w K mg base "counts_order" 2 3 wf_counts_order := by
  refine has_def 3 D sc_counts_order rfl (fun f cdv A outer s H E hr => (dss_cons (ds_for PassesOwn.never rfl (di_val (de_var (pv 2))) (dg_name (pg_name (i := 3) sc_counts_order.nd rfl (Or.inl rfl))) (dss_one (ds_for PassesOwn.never rfl (di_zip rfl T.no_zip (de_call h_counts_at (hr.mono (by decide)) rfl (da_cons (de_var (pv 0)) (da_cons (de_var (pv 3)) da_nil))) (de_call h_counts_at (hr.mono (by decide)) rfl (da_cons (de_var (pv 1)) (da_cons (de_var (pv 3)) da_nil)))) (dg_tup (n := 2) rfl (dgs_cons (dg_tup (n := 2) rfl (dgs_cons (dg_name (pg_name (i := 4) sc_counts_order.nd rfl (Or.inl rfl))) (dgs_cons (dg_name (pg_name (i := 5) sc_counts_order.nd rfl (Or.inl rfl))) dgs_nil))) (dgs_cons (dg_tup (n := 2) rfl (dgs_cons (dg_name (pg_name (i := 4) sc_counts_order.nd rfl (Or.inl rfl))) (dgs_cons (dg_name (pg_name (i := 6) sc_counts_order.nd rfl (Or.inl rfl))) dgs_nil))) dgs_nil))) (dss_one (ds_if (dt_lt (de_var (pv 5)) (de_var (pv 6))) (dss_one (ds_ret de_bl)) dss_nil))))) (dss_one (ds_ret de_bl)))) ?_
  intro ds M Q hn h
  obtain ⟨c, d, ts, rfl, hc, hd, q⟩ := h
  simp [wFor, dI]
  refine forL_ind (I := fun l S => ∃ e3 e4 e5 e6, S = ⟨[some (dC c), some (dC d), some (dI ts), e3, e4, e5, e6], M⟩ ∧ cntOrder c d ts = cntOrder c d l) ?_ ?_ ts _ ⟨none, none, none, none, rfl, rfl⟩
  · rintro S ⟨e3, e4, e5, e6, rfl, e⟩
    rw [e] at q
    exact ends q
  · rintro t l S ⟨e3, e4, e5, e6, rfl, e⟩ N hN
    simp [wFor]
    refine u_counts_at hc ?_
    simp
    refine u_counts_at hd ?_
    simp [dV, pairsD_map]
    refine forL_ind (I := fun k S => ∃ e4 e5 e6, S = ⟨[some (dC c), some (dC d), some (dI ts), some (.int t), e4, e5, e6], M⟩ ∧ (((cntC c t).zip (cntC d t)).all fun p => decide (p.2.2 ≤ p.1.2)) = k.all fun p => decide (p.2.2 ≤ p.1.2)) ?_ ?_ ((cntC c t).zip (cntC d t)) _ ⟨e4, e5, e6, rfl, rfl⟩
    · rintro S ⟨e4, e5, e6, rfl, e'⟩
      refine nxt (hN _ ⟨_, _, _, _, rfl, ?_⟩)
      rw [e]
      unfold cntOrder at *
      rw [List.all_cons, e']
      simp
    · rintro ⟨⟨a, i⟩, b, j⟩ k S ⟨e4, e5, e6, rfl, e'⟩ N' hN'
      simp
      by_cases h : i < j
      · simp [h]
        rw [e] at q
        unfold cntOrder at q
        rw [List.all_cons, e', List.all_cons] at q
        simp [Int.not_le.mpr h] at q
        exact ends q
      · simp [h]
        refine nxt (hN' _ ⟨_, _, _, rfl, ?_⟩)
        rw [e', List.all_cons]
        simp [Int.not_lt.mp h]
abbrev s__law_cut_at : Stmt := top 67
abbrev N__law_cut_at : List Str := ["recipe", "values", "limit", "numbers", "names", "lot", "small", ".0", "name", "thing", "one"]
theorem sc__law_cut_at : FnScope N__law_cut_at ["recipe", "values", "limit"] (defScope s__law_cut_at) := ⟨rfl, rfl, rfl, by decide +kernel, rfl, by decide +kernel, by decide +kernel⟩
theorem d__law_cut_at (D : Def K mg "_law_cut_at" s__law_cut_at ["recipe", "values", "limit"]) (T : Txt mg) (h__law_puts : Has P w K mg base "_law_puts" 1 1 wf__law_puts) : Has P w K mg base "_law_cut_at" 2 3 wf__law_cut_at := by
  refine has_def 3 D sc__law_cut_at rfl (fun f cdv A outer s H E hr => (dss_cons (ds_asg (de_call h__law_puts (hr.mono (by decide)) rfl (da_cons (de_var (pv 0)) da_nil)) (dg_tup (n := 2) rfl (dgs_cons (dg_name (pg_name (i := 3) sc__law_cut_at.nd rfl (Or.inl rfl))) (dgs_cons (dg_name (pg_name (i := 4) sc__law_cut_at.nd rfl (Or.inl rfl))) dgs_nil)))) (dss_cons (ds_set' (ps_set (i := 5) sc__law_cut_at.nd rfl (Or.inl rfl) (de_tupOf rfl T.no_tuple (da_cons (de_fz (dn_comp (own := [(".0", 7), ("name", 8), ("thing", 9)]) rfl sc__law_cut_at.nd (di_val (de_weak (de_var (pv 1)))) (blkOk_by (N := N__law_cut_at) (sc := defScope s__law_cut_at) (by decide +kernel)) (fun _ _ _ _ _ => (dgc_tup (n := 2) rfl (dgsc_cons (dgc_name (pg_name (i := 8) sc__law_cut_at.nd rfl (Or.inl rfl)) (by decide)) (dgsc_cons (dgc_name (pg_name (i := 9) sc__law_cut_at.nd rfl (Or.inl rfl)) (by decide)) dgsc_nil)))) (fun _ _ _ _ _ => (dts_one (dt_le (de_var (pv 9)) (de_var (pv 2))))) (fun _ _ _ _ _ => (de_var (pv 8))))) da_nil)))) (dss_cons (ds_setFz' (ds_setComp (i := 6) (own := [(".0", 7), ("one", 10)]) rfl sc__law_cut_at.nd rfl rfl (sw_true rfl rfl rfl (by decide +kernel)) (di_val (de_var (pv 3))) (blkOk_by (N := N__law_cut_at) (sc := defScope s__law_cut_at) (by decide +kernel)) (fun _ _ _ _ _ => (dgc_name (pg_name (i := 10) sc__law_cut_at.nd rfl (Or.inl rfl)) (by decide))) (fun _ _ _ _ _ => (dts_one (dt_le (de_var (pv 10)) (de_var (pv 2))))) (fun _ _ _ _ _ => (de_var (pv 10))))) (dss_one (ds_ret (de_tup (da_cons (de_tup (da_cons (de_len rfl T.no_len (da_cons (de_var (pv 6)) da_nil)) (da_cons (de_var (pv 5)) da_nil))) (da_cons (de_ite (dt_gt (de_len rfl T.no_len (da_cons (de_var (pv 6)) da_nil)) de_int) (de_ix (hu_of hr) (de_var (pv 6)) (de_sub (de_len rfl T.no_len (da_cons (de_var (pv 6)) da_nil)) de_int)) (de_neg de_int)) (da_cons (de_var (pv 5)) da_nil)))))))))) ?_
  intro ds M Q hn h
  obtain ⟨r, w0, v, t, rfl, hw, hl, hv, q⟩ := h
  have hz := sizeLine_eq
  have h1 := sset_len (puts r)
  have h2 := puts_len r
  simp
  refine u__law_puts hl ?_
  simp [hw, dV, wComp, wipeD]
  refine ⟨by omega, compL_pure (fun p => decide (p.2 ≤ t)) (fun p => .str p.1) v [] (fun p hp Q1 Q2 h1 h2 => ?_) ?_⟩
  · simp
    by_cases e : p.2 ≤ t
    · simpa [e] using h1 (by simp [e])
    · simpa [e] using h2 (by simp [e])
  refine ⟨by omega, compL_pure (fun x => decide (x ≤ t)) .int (sset (puts r)) [] (fun x hx Q1 Q2 h1 h2 => ?_) ?_⟩
  · simp
    by_cases e : x ≤ t
    · simpa [e] using h1 (by simp [e])
    · simpa [e] using h2 (by simp [e])
  rw [List.nil_append, List.nil_append]
  have e1 : (v.filter fun p => decide (p.2 ≤ t)).map (fun p => Dat.str p.1) = (lotAt v t).map .str := by simp [lotAt]
  rw [e1, show (sset (puts r)).filter (fun x => decide (x ≤ t)) = smallNs r t from rfl, List.length_map]
  unfold likeAt at q
  cases hs : smallNs r t with
  | nil =>
    rw [hs] at q
    simpa using ends q
  | cons x xs =>
    rw [if_pos (by simp)]
    have e2 : (((x :: xs).length : Nat) : Int) - 1 = ((xs.length : Nat) : Int) := by simp
    rw [e2, pyIx_nat]
    refine ⟨.int ((x :: xs).getLastD (-1)), ?_, ends (by rw [hs] at q; exact q)⟩
    rw [List.getElem?_map]
    simp [List.getLastD_eq_getLast?, List.getLast?_eq_getElem?]
abbrev s_numbers_of_all : Stmt := top 14
abbrev N_numbers_of_all : List Str := ["recipes", ".0", "recipe", "number"]
theorem sc_numbers_of_all : FnScope N_numbers_of_all ["recipes"] (defScope s_numbers_of_all) := ⟨rfl, rfl, rfl, by decide +kernel, rfl, by decide +kernel, by decide +kernel⟩
theorem d_numbers_of_all (D : Def K mg "numbers_of_all" s_numbers_of_all ["recipes"]) (T : Txt mg) (h_told_numbers : Has P w K mg base "told_numbers" 2 1 wf_told_numbers) : Has P w K mg base "numbers_of_all" 3 1 wf_numbers_of_all := by
  refine has_def 1 D sc_numbers_of_all rfl (fun f cdv A outer s H E hr => (dss_one (ds_ret (de_tupOf rfl T.no_tuple (da_cons (de_fz (dn_sorted (w := w) rfl (hu66 hr) rfl T.no_sorted (da_cons (de_new (dn_setComp2 (w := w) (own := [(".0", 1), ("recipe", 2), ("number", 3)]) (vs1 := [3]) rfl sc_numbers_of_all.nd (di_val (de_var (pv 0))) (blkOk_by (N := N_numbers_of_all) (sc := defScope s_numbers_of_all) (by decide +kernel)) (by decide) (fun _ _ _ _ _ => (dgc_name (pg_name (i := 2) sc_numbers_of_all.nd rfl (Or.inl rfl)) (by decide))) (fun _ _ _ _ _ => dts_nil) (fun _ _ _ _ _ => (di_val (de_call h_told_numbers (hr.mono (by decide)) rfl (da_cons (de_var (pv 2)) da_nil)))) (fun _ _ _ _ _ => (dgc_name (pg_name (i := 3) sc_numbers_of_all.nd rfl (Or.inl rfl)) (by decide))) (fun _ _ _ _ _ => dts_nil) (fun _ _ _ _ _ => (de_var (pv 3))))) da_nil))) da_nil))))) ?_
  intro ds M Q hn h
  obtain ⟨r, rfl, hl, q⟩ := h
  have hb : scanBound = 4096 := rfl
  have h1 := sset_len (puts r)
  have h2 := puts_len r
  simp [wSetC2, wSet2, wipeD, fSorted]
  refine u_told_numbers hl ?_
  simp [dI]
  refine setL_pure (fun _ => true) Sum.inl (sset (puts r)) [] (by simp; omega) (fun x hx Q1 Q2 h1 h2 => by simpa [wYes] using h1 rfl) fun p hp => ?_
  rw [List.filter_eq_self.mpr fun _ _ => rfl]
  refine sorted_set (R := fun ds => ∃ M0, LeM M0 _ ∧ Q (.val (.tup ds)) M0) (endsU hp ?_)
  have e := sset_sset (puts r)
  unfold sset at e q ⊢
  rw [e]
  exact q
abbrev s_done_command : Stmt := top 28
abbrev N_done_command : List Str := ["command", "contents", "values", "word", "held", "told", "other"]
theorem sc_done_command : FnScope N_done_command ["command", "contents", "values"] (defScope s_done_command) := ⟨rfl, rfl, rfl, by decide +kernel, rfl, by decide +kernel, by decide +kernel⟩
theorem d_done_command (D : Def K mg "done_command" s_done_command ["command", "contents", "values"]) (T : Txt mg) (h_held_in : Has P w K mg base "held_in" 1 2 wf_held_in) (h_least_of : Has P w K mg base "least_of" 1 1 wf_least_of) (h_number_put : Has P w K mg base "number_put" 2 2 wf_number_put) (h_poured : Has P w K mg base "poured" 1 2 wf_poured) (h_put_in : Has P w K mg base "put_in" 1 2 wf_put_in) (h_with_held : Has P w K mg base "with_held" 2 3 wf_with_held) : Has P w K mg base "done_command" 3 3 wf_done_command := by
  refine has_def 3 D sc_done_command rfl (fun f cdv A outer s H E hr => (dss_cons (ds_set' (ps_set (i := 3) sc_done_command.nd rfl (Or.inl rfl) (de_ix (hu_of hr) (de_var (pv 0)) de_int))) (dss_cons (ds_set' (ps_set (i := 4) sc_done_command.nd rfl (Or.inl rfl) (de_call h_held_in (hr.mono (by decide)) rfl (da_cons (de_var (pv 1)) (da_cons (de_ix (hu_of hr) (de_var (pv 0)) de_int) da_nil))))) (dss_cons (ds_set' (ps_set (i := 5) sc_done_command.nd rfl (Or.inl rfl) (de_tup (da_cons (de_in (hu_of hr) (de_var (pv 3)) (de_tup (da_cons de_str (da_cons de_str da_nil)))) (da_cons (de_ite (dt_in (hu_of hr) (de_var (pv 3)) (de_tup (da_cons de_str (da_cons de_str da_nil)))) (de_call h_least_of (hr.mono (by decide)) rfl (da_cons (de_var (pv 4)) da_nil)) de_non) da_nil))))) (dss_cons (ds_if (dt_eq (hr.units) (de_var (pv 3)) de_str) (dss_one (ds_set' (ps_set (i := 1) sc_done_command.nd rfl (Or.inl rfl) (de_call h_with_held (hr.mono (by decide)) rfl (da_cons (de_var (pv 1)) (da_cons (de_ix (hu_of hr) (de_var (pv 0)) de_int) (da_cons (de_call h_put_in (hr.mono (by decide)) rfl (da_cons (de_var (pv 4)) (da_cons (de_call h_number_put (hr.mono (by decide)) rfl (da_cons (de_var (pv 0)) (da_cons (de_var (pv 2)) da_nil))) da_nil))) da_nil))))))) (dss_one (ds_if (dt_in (hu_of hr) (de_var (pv 3)) (de_tup (da_cons de_str (da_cons de_str da_nil)))) (dss_one (ds_set' (ps_set (i := 1) sc_done_command.nd rfl (Or.inl rfl) (de_call h_with_held (hr.mono (by decide)) rfl (da_cons (de_var (pv 1)) (da_cons (de_ix (hu_of hr) (de_var (pv 0)) de_int) (da_cons (de_slice (de_var (pv 4)) (do_some de_int) do_none) da_nil))))))) (dss_one (ds_if (dt_w (dw_and (dt_eq (hr.units) (de_var (pv 3)) de_str) (dw_and1 (dt_gt (de_len rfl T.no_len (da_cons (de_var (pv 4)) da_nil)) de_int)))) (dss_cons (ds_set' (ps_set (i := 6) sc_done_command.nd rfl (Or.inl rfl) (de_call h_held_in (hr.mono (by decide)) rfl (da_cons (de_var (pv 1)) (da_cons (de_ix (hu_of hr) (de_var (pv 0)) de_int) da_nil))))) (dss_cons (ds_set' (ps_set (i := 1) sc_done_command.nd rfl (Or.inl rfl) (de_call h_with_held (hr.mono (by decide)) rfl (da_cons (de_var (pv 1)) (da_cons (de_ix (hu_of hr) (de_var (pv 0)) de_int) (da_cons (de_slice (de_var (pv 4)) (do_some de_int) do_none) da_nil)))))) (dss_one (ds_set' (ps_set (i := 1) sc_done_command.nd rfl (Or.inl rfl) (de_call h_with_held (hr.mono (by decide)) rfl (da_cons (de_var (pv 1)) (da_cons (de_ix (hu_of hr) (de_var (pv 0)) de_int) (da_cons (de_call h_put_in (hr.mono (by decide)) rfl (da_cons (de_var (pv 6)) (da_cons (de_ix (hu_of hr) (de_var (pv 4)) de_int) da_nil))) da_nil))))))))) (dss_one (ds_if (dt_in (hu_of hr) (de_var (pv 3)) (de_tup (da_cons de_str (da_cons de_str da_nil)))) (dss_cons (ds_set' (ps_set (i := 6) sc_done_command.nd rfl (Or.inl rfl) (de_call h_held_in (hr.mono (by decide)) rfl (da_cons (de_var (pv 1)) (da_cons (de_ix (hu_of hr) (de_var (pv 0)) de_int) da_nil))))) (dss_cons (ds_set' (ps_set (i := 1) sc_done_command.nd rfl (Or.inl rfl) (de_call h_with_held (hr.mono (by decide)) rfl (da_cons (de_var (pv 1)) (da_cons (de_ix (hu_of hr) (de_var (pv 0)) de_int) (da_cons (de_ite (dt_eq (hr.units) (de_var (pv 3)) de_str) (de_var (pv 6)) (de_tup da_nil)) da_nil)))))) (dss_one (ds_set' (ps_set (i := 1) sc_done_command.nd rfl (Or.inl rfl) (de_call h_with_held (hr.mono (by decide)) rfl (da_cons (de_var (pv 1)) (da_cons (de_ix (hu_of hr) (de_var (pv 0)) de_int) (da_cons (de_ite (dt_eq (hr.units) (de_var (pv 3)) de_str) (de_var (pv 4)) (de_call h_poured (hr.mono (by decide)) rfl (da_cons (de_var (pv 4)) (da_cons (de_var (pv 6)) da_nil)))) da_nil))))))))) dss_nil))))))) (dss_one (ds_ret (de_tup (da_cons (de_var (pv 1)) (da_cons (de_var (pv 5)) da_nil)))))))))) ?_
  intro ds M Q hn h
  obtain ⟨cm, c, d, v, n, rfl, hd, ok, hc, hn2, q⟩ := h
  have bd : ∀ {a : Str} {xs : List Int}, getc c a = some xs → xs.length ≤ 10000 := fun hx => by
    have z1 := get_le hx
    have z2 := hc.sm
    omega
  cases cm with
  | put a k =>
    obtain ⟨xs, hx⟩ := has_get ok
    have hb := bd hx
    simp [dCmd]
    refine u_held_in hx ?_
    simp
    refine ⟨.put a k, d, v, k, rfl, hd, rfl, ?_⟩
    simp
    refine u_put_in (by omega) ?_
    simp
    refine u_with_held hx hc.ln ?_
    simp
    exact ends (by simpa [Lk.step, hx, dO] using q)
  | putN a m =>
    obtain ⟨xs, hx⟩ := has_get ok.1
    obtain ⟨i, hi⟩ := ok.2
    have hb := bd hx
    simp [dCmd]
    refine u_held_in hx ?_
    simp
    refine ⟨.putN a m, d, v, i, rfl, hd, hi, ?_⟩
    simp
    refine u_put_in (by omega) ?_
    simp
    refine u_with_held hx hc.ln ?_
    simp
    exact ends (by simpa [Lk.step, hx, hi, dO] using q)
  | take a =>
    obtain ⟨xs, hx⟩ := has_get ok
    have hb := bd hx
    simp [dCmd]
    refine u_held_in hx ?_
    simp
    refine u_least_of ?_
    simp [dI]
    rw [← List.map_tail]
    refine u_with_held hx hc.ln ?_
    simp
    exact ends (by simpa [Lk.step, hx] using q)
  | peek a =>
    obtain ⟨xs, hx⟩ := has_get ok
    simp [dCmd]
    refine u_held_in hx ?_
    simp
    refine u_least_of ?_
    simp
    exact ends (by simpa [Lk.step, hx] using q)
  | drop a =>
    obtain ⟨xs, hx⟩ := has_get ok
    simp [dCmd]
    refine u_held_in hx ?_
    simp [dI]
    rw [← List.map_tail]
    refine u_with_held hx hc.ln ?_
    simp
    exact ends (by simpa [Lk.step, hx, dO] using q)
  | move a b =>
    obtain ⟨xs, hx⟩ := has_get ok.1
    obtain ⟨ys, hy⟩ := has_get ok.2.1
    have hne : b ≠ a := fun z => ok.2.2 z.symm
    have hb := bd hy
    simp [dCmd]
    refine u_held_in hx ?_
    cases xs with
    | nil =>
      simp [dI]
      exact ends (by simpa [Lk.step, hx, dO] using q)
    | cons x xs =>
      simp [dI]
      refine u_held_in hy ?_
      simp
      refine u_with_held hx hc.ln ?_
      simp
      refine u_put_in (by omega) ?_
      simp
      refine u_with_held (ys := ys) (by rw [getc_setc, if_neg hne]; exact hy) (by rw [setc_len]; exact hc.ln) ?_
      simp
      exact ends (by simpa [Lk.step, hx, hy, dO] using q)
  | pour a b =>
    obtain ⟨xs, hx⟩ := has_get ok.1
    obtain ⟨ys, hy⟩ := has_get ok.2.1
    have hne : b ≠ a := fun z => ok.2.2 z.symm
    have hb := bd hy
    have ha := bd hx
    simp [dCmd]
    refine u_held_in hx ?_
    simp
    refine u_held_in hy ?_
    simp
    refine u_with_held (xs := []) hx hc.ln ?_
    simp
    refine u_poured (by omega) ?_
    simp
    refine u_with_held (ys := ys) (by rw [getc_setc, if_neg hne]; exact hy) (by rw [setc_len]; exact hc.ln) ?_
    simp
    exact ends (by simpa [Lk.step, hx, hy, dO] using q)
  | swap a b =>
    obtain ⟨xs, hx⟩ := has_get ok.1
    obtain ⟨ys, hy⟩ := has_get ok.2.1
    have hne : b ≠ a := fun z => ok.2.2 z.symm
    simp [dCmd]
    refine u_held_in hx ?_
    simp
    refine u_held_in hy ?_
    simp
    refine u_with_held hx hc.ln ?_
    simp
    refine u_with_held (ys := ys) (by rw [getc_setc, if_neg hne]; exact hy) (by rw [setc_len]; exact hc.ln) ?_
    simp
    exact ends (by simpa [Lk.step, hx, hy, dO] using q)
abbrev s_between : Stmt := top 40
abbrev N_between : List Str := ["low", "contents", "high"]
theorem sc_between : FnScope N_between ["low", "contents", "high"] (defScope s_between) := ⟨rfl, rfl, rfl, by decide +kernel, rfl, by decide +kernel, by decide +kernel⟩
theorem d_between (D : Def K mg "between" s_between ["low", "contents", "high"]) (T : Txt mg) (h_is_below : Has P w K mg base "is_below" 2 2 wf_is_below) : Has P w K mg base "between" 3 3 wf_between := by
  refine has_def 3 D sc_between rfl (fun f cdv A outer s H E hr => (dss_one (ds_ret (de_and (de_call h_is_below (hr.mono (by decide)) rfl (da_cons (de_var (pv 0)) (da_cons (de_var (pv 1)) da_nil))) (de_one (de_call h_is_below (hr.mono (by decide)) rfl (da_cons (de_var (pv 1)) (da_cons (de_var (pv 2)) da_nil)))))))) ?_
  intro ds M Q hn h
  obtain ⟨a, b, c, rfl, h1, h2, h3, q⟩ := h
  simp
  refine u_is_below h1 (Nat.le_refl _) h2 (Nat.le_refl _) ?_
  simp
  cases e : below a b with
  | true =>
    simp
    refine u_is_below h2 (Nat.le_refl _) h3 (Nat.le_refl _) ?_
    exact ends (by simpa [e] using q)
  | false =>
    simp
    exact ends (by simpa [e] using q)
abbrev s_steps_at : Stmt := top 17
abbrev N_steps_at : List Str := ["recipes", "cut", "recipe", "names", "numbers", "places", "told", "command", "small", "other", ".0", "at", "name"]
theorem sc_steps_at : FnScope N_steps_at ["recipes", "cut", "recipe", "names"] (defScope s_steps_at) := ⟨rfl, rfl, rfl, by decide +kernel, rfl, by decide +kernel, by decide +kernel⟩
theorem d_steps_at (D : Def K mg "steps_at" s_steps_at ["recipes", "cut", "recipe", "names"]) (T : Txt mg) (h_numbers_of_all : Has P w K mg base "numbers_of_all" 3 1 wf_numbers_of_all) : Has P w K mg base "steps_at" 4 4 wf_steps_at := by
  refine has_def 4 D sc_steps_at rfl (fun f cdv A outer s H E hr => (dss_cons (ds_set' (ps_set (i := 4) sc_steps_at.nd rfl (Or.inl rfl) (de_slice (de_call h_numbers_of_all (hr.mono (by decide)) rfl (da_cons (de_var (pv 0)) da_nil)) do_none (do_some (de_ix (hu_of hr) (de_var (pv 1)) de_int))))) (dss_cons (ds_setNew' (ds_setDict (i := 5) (own := [(".0", 10), ("at", 11), ("name", 12)]) rfl sc_steps_at.nd rfl rfl (sw_dict rfl rfl rfl (by decide +kernel)) (di_enum rfl T.no_enumerate (de_var (pv 3))) (blkOk_by (N := N_steps_at) (sc := defScope s_steps_at) (by decide +kernel)) (fun _ _ _ _ _ => (dgc_tup (n := 2) rfl (dgsc_cons (dgc_name (pg_name (i := 11) sc_steps_at.nd rfl (Or.inl rfl)) (by decide)) (dgsc_cons (dgc_name (pg_name (i := 12) sc_steps_at.nd rfl (Or.inl rfl)) (by decide)) dgsc_nil)))) (fun _ _ _ _ _ => dts_nil) (fun _ _ _ _ _ => (de_var (pv 12))) (fun _ _ _ _ _ => (de_var (pv 11))))) (dss_cons (ds_setNew' (ps_set (i := 6) sc_steps_at.nd rfl (Or.inl rfl) (dn_lst da_nil))) (dss_cons (ds_for PassesOwn.never rfl (di_val (de_var (pv 2))) (dg_name (pg_name (i := 7) sc_steps_at.nd rfl (Or.inl rfl))) (dss_cons (ds_set' (ps_set (i := 8) sc_steps_at.nd rfl (Or.inl rfl) de_bl)) (dss_cons (ds_if (dt_eq (hr.units) (de_ix (hu_of hr) (de_var (pv 7)) de_int) de_str) (dss_one (ds_set' (ps_set (i := 8) sc_steps_at.nd rfl (Or.inl rfl) (de_ite (dt_val (de_isi (n := .S) rfl T.no_isinstance (de_ix (hu_of hr) (de_var (pv 7)) de_int) rfl T.no_str (by decide +kernel) (by decide) (by decide))) (de_in (hu_of hr) (de_ix (hu_of hr) (de_var (pv 7)) de_int) (de_ix (hu_of hr) (de_var (pv 1)) de_int)) (de_in (hu_of hr) (de_ix (hu_of hr) (de_var (pv 7)) de_int) (de_var (pv 4))))))) dss_nil) (dss_cons (ds_set' (ps_set (i := 9) sc_steps_at.nd rfl (Or.inl rfl) (de_ite (dt_in (hu_of hr) (de_ix (hu_of hr) (de_var (pv 7)) de_int) (de_tup (da_cons de_str (da_cons de_str (da_cons de_str da_nil))))) (de_ix (hu_of hr) (de_var (pv 5)) (de_ix (hu_of hr) (de_var (pv 7)) de_int)) de_int))) (dss_one (ds_expr (de_append (de_var (pv 6)) (da_cons (de_tup (da_cons (de_ix (hu_of hr) (de_var (pv 7)) de_int) (da_cons (de_ix (hu_of hr) (de_var (pv 5)) (de_ix (hu_of hr) (de_var (pv 7)) de_int)) (da_cons (de_var (pv 9)) (da_cons (de_var (pv 8)) da_nil))))) da_nil)))))))) (dss_one (ds_ret (de_tupOf rfl T.no_tuple (da_cons (de_var (pv 6)) da_nil))))))))) ?_
  intro ds M Q hn h
  obtain ⟨r, m, lot, ns, rfl, hnd, hln, hb, hlr, hll, q⟩ := h
  have hz := sizeLine_eq
  simp
  refine u_numbers_of_all hlr ?_
  simp [dI, wSetNew, wDictC, wipeD, enumD_strs]
  refine dictL_map (fun p => .inr p.2) (fun p => .int (p.1 : Nat)) ((List.range ns.length).zip ns) [] (by simp; omega) (fun p hp R hR => by simpa using hR) ?_ ?_
  · have e : ((List.range ns.length).zip ns).map (fun p : Nat × Str => (Sum.inr p.2 : Key)) = ns.map Sum.inr := by
      rw [show (fun p : Nat × Str => (Sum.inr p.2 : Key)) = Sum.inr ∘ Prod.snd from rfl, ← List.map_map, List.map_snd_zip (by simp)]
    simp [e]
    exact List.Pairwise.map _ (fun a b (h : a ≠ b) => fun z => h (Sum.inr.inj z)) hnd
  rw [List.nil_append]
  show ∀ p, M p = none → ∀ p1, updM M p (.dk (placesOf ns)) p1 = none → _
  intro p hp p1 hp1
  rw [show List.map (fun a => ((Sum.inr a.snd : Key), Dat.int (a.fst : Nat))) ((List.range ns.length).zip ns) = placesOf ns from rfl, ← List.map_take]
  generalize (sset (puts r)).take m = nums at q ⊢
  have hne : p1 ≠ p := fun z => by
    rw [z, updM_same] at hp1
    cases hp1
  have hM2 : M p1 = none := by
    rwa [updM_ne hne] at hp1
  have hx : ∀ {a : Str} {A : MO}, a ∈ ns → ixOf (updM (updM M p (.dk (placesOf ns))) p1 A) (.ref p) (.str a) = some (.int (ns.idxOf a : Nat)) := fun ha => (ixOf_dk (Ne.symm hne)).trans (places_get ha)
  simp [wFor, dR]
  refine forL_ind (I := fun l S => ∃ done e7 e8 e9 e10 e11 e12, S = ⟨[some (.tup [dR r]), some (.tup [.int (m : Nat), .tup (lot.map .str)]), some (dR r), some (.tup (ns.map .str)), some (.tup ((nums).map .int)), some (.ref p), some (.ref p1), e7, e8, e9, e10, e11, e12], updM (updM M p (.dk (placesOf ns))) p1 (.lst (done.map dStp))⟩ ∧ (∀ c ∈ l, BinsIn ns c) ∧ done ++ l.map (stpOf ns (smallIn (nums) lot)) = r.map (stpOf ns (smallIn (nums) lot)) ∧ done.length + l.length ≤ 1000) ?_ ?_ r _ ⟨[], none, none, none, none, none, none, rfl, hb, rfl, by simpa using hlr⟩
  · rintro S ⟨done, e7, e8, e9, e10, e11, e12, rfl, _, h1, _⟩
    simp at h1
    subst h1
    simp [seqOf, lstOf, updM_same]
    refine ⟨M, (LeM.upd hp).updr hM2, ?_⟩
    simpa using q
  · rintro c l S ⟨done, e7, e8, e9, e10, e11, e12, rfl, hbs, h1, h2⟩ N hN
    have hc := hbs c List.mem_cons_self
    simp at h2
    have fin : ∀ s, s = stpOf ns (smallIn (nums) lot) c → ∀ e7 e8 e9, N ⟨[some (.tup [dR r]), some (.tup [.int (m : Nat), .tup (lot.map .str)]), some (dR r), some (.tup (ns.map .str)), some (.tup ((nums).map .int)), some (.ref p), some (.ref p1), e7, e8, e9, e10, e11, e12], updM (updM M p (.dk (placesOf ns))) p1 (.lst ((done ++ [s]).map dStp))⟩ := fun s e e7 e8 e9 => by
      refine hN _ ⟨_, e7, e8, e9, _, _, _, rfl, fun c' h' => hbs c' (List.mem_cons_of_mem _ h'), ?_, ?_⟩
      · rw [← h1, e]
        simp
      · simp
        omega
    cases c with
    | put a k =>
      simp [dCmd, BinsIn] at hc
      by_cases hk : k ∈ nums <;>
        simp [dCmd, -e_inFlat, inFlat_int, hx hc, hk] <;> simp <;>
        exact ⟨by omega, nxt (by simpa [dStp, hk] using fin (.put (ns.idxOf a) (decide (k ∈ nums))) rfl _ _ _)⟩
    | putN a n =>
      simp [dCmd, BinsIn] at hc
      by_cases hk : n ∈ lot <;>
        simp [dCmd, -e_inFlat, inFlat_str, hx hc, hk] <;> simp <;>
        exact ⟨by omega, nxt (by simpa [dStp, hk] using fin (.put (ns.idxOf a) (decide (n ∈ lot))) rfl _ _ _)⟩
    | take a =>
      simp [BinsIn] at hc
      simp [dCmd, hx hc]
      exact ⟨by omega, nxt (by simpa [dStp] using fin (.take (ns.idxOf a)) rfl _ _ _)⟩
    | peek a =>
      simp [BinsIn] at hc
      simp [dCmd, hx hc]
      exact ⟨by omega, nxt (by simpa [dStp] using fin (.peek (ns.idxOf a)) rfl _ _ _)⟩
    | drop a =>
      simp [BinsIn] at hc
      simp [dCmd, hx hc]
      exact ⟨by omega, nxt (by simpa [dStp] using fin (.drop (ns.idxOf a)) rfl _ _ _)⟩
    | move a b =>
      simp [BinsIn] at hc
      simp [dCmd, hx hc.1, hx hc.2.1]
      exact ⟨by omega, nxt (by simpa [dStp] using fin (.move (ns.idxOf a) (ns.idxOf b)) rfl _ _ _)⟩
    | pour a b =>
      simp [BinsIn] at hc
      simp [dCmd, hx hc.1, hx hc.2.1]
      exact ⟨by omega, nxt (by simpa [dStp] using fin (.pour (ns.idxOf a) (ns.idxOf b)) rfl _ _ _)⟩
    | swap a b =>
      simp [BinsIn] at hc
      simp [dCmd, hx hc.1, hx hc.2.1]
      exact ⟨by omega, nxt (by simpa [dStp] using fin (.swap (ns.idxOf a) (ns.idxOf b)) rfl _ _ _)⟩
abbrev s_run_recipe : Stmt := top 29
abbrev N_run_recipe : List Str := ["recipe", "contents", "values", "told", "command", "tells", "thing"]
theorem sc_run_recipe : FnScope N_run_recipe ["recipe", "contents", "values"] (defScope s_run_recipe) := ⟨rfl, rfl, rfl, by decide +kernel, rfl, by decide +kernel, by decide +kernel⟩
theorem d_run_recipe (D : Def K mg "run_recipe" s_run_recipe ["recipe", "contents", "values"]) (T : Txt mg) (h_done_command : Has P w K mg base "done_command" 3 3 wf_done_command) : Has P w K mg base "run_recipe" 4 3 wf_run_recipe := by
  refine has_def 3 D sc_run_recipe rfl (fun f cdv A outer s H E hr => (dss_cons (ds_setNew' (ps_set (i := 3) sc_run_recipe.nd rfl (Or.inl rfl) (dn_lst da_nil))) (dss_cons (ds_for PassesOwn.never rfl (di_val (de_var (pv 0))) (dg_name (pg_name (i := 4) sc_run_recipe.nd rfl (Or.inl rfl))) (dss_cons (ds_asg (de_call h_done_command (hr.mono (by decide)) rfl (da_cons (de_var (pv 4)) (da_cons (de_var (pv 1)) (da_cons (de_var (pv 2)) da_nil)))) (dg_tup (n := 2) rfl (dgs_cons (dg_name (pg_name (i := 1) sc_run_recipe.nd rfl (Or.inl rfl))) (dgs_cons (dg_tup (n := 2) rfl (dgs_cons (dg_name (pg_name (i := 5) sc_run_recipe.nd rfl (Or.inl rfl))) (dgs_cons (dg_name (pg_name (i := 6) sc_run_recipe.nd rfl (Or.inl rfl))) dgs_nil))) dgs_nil)))) (dss_one (ds_if (dt_val (de_var (pv 5))) (dss_one (ds_expr (de_append (de_var (pv 3)) (da_cons (de_var (pv 6)) da_nil)))) dss_nil)))) (dss_one (ds_ret (de_tup (da_cons (de_tupOf rfl T.no_tuple (da_cons (de_var (pv 3)) da_nil)) (da_cons (de_var (pv 1)) da_nil)))))))) ?_
  intro ds M Q hn h
  obtain ⟨r, c, d, v, n, rfl, hd, ok, hc, hn2, q⟩ := h
  have hz := sizeLine_eq
  simp [dR, wFor, wSetNew]
  intro p hp
  refine forL_ind (I := fun l S => ∃ c' told e4 e5 e6, S = ⟨[some (dR r), some (dC c'), some d, some (.ref p), e4, e5, e6], updM M p (.lst (told.map dO))⟩ ∧ (∀ cm ∈ l, CmdOk v (c'.map (·.1)) cm) ∧ ContOk c' (10000 - l.length) ∧ told.length + l.length ≤ 10000 ∧ told ++ (Lk.run v l c').1 = (Lk.run v r c).1 ∧ (Lk.run v l c').2 = (Lk.run v r c).2) ?_ ?_ r _ ?_
  · rintro S ⟨c', told, e4, e5, e6, rfl, _, _, _, h1, h2⟩
    simp [Lk.run] at h1 h2
    subst h1 h2
    simp
    exact endsU hp q
  · rintro cm l S ⟨c', told, e4, e5, e6, rfl, ho, hc', hl, h1, h2⟩ N hN
    simp at hl
    obtain ⟨k1, k2⟩ := step_ok hc' (ho cm List.mem_cons_self)
    simp
    refine u_done_command hd (ho cm List.mem_cons_self) hc' (by omega) ?_
    have fin : ∀ told', told' = told ++ (if (Lk.step v c' cm).2.1 then [(Lk.step v c' cm).2.2] else []) → ∀ e4 e5 e6, N ⟨[some (dR r), some (dC (Lk.step v c' cm).1), some d, some (.ref p), e4, e5, e6], updM M p (.lst (told'.map dO))⟩ := fun told' e e4 e5 e6 => by
      refine hN _ ⟨_, told', e4, e5, e6, rfl, fun cm' h' => by rw [k2]; exact ho cm' (List.mem_cons_of_mem _ h'), ?_, ?_, ?_, ?_⟩
      · have : 10000 - (cm :: l).length + 1 = 10000 - l.length := by simp; omega
        rw [← this]
        exact k1
      · rw [e, List.length_append]
        split <;> simp <;> omega
      · rw [e, ← h1]
        simp [Lk.run]
      · rw [← h2]
        simp [Lk.run]
    cases hb : (Lk.step v c' cm).2.1 with
    | true =>
      simp
      refine ⟨by omega, nxt ?_⟩
      have z := fin (told ++ [(Lk.step v c' cm).2.2]) (by simp [hb])
      simpa using z _ _ _
    | false =>
      simp
      exact nxt (fin told (by simp [hb]) _ _ _)
  · exact ⟨c, [], none, none, none, rfl, ok, ⟨hc.nd, by have := hc.sm; omega, hc.ln⟩, by simp; omega, by simp, rfl⟩
abbrev s_cut_at : Stmt := top 42
abbrev N_cut_at : List Str := ["recipes", "values", "limit", "many", ".0", "number", "name", "thing"]
theorem sc_cut_at : FnScope N_cut_at ["recipes", "values", "limit"] (defScope s_cut_at) := ⟨rfl, rfl, rfl, by decide +kernel, rfl, by decide +kernel, by decide +kernel⟩
theorem d_cut_at (D : Def K mg "cut_at" s_cut_at ["recipes", "values", "limit"]) (T : Txt mg) (h_numbers_of_all : Has P w K mg base "numbers_of_all" 3 1 wf_numbers_of_all) : Has P w K mg base "cut_at" 4 3 wf_cut_at := by
  refine has_def 3 D sc_cut_at rfl (fun f cdv A outer s H E hr => (dss_cons (ds_set' (ps_set (i := 3) sc_cut_at.nd rfl (Or.inl rfl) (de_len rfl T.no_len (da_cons (de_fz (dn_comp (own := [(".0", 4), ("number", 5)]) rfl sc_cut_at.nd (di_val (de_call h_numbers_of_all (hr.mono (by decide)) rfl (da_cons (de_var (pv 0)) da_nil))) (blkOk_by (N := N_cut_at) (sc := defScope s_cut_at) (by decide +kernel)) (fun _ _ _ _ _ => (dgc_name (pg_name (i := 5) sc_cut_at.nd rfl (Or.inl rfl)) (by decide))) (fun _ _ _ _ _ => (dts_one (dt_le (de_var (pv 5)) (de_var (pv 2))))) (fun _ _ _ _ _ => (de_var (pv 5))))) da_nil)))) (dss_one (ds_ret (de_tup (da_cons (de_var (pv 3)) (da_cons (de_tupOf rfl T.no_tuple (da_cons (de_fz (dn_comp (own := [(".0", 4), ("name", 6), ("thing", 7)]) rfl sc_cut_at.nd (di_val (de_weak (de_var (pv 1)))) (blkOk_by (N := N_cut_at) (sc := defScope s_cut_at) (by decide +kernel)) (fun _ _ _ _ _ => (dgc_tup (n := 2) rfl (dgsc_cons (dgc_name (pg_name (i := 6) sc_cut_at.nd rfl (Or.inl rfl)) (by decide)) (dgsc_cons (dgc_name (pg_name (i := 7) sc_cut_at.nd rfl (Or.inl rfl)) (by decide)) dgsc_nil)))) (fun _ _ _ _ _ => (dts_one (dt_le (de_var (pv 7)) (de_var (pv 2))))) (fun _ _ _ _ _ => (de_var (pv 6))))) da_nil)) da_nil))))))) ?_
  intro ds M Q hn h
  obtain ⟨r, w0, v, t, rfl, hw, hl, hv, q⟩ := h
  have hz := sizeLine_eq
  have h1 := sset_len (puts r)
  have h2 := puts_len r
  simp
  refine u_numbers_of_all hl ?_
  simp [dI, wComp, wipeD]
  refine ⟨by omega, compL_pure (fun x => decide (x ≤ t)) .int (sset (puts r)) [] (fun x hx Q1 Q2 h1 h2 => ?_) ?_⟩
  · simp
    by_cases e : x ≤ t
    · simpa [e] using h1 (by simp [e])
    · simpa [e] using h2 (by simp [e])
  · simp [hw, dV]
    refine ⟨by omega, compL_pure (fun p => decide (p.2 ≤ t)) (fun p => .str p.1) v [] (fun p hp Q1 Q2 h1 h2 => ?_) (ends (by simpa using q))⟩
    simp
    by_cases e : p.2 ≤ t
    · simpa [e] using h1 (by simp [e])
    · simpa [e] using h2 (by simp [e])
abbrev s_run_counts : Stmt := top 20
abbrev N_run_counts : List Str := ["recipes", "cut", "recipe", "counts", "names", "bits", "row", ".0", "name", "_", "many"]
theorem sc_run_counts : FnScope N_run_counts ["recipes", "cut", "recipe", "counts"] (defScope s_run_counts) := ⟨rfl, rfl, rfl, by decide +kernel, rfl, by decide +kernel, by decide +kernel⟩
theorem d_run_counts (D : Def K mg "run_counts" s_run_counts ["recipes", "cut", "recipe", "counts"]) (T : Txt mg) (h_run_steps : Has P w K mg base "run_steps" 2 2 wf_run_steps) (h_steps_at : Has P w K mg base "steps_at" 4 4 wf_steps_at) : Has P w K mg base "run_counts" 5 4 wf_run_counts := by
  refine has_def 4 D sc_run_counts rfl (fun f cdv A outer s H E hr => (dss_cons (ds_set' (ps_set (i := 4) sc_run_counts.nd rfl (Or.inl rfl) (de_tupOf rfl T.no_tuple (da_cons (de_fz (dn_comp (own := [(".0", 7), ("name", 8), ("_", 9)]) rfl sc_run_counts.nd (di_val (de_weak (de_var (pv 3)))) (blkOk_by (N := N_run_counts) (sc := defScope s_run_counts) (by decide +kernel)) (fun _ _ _ _ _ => (dgc_tup (n := 2) rfl (dgsc_cons (dgc_name (pg_name (i := 8) sc_run_counts.nd rfl (Or.inl rfl)) (by decide)) (dgsc_cons (dgc_name (pg_name (i := 9) sc_run_counts.nd rfl (Or.inl rfl)) (by decide)) dgsc_nil)))) (fun _ _ _ _ _ => dts_nil) (fun _ _ _ _ _ => (de_var (pv 8))))) da_nil)))) (dss_cons (ds_asg (de_call h_run_steps (hr.mono (by decide)) rfl (da_cons (de_call h_steps_at (hr.mono (by decide)) rfl (da_cons (de_var (pv 0)) (da_cons (de_var (pv 1)) (da_cons (de_var (pv 2)) (da_cons (de_var (pv 4)) da_nil))))) (da_cons (de_fz (dn_comp (own := [(".0", 7), ("_", 9), ("many", 10)]) rfl sc_run_counts.nd (di_val (de_weak (de_var (pv 3)))) (blkOk_by (N := N_run_counts) (sc := defScope s_run_counts) (by decide +kernel)) (fun _ _ _ _ _ => (dgc_tup (n := 2) rfl (dgsc_cons (dgc_name (pg_name (i := 9) sc_run_counts.nd rfl (Or.inl rfl)) (by decide)) (dgsc_cons (dgc_name (pg_name (i := 10) sc_run_counts.nd rfl (Or.inl rfl)) (by decide)) dgsc_nil)))) (fun _ _ _ _ _ => dts_nil) (fun _ _ _ _ _ => (de_var (pv 10))))) da_nil))) (dg_tup (n := 2) rfl (dgs_cons (dg_name (pg_name (i := 5) sc_run_counts.nd rfl (Or.inl rfl))) (dgs_cons (dg_name (pg_name (i := 6) sc_run_counts.nd rfl (Or.inl rfl))) dgs_nil)))) (dss_one (ds_ret (de_tup (da_cons (de_var (pv 5)) (da_cons (de_tupZip rfl rfl T.no_tuple rfl T.no_zip (da_cons (de_var (pv 4)) (da_cons (de_var (pv 6)) da_nil))) da_nil)))))))) ?_
  intro ds M Q hn h
  obtain ⟨r, m, lot, c, d, rfl, hd, hnd, hlc, hb, hlr, hll, q⟩ := h
  have hz := sizeLine_eq
  simp [hd, dV, wComp, wipeD]
  refine ⟨by omega, compL_map (fun p => .str p.1) c (fun p hp Q1 q1 => by simpa using q1) ?_⟩
  have en : c.map (fun p => Dat.str p.1) = (c.map (·.1)).map .str := by simp
  rw [en]
  refine u_steps_at hnd (by simpa using hlc) hb hlr hll ?_
  refine ⟨by omega, compL_map (fun p => .int p.2) c (fun p hp Q1 q1 => by simpa using q1) ?_⟩
  have ei : c.map (fun p => Dat.int p.2) = (c.map (·.2)).map .int := by simp
  rw [ei]
  refine u_run_steps (Or.inl rfl) ?_ (by simpa using hlr) ?_
  · intro s hs
    obtain ⟨cm, hcm, rfl⟩ := List.mem_map.mp hs
    have := stpOf_ok (sm := smallIn ((sset (puts r)).take m) lot) (hb cm hcm)
    simpa using this
  · simp [wTupZip]
    refine ⟨_, _, ⟨rfl, rfl⟩, M, .refl _, ?_⟩
    have e : (Dat.str ∘ fun x : Str × Int => x.1) = fun p => Dat.str p.1 := rfl
    rw [e, en, pairsD_map]
    simpa [crun, dV] using q
abbrev s_keeps_order : Stmt := top 34
abbrev N_keeps_order : List Str := ["recipe", "one", "other", "values", "first", "second"]
theorem sc_keeps_order : FnScope N_keeps_order ["recipe", "one", "other", "values"] (defScope s_keeps_order) := ⟨rfl, rfl, rfl, by decide +kernel, rfl, by decide +kernel, by decide +kernel⟩
theorem d_keeps_order (D : Def K mg "keeps_order" s_keeps_order ["recipe", "one", "other", "values"]) (T : Txt mg) (h_is_below : Has P w K mg base "is_below" 2 2 wf_is_below) (h_run_recipe : Has P w K mg base "run_recipe" 4 3 wf_run_recipe) (h_told_below : Has P w K mg base "told_below" 2 2 wf_told_below) : Has P w K mg base "keeps_order" 5 4 wf_keeps_order := by
  refine has_def 4 D sc_keeps_order rfl (fun f cdv A outer s H E hr => (dss_cons (ds_set' (ps_set (i := 4) sc_keeps_order.nd rfl (Or.inl rfl) (de_call h_run_recipe (hr.mono (by decide)) rfl (da_cons (de_var (pv 0)) (da_cons (de_var (pv 1)) (da_cons (de_var (pv 3)) da_nil)))))) (dss_cons (ds_set' (ps_set (i := 5) sc_keeps_order.nd rfl (Or.inl rfl) (de_call h_run_recipe (hr.mono (by decide)) rfl (da_cons (de_var (pv 0)) (da_cons (de_var (pv 2)) (da_cons (de_var (pv 3)) da_nil)))))) (dss_one (ds_ret (de_and (de_call h_told_below (hr.mono (by decide)) rfl (da_cons (de_ix (hu_of hr) (de_var (pv 4)) de_int) (da_cons (de_ix (hu_of hr) (de_var (pv 5)) de_int) da_nil))) (de_one (de_call h_is_below (hr.mono (by decide)) rfl (da_cons (de_ix (hu_of hr) (de_var (pv 4)) de_int) (da_cons (de_ix (hu_of hr) (de_var (pv 5)) de_int) da_nil)))))))))) ?_
  intro ds M Q hn h
  obtain ⟨r, c, d, w0, v, rfl, hw, h1, h2, q⟩ := h
  obtain ⟨a1, a2, a3⟩ := run_cont h1.ok h1.cont
  obtain ⟨b1, b2, b3⟩ := run_cont h2.ok h2.cont
  have l1 := h1.len
  simp
  refine u_run_recipe hw h1.ok h1.cont (by omega) ?_
  simp
  refine u_run_recipe hw h2.ok h2.cont (by omega) ?_
  simp
  refine u_told_below (by omega) ?_
  simp
  cases e : toldBelow (Lk.run v r c).1 (Lk.run v r d).1 with
  | true =>
    simp
    refine u_is_below a1 (by omega) b1 (by omega) ?_
    exact ends (by simpa [keeps, e] using q)
  | false =>
    simp
    exact ends (by simpa [keeps, e] using q)
abbrev s_order_kept : Stmt := top 44
abbrev N_order_kept : List Str := ["recipe", "batch", "values", "one", "other"]
theorem sc_order_kept : FnScope N_order_kept ["recipe", "batch", "values"] (defScope s_order_kept) := ⟨rfl, rfl, rfl, by decide +kernel, rfl, by decide +kernel, by decide +kernel⟩
theorem d_order_kept (D : Def K mg "order_kept" s_order_kept ["recipe", "batch", "values"]) (T : Txt mg) (h_is_below : Has P w K mg base "is_below" 2 2 wf_is_below) (h_keeps_order : Has P w K mg base "keeps_order" 5 4 wf_keeps_order) : Has P w K mg base "order_kept" 6 3 wf_order_kept := by
  refine has_def 3 D sc_order_kept rfl (fun f cdv A outer s H E hr => (dss_cons (ds_for PassesOwn.never rfl (di_val (de_var (pv 1))) (dg_name (pg_name (i := 3) sc_order_kept.nd rfl (Or.inl rfl))) (dss_one (ds_for PassesOwn.never rfl (di_val (de_var (pv 1))) (dg_name (pg_name (i := 4) sc_order_kept.nd rfl (Or.inl rfl))) (dss_one (ds_if (dt_w (dw_and (dt_val (de_call h_is_below (hr.mono (by decide)) rfl (da_cons (de_var (pv 3)) (da_cons (de_var (pv 4)) da_nil)))) (dw_and1 (dt_not (dt_val (de_call h_keeps_order (hr.mono (by decide)) rfl (da_cons (de_var (pv 0)) (da_cons (de_var (pv 3)) (da_cons (de_var (pv 4)) (da_cons (de_var (pv 2)) da_nil)))))))))) (dss_one (ds_ret de_bl)) dss_nil))))) (dss_one (ds_ret de_bl)))) ?_
  intro ds M Q hn h
  obtain ⟨r, bs, w0, v, rfl, hw, ok, q⟩ := h
  simp [wFor]
  refine forL_ind (I := fun l S => ∃ e3 e4, S = ⟨[some (dR r), some (.tup (bs.map dC)), some w0, e3, e4], M⟩ ∧ (∀ c ∈ l, c ∈ bs) ∧ (bs.all fun c => bs.all fun d => !below c d || keeps v r c d) = (l.all fun c => bs.all fun d => !below c d || keeps v r c d)) ?_ ?_ bs _ ⟨none, none, rfl, fun _ h => h, rfl⟩
  · rintro S ⟨e3, e4, rfl, _, e⟩
    rw [e] at q
    exact ends q
  · rintro c l S ⟨e3, e4, rfl, hl, e⟩ N hN
    have hc := ok c (hl c List.mem_cons_self)
    simp [wFor]
    refine forL_ind (I := fun k S => ∃ e4, S = ⟨[some (dR r), some (.tup (bs.map dC)), some w0, some (dC c), e4], M⟩ ∧ (∀ d ∈ k, d ∈ bs) ∧ (bs.all fun d => !below c d || keeps v r c d) = (k.all fun d => !below c d || keeps v r c d)) ?_ ?_ bs _ ⟨e4, rfl, fun _ h => h, rfl⟩
    · rintro S ⟨e4, rfl, _, e'⟩
      refine nxt (hN _ ⟨_, _, rfl, fun d hd => hl d (List.mem_cons_of_mem _ hd), ?_⟩)
      rw [e, List.all_cons, e']
      simp
    · rintro d k S ⟨e4, rfl, hk, e'⟩ N' hN'
      have hd := ok d (hk d List.mem_cons_self)
      simp
      refine u_is_below hc.cont (by omega) hd.cont (by omega) ?_
      simp
      cases hb : below c d with
      | false =>
        simp
        refine nxt (hN' _ ⟨_, rfl, fun x hx => hk x (List.mem_cons_of_mem _ hx), ?_⟩)
        rw [e', List.all_cons, hb]
        simp
      | true =>
        simp
        refine u_keeps hw hc hd ?_
        simp
        cases hq : keeps v r c d with
        | true =>
          simp
          refine nxt (hN' _ ⟨_, rfl, fun x hx => hk x (List.mem_cons_of_mem _ hx), ?_⟩)
          rw [e', List.all_cons, hb, hq]
          simp
        | false =>
          simp
          rw [List.all_cons, hb, hq] at e'
          rw [e, List.all_cons, e'] at q
          exact ends (by simpa using q)
abbrev s_more_is_more : Stmt := top 46
abbrev N_more_is_more : List Str := ["recipe", "cut", "one", "other", "first", "second", "bits", ".0", "bit", "less", "_", "many"]
theorem sc_more_is_more : FnScope N_more_is_more ["recipe", "cut", "one", "other"] (defScope s_more_is_more) := ⟨rfl, rfl, rfl, by decide +kernel, rfl, by decide +kernel, by decide +kernel⟩
theorem d_more_is_more (D : Def K mg "more_is_more" s_more_is_more ["recipe", "cut", "one", "other"]) (T : Txt mg) (h_run_counts : Has P w K mg base "run_counts" 5 4 wf_run_counts) : Has P w K mg base "more_is_more" 6 4 wf_more_is_more := by
  refine has_def 4 D sc_more_is_more rfl (fun f cdv A outer s H E hr => (dss_cons (ds_par (i := 4) (j := 5) rfl sc_more_is_more.nd rfl rfl (by decide) rfl rfl (da_cons (de_call h_run_counts (hr.mono (by decide)) rfl (da_cons (de_tup (da_cons (de_var (pv 0)) da_nil)) (da_cons (de_var (pv 1)) (da_cons (de_var (pv 0)) (da_cons (de_var (pv 2)) da_nil))))) (da_cons (de_call h_run_counts (hr.mono (by decide)) rfl (da_cons (de_tup (da_cons (de_var (pv 0)) da_nil)) (da_cons (de_var (pv 1)) (da_cons (de_var (pv 0)) (da_cons (de_var (pv 3)) da_nil))))) da_nil)) rfl) (dss_cons (ds_set' (ps_set (i := 6) sc_more_is_more.nd rfl (Or.inl rfl) (de_all rfl rfl T.no_all (da_cons (de_fz (dn_comp (own := [(".0", 7), ("bit", 8), ("less", 9)]) rfl sc_more_is_more.nd (di_zip rfl T.no_zip (de_ix (hu_of hr) (de_var (pv 4)) de_int) (de_ix (hu_of hr) (de_var (pv 5)) de_int)) (blkOk_by (N := N_more_is_more) (sc := defScope s_more_is_more) (by decide +kernel)) (fun _ _ _ _ _ => (dgc_tup (n := 2) rfl (dgsc_cons (dgc_name (pg_name (i := 8) sc_more_is_more.nd rfl (Or.inl rfl)) (by decide)) (dgsc_cons (dgc_name (pg_name (i := 9) sc_more_is_more.nd rfl (Or.inl rfl)) (by decide)) dgsc_nil)))) (fun _ _ _ _ _ => dts_nil) (fun _ _ _ _ _ => (de_ge (de_var (pv 8)) (de_var (pv 9)))))) da_nil)))) (dss_one (ds_ret (de_and (de_var (pv 6)) (de_one (de_all rfl rfl T.no_all (da_cons (de_fz (dn_comp (own := [(".0", 7), ("_", 10), ("many", 11), ("less", 9)]) rfl sc_more_is_more.nd (di_zip rfl T.no_zip (de_ix (hu_of hr) (de_var (pv 4)) de_int) (de_ix (hu_of hr) (de_var (pv 5)) de_int)) (blkOk_by (N := N_more_is_more) (sc := defScope s_more_is_more) (by decide +kernel)) (fun _ _ _ _ _ => (dgc_tup (n := 2) rfl (dgsc_cons (dgc_tup (n := 2) rfl (dgsc_cons (dgc_name (pg_name (i := 10) sc_more_is_more.nd rfl (Or.inl rfl)) (by decide)) (dgsc_cons (dgc_name (pg_name (i := 11) sc_more_is_more.nd rfl (Or.inl rfl)) (by decide)) dgsc_nil))) (dgsc_cons (dgc_tup (n := 2) rfl (dgsc_cons (dgc_name (pg_name (i := 10) sc_more_is_more.nd rfl (Or.inl rfl)) (by decide)) (dgsc_cons (dgc_name (pg_name (i := 9) sc_more_is_more.nd rfl (Or.inl rfl)) (by decide)) dgsc_nil))) dgsc_nil)))) (fun _ _ _ _ _ => dts_nil) (fun _ _ _ _ _ => (de_ge (de_var (pv 11)) (de_var (pv 9)))))) da_nil))))))))) ?_
  intro ds M Q hn h
  obtain ⟨r, m, lot, c1, c2, d1, d2, rfl, e1, e2, n1, n2, l1, l2, b1, b2, hlr, hll, q⟩ := h
  have hz := sizeLine_eq
  simp
  refine u_run_counts e1 n1 l1 b1 hlr hll ?_
  simp
  refine u_run_counts e2 n2 l2 b2 hlr hll ?_
  have hb1 := crun_bits r (smallIn ((sset (puts r)).take m) lot) c1
  have hc1 := crun_cnt r (smallIn ((sset (puts r)).take m) lot) c1
  unfold moreIs at q
  generalize crun r (smallIn ((sset (puts r)).take m) lot) c1 = A at *
  generalize crun r (smallIn ((sset (puts r)).take m) lot) c2 = B at *
  obtain ⟨A1, A2⟩ := A
  obtain ⟨B1, B2⟩ := B
  simp at hb1 hc1 q
  simp [dI, dV]
  refine ⟨_, _, ⟨rfl, rfl⟩, _, rfl, _, rfl, ?_⟩
  simp [pairsD_map, wComp, wipeD]
  refine ⟨by omega, compL_map (fun p => .bl (decide (p.2 ≤ p.1))) (A1.zip B1) (fun p hp Q1 q1 => by simpa using q1) ?_⟩
  refine ⟨(A1.zip B1).map fun p => decide (p.2 ≤ p.1), by simp, ?_⟩
  by_cases h : false ∈ (A1.zip B1).map fun p => decide (p.2 ≤ p.1)
  · rw [if_pos h]
    have e : ((A1.zip B1).all fun p => decide (p.2 ≤ p.1)) = false := by
      rw [← Bool.not_eq_true, List.all_eq_true]
      intro z
      obtain ⟨p, hp, e⟩ := List.mem_map.mp h
      rw [z p hp] at e
      cases e
    rw [e, Bool.false_and] at q
    exact ends q
  · rw [if_neg h]
    have e : ((A1.zip B1).all fun p => decide (p.2 ≤ p.1)) = true := by
      rw [List.all_eq_true]
      intro p hp
      cases z : decide (p.2 ≤ p.1) with
      | true => rfl
      | false => exact absurd (List.mem_map.mpr ⟨p, hp, z⟩) h
    rw [e, Bool.true_and] at q
    refine ⟨by omega, compL_map (fun p => .bl (decide (p.2.2 ≤ p.1.2))) (A2.zip B2) (fun p hp Q1 q1 => by simpa using q1) ?_⟩
    refine ⟨(A2.zip B2).map fun p => decide (p.2.2 ≤ p.1.2), by simp, ends ?_⟩
    simpa [Function.comp_def] using q
end
end Law

/-! M78: the plain mathematics: slices, order. -/
namespace Lk
open PySem PySem.Spec L2
abbrev Sr (xs : List Int) : Prop := xs.Pairwise (· ≤ ·)
theorem cnt_nil (t : Int) : cnt [] t = 0 := rfl
theorem cnt_cons (x : Int) (xs : List Int) (t : Int) : cnt (x :: xs) t = (if x ≤ t then 1 else 0) + cnt xs t := by
  unfold cnt
  by_cases h : x ≤ t
  · rw [List.filter_cons_of_pos (by simpa using h), if_pos h]; simp; omega
  · rw [List.filter_cons_of_neg (by simpa using h), if_neg h]; simp
theorem cnt_append (xs ys : List Int) (t : Int) : cnt (xs ++ ys) t = cnt xs t + cnt ys t := by
  unfold cnt; rw [List.filter_append, List.length_append]; simp
theorem cnt_perm {xs ys : List Int} (h : xs.Perm ys) (t : Int) : cnt xs t = cnt ys t := by
  unfold cnt; rw [(h.filter _).length_eq]
theorem cnt_nonneg (xs : List Int) (t : Int) : 0 ≤ cnt xs t := by unfold cnt; omega
theorem cnt_le (xs : List Int) (t : Int) : cnt xs t ≤ xs.length := by
  unfold cnt
  have := List.length_filter_le (fun x => decide (x ≤ t)) xs
  omega
theorem cnt_isort (xs : List Int) (t : Int) : cnt (isort xs) t = cnt xs t := cnt_perm (List.mergeSort_perm xs _) t
theorem cnt_zero {xs : List Int} {t : Int} (h : ∀ x ∈ xs, t < x) : cnt xs t = 0 := by
  unfold cnt
  rw [List.filter_eq_nil_iff.mpr fun x hx => by have := h x hx; simp; omega]; rfl
theorem cnt_gt : ∀ {ys : List Int} (k : Nat) (t : Int), Sr ys → ((k : Int) < cnt ys t ↔ ∃ y, ys[k]? = some y ∧ y ≤ t)
  | [], k, t, _ => by rw [cnt_nil]; simp
  | y :: ys, 0, t, h => by
    rw [cnt_cons]
    have := cnt_nonneg ys t
    by_cases e : y ≤ t
    · rw [if_pos e]
      refine ⟨fun _ => ⟨y, rfl, e⟩, fun _ => by omega⟩
    · rw [if_neg e, cnt_zero fun x hx => by have := (List.pairwise_cons.mp h).1 x hx; omega]
      refine ⟨fun z => by omega, fun ⟨x, hx, hl⟩ => ?_⟩
      cases hx
      exact (e hl).elim
  | y :: ys, k + 1, t, h => by
    rw [cnt_cons]
    have ih := cnt_gt (ys := ys) k t (List.pairwise_cons.mp h).2
    by_cases e : y ≤ t
    · rw [if_pos e]
      simp only [List.getElem?_cons_succ]
      rw [← ih]; omega
    · rw [if_neg e, cnt_zero fun x hx => by have := (List.pairwise_cons.mp h).1 x hx; omega]
      simp only [List.getElem?_cons_succ]
      constructor
      · intro z; omega
      · rintro ⟨x, hx, hl⟩
        have := (List.pairwise_cons.mp h).1 x (List.mem_of_getElem? hx)
        omega
theorem belowL_iff' {xs ys : List Int} : belowL xs ys = true ↔ ∀ (k : Nat) (y : Int), ys[k]? = some y → ∃ x : Int, xs[k]? = some x ∧ x ≤ y := by
  unfold belowL
  rw [Bool.and_eq_true, decide_eq_true_eq, List.all_eq_true]
  constructor
  · rintro ⟨hl, h⟩ k y hy
    have hk := (List.getElem?_eq_some_iff.mp hy).1
    have hk2 : k < xs.length := by omega
    refine ⟨xs[k], List.getElem?_eq_getElem hk2, ?_⟩
    have hz : k < (xs.zip ys).length := by simp; omega
    have z := h _ (List.getElem_mem hz)
    obtain ⟨_, e⟩ := List.getElem?_eq_some_iff.mp hy
    simpa [e] using z
  · intro h
    have hl : ys.length ≤ xs.length := by
      by_cases e : ys.length = 0
      · omega
      · have hk : ys.length - 1 < ys.length := by omega
        obtain ⟨x, hx, _⟩ := h (ys.length - 1) _ (List.getElem?_eq_getElem hk)
        have := (List.getElem?_eq_some_iff.mp hx).1
        omega
    refine ⟨hl, fun p hp => ?_⟩
    obtain ⟨k, hk, rfl⟩ := List.mem_iff_getElem.mp hp
    have h2 : k < ys.length := by simp at hk; omega
    obtain ⟨x, hx, hle⟩ := h k _ (List.getElem?_eq_getElem h2)
    obtain ⟨_, e⟩ := List.getElem?_eq_some_iff.mp hx
    simpa [e] using hle
theorem belowL_cnt {xs ys : List Int} (hx : Sr xs) (hy : Sr ys) (h : belowL xs ys = true) (t : Int) : cnt ys t ≤ cnt xs t := by
  rw [belowL_iff'] at h
  have h0 := cnt_nonneg xs t
  obtain ⟨k, hk⟩ := Int.eq_ofNat_of_zero_le h0
  refine Int.not_lt.mp fun z => ?_
  rw [hk] at z
  obtain ⟨y, e1, e2⟩ := (cnt_gt k t hy).mp z
  obtain ⟨x, e3, e4⟩ := h k y e1
  have := (cnt_gt k t hx).mpr ⟨x, e3, by omega⟩
  omega
theorem cnt_belowL {xs ys : List Int} (hx : Sr xs) (hy : Sr ys) (h : ∀ t ∈ ys, cnt ys t ≤ cnt xs t) : belowL xs ys = true := by
  rw [belowL_iff']
  intro k y e
  have h1 := (cnt_gt k y hy).mpr ⟨y, e, Int.le_refl _⟩
  have h2 := h y (List.mem_of_getElem? e)
  exact (cnt_gt k y hx).mp (by omega)
theorem belowL_iff {xs ys : List Int} (hx : Sr xs) (hy : Sr ys) : belowL xs ys = true ↔ ∀ t, cnt ys t ≤ cnt xs t :=
  ⟨belowL_cnt hx hy, fun h => cnt_belowL hx hy fun t _ => h t⟩
/-! ### contents -/
def SrC (c : Cont) : Prop := ∀ p ∈ c, Sr p.2
abbrev nms {α : Type} (c : List (Str × α)) : List Str := c.map (·.1)
theorem below_iff {c d : Cont} (hc : SrC c) (hd : SrC d) : below c d = true ↔ ∀ t, ((cntC c t).zip (cntC d t)).all (fun p => decide (p.2.2 ≤ p.1.2)) = true := by
  unfold below cntC
  rw [List.all_eq_true]
  constructor
  · intro h t
    rw [List.all_eq_true]
    intro p hp
    rw [List.zip_map, List.mem_map] at hp
    obtain ⟨q, hq, rfl⟩ := hp
    have h1 := List.of_mem_zip hq
    simpa using belowL_cnt (hc _ h1.1) (hd _ h1.2) (h q hq) t
  · intro h p hp
    have h1 := List.of_mem_zip hp
    refine cnt_belowL (hc _ h1.1) (hd _ h1.2) fun t _ => ?_
    have z := h t
    rw [List.all_eq_true] at z
    have := z _ (by rw [List.zip_map]; exact List.mem_map_of_mem hp)
    simpa using this
theorem cntOrder_eq {c d : Cont} (hc : SrC c) (hd : SrC d) {ts : List Int} (h : ∀ p ∈ d, ∀ x ∈ p.2, x ∈ ts) : cntOrder c d ts = below c d := by
  rw [Bool.eq_iff_iff]
  unfold cntOrder
  rw [List.all_eq_true]
  constructor
  · intro z
    unfold below
    rw [List.all_eq_true]
    intro p hp
    have h1 := List.of_mem_zip hp
    refine cnt_belowL (hc _ h1.1) (hd _ h1.2) fun t ht => ?_
    have y := z t (h _ h1.2 t ht)
    rw [List.all_eq_true] at y
    have := y _ (by unfold cntC; rw [List.zip_map]; exact List.mem_map_of_mem hp)
    simpa using this
  · intro z t _
    exact (below_iff hc hd).mp z t
/-! ### sorted lists -/
theorem sr_eq {xs ys : List Int} (hx : Sr xs) (hy : Sr ys) (h : xs.Perm ys) : xs = ys :=
  List.Perm.eq_of_pairwise (le := fun a b : Int => a ≤ b) (fun a b _ _ h1 h2 => by omega) hx hy h
theorem sIns_perm (xs : List Int) (k : Int) : (sIns xs k).Perm (xs ++ [k]) := by
  unfold sIns
  refine List.perm_middle.trans ?_
  rw [List.takeWhile_append_dropWhile]
  exact (List.perm_append_singleton k xs).symm
theorem sIns_sr {xs : List Int} {k : Int} (h : Sr xs) : Sr (sIns xs k) := by
  induction xs with
  | nil => simp [sIns]
  | cons x xs ih =>
    obtain ⟨h1, h2⟩ := List.pairwise_cons.mp h
    by_cases e : x ≤ k
    · have e2 : sIns (x :: xs) k = x :: sIns xs k := by simp [sIns, e]
      rw [e2]
      refine List.pairwise_cons.mpr ⟨fun y hy => ?_, ih h2⟩
      rcases List.mem_append.mp ((sIns_perm xs k).mem_iff.mp hy) with z | z
      · exact h1 y z
      · rw [List.mem_singleton.mp z]; exact e
    · have e2 : sIns (x :: xs) k = k :: x :: xs := by simp [sIns, e]
      rw [e2]
      refine List.pairwise_cons.mpr ⟨fun y hy => ?_, h⟩
      rcases List.mem_cons.mp hy with z | z
      · omega
      · have := h1 y z; omega
theorem sIns_isort {xs : List Int} {k : Int} (h : Sr xs) : isort (xs ++ [k]) = sIns xs k :=
  sr_eq (isort_sorted _) (sIns_sr h) ((List.mergeSort_perm _ _).trans (sIns_perm xs k).symm)
theorem cnt_sIns (xs : List Int) (k t : Int) : cnt (sIns xs k) t = cnt xs t + if k ≤ t then 1 else 0 := by
  rw [cnt_perm (sIns_perm xs k), cnt_append, cnt_cons, cnt_nil]; omega
theorem cnt_head {xs : List Int} (h : Sr xs) (t : Int) : (0 < cnt xs t) ↔ ∃ x, xs.head? = some x ∧ x ≤ t := by
  have z := cnt_gt (ys := xs) 0 t h
  rw [List.head?_eq_getElem?]
  simpa using z
theorem cnt_tail {xs : List Int} (h : Sr xs) (t : Int) : cnt xs.tail t = if cnt xs t - 1 > 0 then cnt xs t - 1 else 0 := by
  cases xs with
  | nil => rfl
  | cons x xs =>
    rw [cnt_cons, List.tail_cons]
    have := cnt_nonneg xs t
    by_cases e : x ≤ t
    · rw [if_pos e]; split <;> omega
    · rw [if_neg e, cnt_zero fun y hy => by have := (List.pairwise_cons.mp h).1 y hy; omega]; simp
theorem Sr.tail {xs : List Int} (h : Sr xs) : Sr xs.tail := by
  cases xs with
  | nil => exact h
  | cons x xs => exact (List.pairwise_cons.mp h).2
/-! ### counts by names -/
def getn (c : Cnt) (a : Str) : Int := (vget c a).getD 0
def setn (c : Cnt) (a : Str) (x : Int) : Cnt := c.map fun p => (p.1, if p.1 = a then x else p.2)
@[simp] theorem setn_names {c : Cnt} {a : Str} {x : Int} : nms (setn c a x) = nms c := by simp [nms, setn, Function.comp]
theorem getn_nil (a : Str) : getn [] a = 0 := rfl
theorem getn_cons (p : Str × Int) (c : Cnt) (a : Str) : getn (p :: c) a = if p.1 = a then p.2 else getn c a := by
  unfold getn vget
  by_cases e : p.1 = a <;> simp [e]
theorem getn_setn {c : Cnt} {a b : Str} {x : Int} (h : a ∈ nms c) : getn (setn c a x) b = if b = a then x else getn c b := by
  induction c with
  | nil => cases h
  | cons p c ih =>
    show getn ((p.1, if p.1 = a then x else p.2) :: setn c a x) b = _
    rw [getn_cons, getn_cons]
    by_cases e1 : p.1 = a
    · by_cases e2 : p.1 = b
      · have : b = a := e2 ▸ e1
        simp [e1, e2, this]
      · have hb : ¬ b = a := fun z => e2 (e1.trans z.symm)
        simp only [if_neg e2, if_neg hb]
        by_cases hm : a ∈ nms c
        · rw [ih hm, if_neg hb]
        · congr 1
          unfold setn
          conv => rhs; rw [← List.map_id c]
          refine List.map_congr_left fun q hq => ?_
          have : q.1 ≠ a := fun z => hm (List.mem_map.mpr ⟨q, hq, z⟩)
          simp [this]
    · have hm : a ∈ nms c := (List.mem_cons.mp h).resolve_left fun z => e1 z.symm
      by_cases e2 : p.1 = b
      · have : ¬ b = a := fun z => e1 (e2.trans z)
        simp [e1, e2, this]
      · simp only [if_neg e2]
        exact ih hm
theorem setn_self {c : Cnt} {a : Str} (nd : (nms c).Nodup) : setn c a (getn c a) = c := by
  induction c with
  | nil => rfl
  | cons p c ih =>
    obtain ⟨h1, h2⟩ := List.nodup_cons.mp nd
    show (p.1, if p.1 = a then getn (p :: c) a else p.2) :: setn c a (getn (p :: c) a) = p :: c
    rw [getn_cons]
    by_cases e : p.1 = a
    · simp only [if_pos e]
      congr 1
      unfold setn
      conv => rhs; rw [← List.map_id c]
      refine List.map_congr_left fun q hq => ?_
      have : q.1 ≠ a := fun z => h1 (List.mem_map.mpr ⟨q, hq, z.trans e.symm⟩)
      simp [this]
    · simp only [if_neg e]
      rw [ih h2]
/-- one command on counts -/
def cst (sm : Cmd → Bool) (c : Cnt) : Cmd → Cnt × Option Int
  | .put a k => (setn c a (getn c a + if sm (.put a k) then 1 else 0), none)
  | .putN a n => (setn c a (getn c a + if sm (.putN a n) then 1 else 0), none)
  | .take a => (setn c a (if getn c a - 1 > 0 then getn c a - 1 else 0), some (if 1 < getn c a then 1 else getn c a))
  | .peek a => (c, some (if 1 < getn c a then 1 else getn c a))
  | .drop a => (setn c a (if getn c a - 1 > 0 then getn c a - 1 else 0), none)
  | .move a b => (if 0 < getn c a then setn (setn c a (getn c a - 1)) b (getn c b + 1) else c, none)
  | .pour a b => (setn (setn c a 0) b (getn c b + getn c a), none)
  | .swap a b => (setn (setn c a (getn c b)) b (getn c a), none)
def crn (sm : Cmd → Bool) : List Cmd → Cnt → List Int × Cnt
  | [], c => ([], c)
  | cm :: r, c => ((cst sm c cm).2.toList ++ (crn sm r (cst sm c cm).1).1, (crn sm r (cst sm c cm).1).2)
theorem cst_names {sm : Cmd → Bool} {c : Cnt} {cm : Cmd} : nms (cst sm c cm).1 = nms c := by
  cases cm <;> simp [cst]
  split <;> simp
theorem snd_getD {c : Cnt} {a : Str} : (c.map (·.2)).getD ((nms c).idxOf a) 0 = getn c a := by
  induction c with
  | nil => simp [getn_nil]
  | cons p c ih =>
    rw [getn_cons, nms, List.map_cons, List.map_cons, List.idxOf_cons]
    by_cases e : p.1 = a
    · simp [e]
    · have : (p.1 == a) = false := by simpa using e
      rw [this, if_neg e]
      simpa using ih
theorem snd_set {c : Cnt} {a : Str} {x : Int} (nd : (nms c).Nodup) : (c.map (·.2)).set ((nms c).idxOf a) x = (setn c a x).map (·.2) := by
  induction c with
  | nil => rfl
  | cons p c ih =>
    obtain ⟨h1, h2⟩ := List.nodup_cons.mp nd
    show _ = ((p.1, if p.1 = a then x else p.2) :: setn c a x).map (·.2)
    rw [nms, List.map_cons, List.map_cons, List.map_cons, List.idxOf_cons]
    by_cases e : p.1 = a
    · have e' : (p.1 == a) = true := by simpa using e
      rw [e', if_pos e]
      simp only [cond_true, List.set_cons_zero]
      congr 1
      unfold setn
      rw [List.map_map]
      refine List.map_congr_left fun q hq => ?_
      have : q.1 ≠ a := fun z => h1 (List.mem_map.mpr ⟨q, hq, z.trans e.symm⟩)
      simp [this]
    · have e' : (p.1 == a) = false := by simpa using e
      rw [e', if_neg e]
      simp only [cond_false, List.set_cons_succ]
      rw [ih h2]
theorem rstep_eq {sm : Cmd → Bool} {c : Cnt} {cm : Cmd} (nd : (nms c).Nodup) (hb : BinsIn (nms c) cm) : rstep (c.map (·.2)) (stpOf (nms c) sm cm) = ((cst sm c cm).1.map (·.2), (cst sm c cm).2) := by
  cases cm with
  | put a k => simp only [rstep, stpOf, cst, snd_getD, snd_set nd]
  | putN a n => simp only [rstep, stpOf, cst, snd_getD, snd_set nd]
  | take a => simp only [rstep, stpOf, cst, snd_getD, snd_set nd]
  | peek a => simp only [rstep, stpOf, cst, snd_getD]
  | drop a => simp only [rstep, stpOf, cst, snd_getD, snd_set nd]
  | move a b =>
    simp only [rstep, stpOf, cst, snd_getD, snd_set nd]
    have e : nms (setn c a (getn c a - 1)) = nms c := setn_names
    have z := snd_set (c := setn c a (getn c a - 1)) (a := b) (x := getn c b + 1) (by rw [e]; exact nd)
    rw [e] at z
    rw [z]
    split <;> rfl
  | pour a b =>
    simp only [rstep, stpOf, cst, snd_getD, snd_set nd]
    have e : nms (setn c a 0) = nms c := setn_names
    have z := snd_set (c := setn c a 0) (a := b) (x := getn c b + getn c a) (by rw [e]; exact nd)
    rw [e] at z
    rw [z]
  | swap a b =>
    simp only [rstep, stpOf, cst, snd_getD, snd_set nd]
    have e : nms (setn c a (getn c b)) = nms c := setn_names
    have z := snd_set (c := setn c a (getn c b)) (a := b) (x := getn c a) (by rw [e]; exact nd)
    rw [e] at z
    rw [z]
theorem rrun_eq {sm : Cmd → Bool} : ∀ {r : List Cmd} {c : Cnt}, (nms c).Nodup → (∀ cm ∈ r, BinsIn (nms c) cm) → rrun (r.map (stpOf (nms c) sm)) (c.map (·.2)) = ((crn sm r c).1, (crn sm r c).2.map (·.2)) ∧ nms (crn sm r c).2 = nms c
  | [], c, _, _ => ⟨rfl, rfl⟩
  | cm :: r, c, nd, hb => by
    have e : nms (cst sm c cm).1 = nms c := cst_names
    obtain ⟨h1, h2⟩ := rrun_eq (sm := sm) (r := r) (c := (cst sm c cm).1) (by rw [e]; exact nd) (fun cm' h' => by rw [e]; exact hb cm' (List.mem_cons_of_mem _ h'))
    rw [e] at h1 h2
    refine ⟨?_, h2⟩
    rw [List.map_cons]
    simp only [rrun, crn, rstep_eq nd (hb cm List.mem_cons_self), h1]
theorem zip_nms (c : Cnt) : (nms c).zip (c.map (·.2)) = c := by
  induction c with
  | nil => rfl
  | cons p c ih => simp only [nms, List.map_cons, List.zip_cons_cons]; rw [show (c.map (·.1)).zip (c.map (·.2)) = c from ih]
theorem crun_eq {r : List Cmd} {sm : Cmd → Bool} {c : Cnt} (nd : (nms c).Nodup) (hb : ∀ cm ∈ r, BinsIn (nms c) cm) : crun r sm c = crn sm r c := by
  obtain ⟨h1, h2⟩ := rrun_eq (sm := sm) nd hb
  unfold crun
  rw [h1]
  have := zip_nms (crn sm r c).2
  rw [h2] at this
  show (_, (nms c).zip _) = _
  rw [this]
theorem cst_sm {sm sm' : Cmd → Bool} {c : Cnt} {cm : Cmd} (h : sm cm = sm' cm) : cst sm c cm = cst sm' c cm := by
  cases cm <;> simp only [cst] <;> rw [h]
theorem crn_sm {sm sm' : Cmd → Bool} : ∀ {r : List Cmd} {c : Cnt}, (∀ cm ∈ r, sm cm = sm' cm) → crn sm r c = crn sm' r c
  | [], c, _ => rfl
  | cm :: r, c, h => by
    simp only [crn]
    rw [cst_sm (h cm List.mem_cons_self), crn_sm fun cm' h' => h cm' (List.mem_cons_of_mem _ h')]
/-! ### slices of a run -/
def smAt (v : List (Str × Int)) (t : Int) : Cmd → Bool
  | .put _ k => decide (k ≤ t)
  | .putN _ n => decide ((vget v n).getD 0 ≤ t)
  | _ => false
def bit (t : Int) : Option Int → Int
  | some x => if x ≤ t then 1 else 0
  | none => 0
theorem getn_cntC {c : Cont} {a : Str} {t : Int} : getn (cntC c t) a = cnt ((getc c a).getD []) t := by
  induction c with
  | nil => rfl
  | cons p c ih =>
    show getn ((p.1, cnt p.2 t) :: cntC c t) a = _
    rw [getn_cons, ih]
    unfold getc
    by_cases e : p.1 = a <;> simp [e]
theorem setn_cntC {c : Cont} {a : Str} {t : Int} {xs : List Int} : setn (cntC c t) a (cnt xs t) = cntC (setc c a xs) t := by
  unfold setn cntC setc
  rw [List.map_map, List.map_map]
  refine List.map_congr_left fun p hp => ?_
  simp only [Function.comp]
  split <;> rfl
@[simp] theorem cntC_names {c : Cont} {t : Int} : nms (cntC c t) = nms c := by simp [nms, cntC, Function.comp]
theorem SrC.get {c : Cont} {a : Str} (h : SrC c) : Sr ((getc c a).getD []) := by
  unfold getc
  cases e : c.find? fun p => decide (p.1 = a) with
  | none => exact List.Pairwise.nil
  | some p => exact h p (List.mem_of_find?_eq_some e)
theorem SrC.set {c : Cont} {a : Str} {xs : List Int} (h : SrC c) (hx : Sr xs) : SrC (setc c a xs) := by
  intro p hp
  unfold setc at hp
  obtain ⟨q, hq, rfl⟩ := List.mem_map.mp hp
  dsimp only
  split
  · exact hx
  · exact h q hq
theorem step_sr {v : List (Str × Int)} {c : Cont} {cm : Cmd} (h : SrC c) : SrC (step v c cm).1 := by
  cases cm with
  | put a k => exact h.set (sIns_sr h.get)
  | putN a n => exact h.set (sIns_sr h.get)
  | take a => exact h.set h.get.tail
  | peek a => exact h
  | drop a => exact h.set h.get.tail
  | move a b =>
    simp only [step]
    have z := h.get (a := a)
    split
    · exact h
    · rename_i x xs e
      rw [e] at z
      exact (h.set (List.pairwise_cons.mp z).2).set (sIns_sr h.get)
  | pour a b => exact (h.set List.Pairwise.nil).set (isort_sorted _)
  | swap a b => exact (h.set h.get).set h.get
theorem bit_head {xs : List Int} (h : Sr xs) (t : Int) : (if 1 < cnt xs t then 1 else cnt xs t) = bit t xs.head? := by
  cases xs with
  | nil => rfl
  | cons x xs =>
    have := cnt_nonneg xs t
    rw [cnt_cons]
    show _ = if x ≤ t then (1 : Int) else 0
    by_cases e : x ≤ t
    · simp only [if_pos e]; split <;> omega
    · simp only [if_neg e]; rw [cnt_zero fun y hy => by have := (List.pairwise_cons.mp h).1 y hy; omega]; rfl
theorem cst_slice {v : List (Str × Int)} {c : Cont} {cm : Cmd} (t : Int) (nd : (nms c).Nodup) (h : SrC c) (hb : BinsIn (nms c) cm) :
    cst (smAt v t) (cntC c t) cm = (cntC (step v c cm).1 t, if (step v c cm).2.1 then some (bit t (step v c cm).2.2) else none) := by
  have hg := fun a => h.get (a := a)
  cases cm with
  | put a k =>
    simp only [cst, step, getn_cntC, smAt, decide_eq_true_eq]
    rw [← cnt_sIns, setn_cntC]; rfl
  | putN a n =>
    simp only [cst, step, getn_cntC, smAt, decide_eq_true_eq]
    rw [← cnt_sIns, setn_cntC]; rfl
  | take a =>
    simp only [cst, step, getn_cntC]
    rw [← cnt_tail (hg a), setn_cntC, bit_head (hg a)]; rfl
  | peek a =>
    simp only [cst, step, getn_cntC]
    rw [bit_head (hg a)]; rfl
  | drop a =>
    simp only [cst, step, getn_cntC]
    rw [← cnt_tail (hg a), setn_cntC]; rfl
  | move a b =>
    simp only [cst, step, getn_cntC]
    have ga := hg a
    cases e : (getc c a).getD [] with
    | nil => rw [cnt_nil]; rfl
    | cons x xs =>
      rw [e] at ga
      have := cnt_nonneg xs t
      rw [cnt_cons]
      by_cases ex : x ≤ t
      · rw [if_pos ex, if_pos (by omega)]
        have e1 : (1 : Int) + cnt xs t - 1 = cnt xs t := by omega
        have e2 : cnt ((getc c b).getD []) t + 1 = cnt (sIns ((getc c b).getD []) x) t := by rw [cnt_sIns, if_pos ex]
        rw [e1, e2, setn_cntC, setn_cntC]; rfl
      · have e0 : cnt xs t = 0 := cnt_zero fun y hy => by have := (List.pairwise_cons.mp ga).1 y hy; omega
        rw [if_neg ex, e0, if_neg (by omega)]
        have e2 : cnt (sIns ((getc c b).getD []) x) t = getn (cntC c t) b := by rw [cnt_sIns, if_neg ex, getn_cntC]; omega
        have e3 : cnt xs t = getn (cntC c t) a := by rw [getn_cntC, e, cnt_cons, if_neg ex, e0]; rfl
        have e4 : cntC (setc (setc c a xs) b (sIns ((getc c b).getD []) x)) t = cntC c t := by
          rw [← setn_cntC, ← setn_cntC, e2, e3, setn_self (by rw [cntC_names]; exact nd), setn_self (by rw [cntC_names]; exact nd)]
        rw [e4]; rfl
  | pour a b =>
    simp only [cst, step, getn_cntC]
    have e2 : cnt ((getc c b).getD []) t + cnt ((getc c a).getD []) t = cnt (isort ((getc c a).getD [] ++ (getc c b).getD [])) t := by rw [cnt_isort, cnt_append]; omega
    rw [e2, show (0 : Int) = cnt [] t from rfl, setn_cntC, setn_cntC]; rfl
  | swap a b =>
    simp only [cst, step, getn_cntC]
    rw [setn_cntC, setn_cntC]; rfl
theorem CmdOk.bins {v : List (Str × Int)} {ns : List Str} {cm : Cmd} (h : CmdOk v ns cm) : BinsIn ns cm := by
  cases cm <;> first | exact h | exact h.1
theorem step_names {v : List (Str × Int)} {c : Cont} {cm : Cmd} : nms (step v c cm).1 = nms c := by
  cases cm <;> simp [step, nms]
  split <;> simp
theorem slice {v : List (Str × Int)} (t : Int) : ∀ {r : List Cmd} {c : Cont}, (nms c).Nodup → SrC c → (∀ cm ∈ r, BinsIn (nms c) cm) →
    crn (smAt v t) r (cntC c t) = ((run v r c).1.map (bit t), cntC (run v r c).2 t) ∧ SrC (run v r c).2
  | [], c, _, h, _ => ⟨rfl, h⟩
  | cm :: r, c, nd, h, hb => by
    have e : nms (step v c cm).1 = nms c := step_names
    obtain ⟨h1, h2⟩ := slice t (r := r) (c := (step v c cm).1) (by rw [e]; exact nd) (step_sr h) (fun cm' h' => by rw [e]; exact hb cm' (List.mem_cons_of_mem _ h'))
    refine ⟨?_, h2⟩
    simp only [crn, run]
    rw [cst_slice t nd h (hb cm List.mem_cons_self)]
    dsimp only
    rw [h1]
    dsimp only
    cases (step v c cm).2.1 <;> simp
/-! ### order kept -/
def geN (c d : Cnt) : Prop := ∀ a, getn d a ≤ getn c a
theorem geN_zip : ∀ {c d : Cnt}, nms c = nms d → (nms c).Nodup → ((c.zip d).all (fun p => decide (p.2.2 ≤ p.1.2)) = true ↔ geN c d)
  | [], [], _, _ => by simp [geN, getn_nil]
  | [], _ :: _, e, _ => by simp at e
  | _ :: _, [], e, _ => by simp at e
  | p :: c, q :: d, e, nd => by
    simp only [nms, List.map_cons, List.cons.injEq] at e
    obtain ⟨n1, n2⟩ := List.nodup_cons.mp nd
    rw [List.zip_cons_cons, List.all_cons, Bool.and_eq_true, geN_zip e.2 n2, decide_eq_true_eq]
    unfold geN
    constructor
    · rintro ⟨h1, h2⟩ a
      rw [getn_cons, getn_cons, e.1]
      split
      · exact h1
      · exact h2 a
    · intro h
      refine ⟨by have := h p.1; rw [getn_cons, getn_cons, e.1] at this; simpa using this, fun a => ?_⟩
      by_cases ea : p.1 = a
      · have hz : ∀ {c : Cnt}, a ∉ nms c → getn c a = 0 := fun {c} hn => by
          induction c with
          | nil => rfl
          | cons p c ih =>
            rw [getn_cons, if_neg (fun z => hn (by simp [nms, z])), ih fun z => hn (List.mem_cons_of_mem _ z)]
        have n3 : a ∉ nms c := fun z => n1 (by show p.1 ∈ _; rw [ea]; exact z)
        have n4 : a ∉ nms d := fun z => n3 (by unfold nms; rw [e.2]; exact z)
        rw [hz n3, hz n4]
        exact Int.le_refl _
      · have := h a
        rw [getn_cons, getn_cons, if_neg ea, if_neg (e.1 ▸ ea)] at this
        exact this
theorem cst_mono {sm : Cmd → Bool} {c d : Cnt} {cm : Cmd} (e : nms c = nms d) (h : geN c d) (hb : BinsIn (nms c) cm) :
    geN (cst sm c cm).1 (cst sm d cm).1 ∧ (cst sm c cm).2.toList.length = (cst sm d cm).2.toList.length ∧ (((cst sm c cm).2.toList.zip (cst sm d cm).2.toList).all fun p => decide (p.2 ≤ p.1)) = true := by
  have in2 : ∀ {a : Str} {x : Int}, a ∈ nms c → a ∈ nms (setn c a x) := fun h => by rw [setn_names]; exact h
  cases cm with
  | put a k =>
    refine ⟨fun b => ?_, rfl, rfl⟩
    simp only [cst]
    rw [getn_setn (e ▸ hb), getn_setn hb]
    have h1 := h a; have h2 := h b
    split <;> omega
  | putN a k =>
    have hb : a ∈ nms c := hb
    refine ⟨fun b => ?_, rfl, rfl⟩
    simp only [cst]
    rw [getn_setn (e ▸ hb), getn_setn hb]
    have h1 := h a; have h2 := h b
    split <;> omega
  | take a =>
    have hb : a ∈ nms c := hb
    have h1 := h a
    refine ⟨fun b => ?_, rfl, ?_⟩
    · simp only [cst]
      rw [getn_setn (e ▸ hb), getn_setn hb]
      have h2 := h b
      repeat' split
      all_goals omega
    · simp only [cst, Option.toList, List.zip_cons_cons, List.all_cons, List.zip_nil_left, List.all_nil, Bool.and_true, decide_eq_true_eq]
      repeat' split
      all_goals omega
  | peek a =>
    have hb : a ∈ nms c := hb
    have h1 := h a
    refine ⟨h, rfl, ?_⟩
    simp only [cst, Option.toList, List.zip_cons_cons, List.all_cons, List.zip_nil_left, List.all_nil, Bool.and_true, decide_eq_true_eq]
    repeat' split
    all_goals omega
  | drop a =>
    have hb : a ∈ nms c := hb
    have h1 := h a
    refine ⟨fun b => ?_, rfl, rfl⟩
    simp only [cst]
    rw [getn_setn (e ▸ hb), getn_setn hb]
    have h2 := h b
    repeat' split
    all_goals omega
  | move a b =>
    obtain ⟨ha, hb, hne⟩ : a ∈ nms c ∧ b ∈ nms c ∧ a ≠ b := hb
    refine ⟨fun x => ?_, rfl, rfl⟩
    have h1 := h a; have h2 := h b; have h3 := h x
    simp only [cst]
    by_cases p1 : 0 < getn c a
    · by_cases p2 : 0 < getn d a
      · rw [if_pos p1, if_pos p2, getn_setn (by rw [setn_names]; exact e ▸ hb), getn_setn (e ▸ ha), getn_setn (by rw [setn_names]; exact hb), getn_setn ha]
        repeat' split
        all_goals omega
      · rw [if_pos p1, if_neg p2, getn_setn (by rw [setn_names]; exact hb), getn_setn ha]
        by_cases q1 : x = b
        · rw [if_pos q1, q1]; omega
        · rw [if_neg q1]
          by_cases q2 : x = a
          · rw [if_pos q2, q2]; omega
          · rw [if_neg q2]; exact h3
    · rw [if_neg p1, if_neg (by omega)]; exact h3
  | pour a b =>
    obtain ⟨ha, hb, hne⟩ : a ∈ nms c ∧ b ∈ nms c ∧ a ≠ b := hb
    refine ⟨fun x => ?_, rfl, rfl⟩
    have h1 := h a; have h2 := h b; have h3 := h x
    simp only [cst]
    rw [getn_setn (by rw [setn_names]; exact e ▸ hb), getn_setn (e ▸ ha), getn_setn (by rw [setn_names]; exact hb), getn_setn ha]
    repeat' split
    all_goals omega
  | swap a b =>
    obtain ⟨ha, hb, hne⟩ : a ∈ nms c ∧ b ∈ nms c ∧ a ≠ b := hb
    refine ⟨fun x => ?_, rfl, rfl⟩
    have h1 := h a; have h2 := h b; have h3 := h x
    simp only [cst]
    rw [getn_setn (by rw [setn_names]; exact e ▸ hb), getn_setn (e ▸ ha), getn_setn (by rw [setn_names]; exact hb), getn_setn ha]
    repeat' split
    all_goals omega
theorem zip_all_app {α β : Type} {p : α × β → Bool} {a1 a2 : List α} {b1 b2 : List β} (hl : a1.length = b1.length) : ((a1 ++ a2).zip (b1 ++ b2)).all p = ((a1.zip b1).all p && (a2.zip b2).all p) := by
  rw [List.zip_append hl, List.all_append]
theorem crn_mono {sm : Cmd → Bool} : ∀ {r : List Cmd} {c d : Cnt}, nms c = nms d → geN c d → (∀ cm ∈ r, BinsIn (nms c) cm) →
    geN (crn sm r c).2 (crn sm r d).2 ∧ (crn sm r c).1.length = (crn sm r d).1.length ∧ (((crn sm r c).1.zip (crn sm r d).1).all fun p => decide (p.2 ≤ p.1)) = true ∧ nms (crn sm r c).2 = nms c ∧ nms (crn sm r d).2 = nms d
  | [], c, d, e, h, _ => ⟨h, rfl, rfl, rfl, rfl⟩
  | cm :: r, c, d, e, h, hb => by
    obtain ⟨h1, h2, h3⟩ := cst_mono (sm := sm) e h (hb cm List.mem_cons_self)
    have ec : nms (cst sm c cm).1 = nms c := cst_names
    have ed : nms (cst sm d cm).1 = nms d := cst_names
    obtain ⟨k1, k2, k3, k4, k5⟩ := crn_mono (sm := sm) (r := r) (ec.trans (e.trans ed.symm)) h1 (fun cm' h' => by rw [ec]; exact hb cm' (List.mem_cons_of_mem _ h'))
    refine ⟨k1, ?_, ?_, k4.trans ec, k5.trans ed⟩
    · simp only [crn, List.length_append, h2, k2]
    · simp only [crn]
      rw [zip_all_app h2, h3, k3]; rfl
theorem moreIs_of {r : List Cmd} {sm : Cmd → Bool} {c d : Cnt} (nd : (nms c).Nodup) (e : nms c = nms d) (h : geN c d) (hb : ∀ cm ∈ r, BinsIn (nms c) cm) : moreIs r sm c d = true := by
  obtain ⟨k1, k2, k3, k4, k5⟩ := crn_mono (sm := sm) e h hb
  unfold moreIs
  rw [crun_eq nd hb, crun_eq (e ▸ nd) (by rw [← e]; exact hb), k3, (geN_zip (k4.trans (e.trans k5.symm)) (by rw [k4]; exact nd)).mpr k1]; rfl
theorem below_geN {c d : Cont} (hc : SrC c) (hd : SrC d) (e : nms c = nms d) (nd : (nms c).Nodup) : below c d = true ↔ ∀ t, geN (cntC c t) (cntC d t) := by
  rw [below_iff hc hd]
  have z := fun t => geN_zip (c := cntC c t) (d := cntC d t) (by rw [cntC_names, cntC_names]; exact e) (by rw [cntC_names]; exact nd)
  exact ⟨fun h t => (z t).mp (h t), fun h t => (z t).mpr (h t)⟩
theorem atMost_bits {a b : Option Int} (h : ∀ t, bit t b ≤ bit t a) : atMost a b = true := by
  cases b with
  | none => cases a <;> rfl
  | some j =>
    have z := h j
    cases a with
    | none => simp [bit] at z
    | some i =>
      simp only [bit, Int.le_refl, if_true] at z
      simp only [atMost, decide_eq_true_eq]
      split at z <;> omega
theorem keeps_of {v : List (Str × Int)} {r : List Cmd} {c d : Cont} (hc : SrC c) (hd : SrC d) (e : nms c = nms d) (nd : (nms c).Nodup) (hb : ∀ cm ∈ r, BinsIn (nms c) cm) (h : below c d = true) : keeps v r c d = true := by
  have hg := (below_geN hc hd e nd).mp h
  have hb2 : ∀ cm ∈ r, BinsIn (nms d) cm := e ▸ hb
  have sc := fun t => (slice (v := v) t nd hc hb).1
  have sd := fun t => (slice (v := v) t (e ▸ nd) hd hb2).1
  have src := (slice (v := v) 0 nd hc hb).2
  have srd := (slice (v := v) 0 (e ▸ nd) hd hb2).2
  have mono := fun t => crn_mono (sm := smAt v t) (r := r) (c := cntC c t) (d := cntC d t) (by rw [cntC_names, cntC_names]; exact e) (hg t) (by rw [cntC_names]; exact hb)
  have hl : (run v r c).1.length = (run v r d).1.length := by
    have := (mono 0).2.1
    rw [sc, sd] at this
    simpa using this
  have nc : nms (run v r c).2 = nms c := by
    have := (mono 0).2.2.2.1
    rw [sc] at this
    simpa using this
  have nd2 : nms (run v r d).2 = nms d := by
    have := (mono 0).2.2.2.2
    rw [sd] at this
    simpa using this
  unfold keeps toldBelow
  rw [Bool.and_eq_true, Bool.and_eq_true, decide_eq_true_eq, List.all_eq_true]
  refine ⟨⟨hl, fun p hp => ?_⟩, ?_⟩
  · obtain ⟨i, hi, rfl⟩ := List.mem_iff_getElem.mp hp
    simp only [List.length_zip] at hi
    rw [List.getElem_zip]
    refine atMost_bits fun t => ?_
    have z := (mono t).2.2.1
    rw [sc, sd, List.all_eq_true] at z
    have hz : i < (((run v r c).1.map (bit t)).zip ((run v r d).1.map (bit t))).length := by simp; omega
    have := z _ (List.getElem_mem hz)
    simpa using this
  · refine (below_geN src srd (nc.trans (e.trans nd2.symm)) (by rw [nc]; exact nd)).mpr fun t => ?_
    have := (mono t).1
    rw [sc, sd] at this
    exact this
/-! ### small puts -/
theorem take_filter : ∀ {l : List Int} {t : Int}, Sr l → l.take (l.filter fun x => decide (x ≤ t)).length = l.filter fun x => decide (x ≤ t)
  | [], _, _ => rfl
  | x :: l, t, h => by
    obtain ⟨h1, h2⟩ := List.pairwise_cons.mp h
    by_cases e : x ≤ t
    · rw [List.filter_cons_of_pos (by simpa using e), List.length_cons, List.take_succ_cons, take_filter h2]
    · have z : (x :: l).filter (fun x => decide (x ≤ t)) = [] := List.filter_eq_nil_iff.mpr fun y hy => by
        rcases List.mem_cons.mp hy with q | q
        · simp; omega
        · have := h1 y q; simp; omega
      rw [z]; rfl
theorem sset_sr (l : List Int) : Sr (sset l) := isort_sorted _
theorem smallNs_mem {r : List Cmd} {t k : Int} : k ∈ smallNs r t ↔ k ∈ puts r ∧ k ≤ t := by
  unfold smallNs
  rw [List.mem_filter, sset_mem, decide_eq_true_eq]
theorem take_small (r : List Cmd) (t : Int) : (sset (puts r)).take (smallNs r t).length = smallNs r t := take_filter (sset_sr _)
theorem last_le : ∀ {l : List Int} (d : Int), Sr l → ∀ x ∈ l, x ≤ l.getLastD d
  | [], _, _, x, h => by cases h
  | [y], d, _, x, h => by rw [List.mem_singleton.mp h]; exact Int.le_refl _
  | y :: z :: l, d, h, x, hx => by
    obtain ⟨h1, h2⟩ := List.pairwise_cons.mp h
    have ih := fun x hx => last_le (l := z :: l) d h2 x hx
    have e : (y :: z :: l).getLastD d = (z :: l).getLastD d := rfl
    rw [e]
    rcases List.mem_cons.mp hx with q | q
    · rw [q]
      have := h1 z List.mem_cons_self
      have := ih z List.mem_cons_self
      omega
    · exact ih x q
theorem last_mem : ∀ {l : List Int} (d : Int), l.getLastD d ∈ l ∨ l = []
  | [], _ => .inr rfl
  | [y], _ => .inl List.mem_cons_self
  | y :: z :: l, d => .inl (by
    have e : (y :: z :: l).getLastD d = (z :: l).getLastD d := rfl
    rw [e]
    rcases last_mem (l := z :: l) d with h | h
    · exact List.mem_cons_of_mem _ h
    · cases h)
theorem likeAt_iff {r : List Cmd} {t k : Int} (hk : k ∈ puts r) (h0 : 0 ≤ k) : k ≤ likeAt r t ↔ k ≤ t := by
  have hs : Sr (smallNs r t) := (sset_sr _).sublist List.filter_sublist
  unfold likeAt
  constructor
  · intro h
    rcases last_mem (l := smallNs r t) (-1) with z | z
    · have := (smallNs_mem.mp z).2
      omega
    · rw [z] at h
      have : k ≤ -1 := h
      omega
  · intro h
    exact last_le _ hs k (smallNs_mem.mpr ⟨hk, h⟩)
theorem vget_cons (p : Str × Int) (v : List (Str × Int)) (n : Str) : vget (p :: v) n = if p.1 = n then some p.2 else vget v n := by
  unfold vget
  by_cases e : p.1 = n <;> simp [e]
theorem vget_mem {v : List (Str × Int)} {n : Str} {i : Int} (nd : (nms v).Nodup) : vget v n = some i ↔ (n, i) ∈ v := by
  induction v with
  | nil => simp [vget]
  | cons p v ih =>
    obtain ⟨h1, h2⟩ := List.nodup_cons.mp nd
    rw [vget_cons, List.mem_cons]
    by_cases e : p.1 = n
    · rw [if_pos e, Option.some.injEq]
      constructor
      · intro z; left; rw [← z, ← e]
      · rintro (z | z)
        · rw [← z]
        · exact (h1 (List.mem_map.mpr ⟨_, z, e.symm⟩)).elim
    · rw [if_neg e, ih h2]
      constructor
      · exact .inr
      · rintro (z | z)
        · exact (e (by rw [← z])).elim
        · exact z
theorem lotAt_iff {v : List (Str × Int)} {n : Str} {i t : Int} (nd : (nms v).Nodup) (h : vget v n = some i) : n ∈ lotAt v t ↔ i ≤ t := by
  unfold lotAt
  rw [List.mem_map]
  constructor
  · rintro ⟨p, hp, e⟩
    obtain ⟨h1, h2⟩ := List.mem_filter.mp hp
    have z := (vget_mem (n := n) (i := p.2) nd).mpr (by rw [← e]; exact h1)
    rw [h] at z
    cases z
    simpa using h2
  · intro hl
    exact ⟨(n, i), List.mem_filter.mpr ⟨(vget_mem nd).mp h, by simpa using hl⟩, rfl⟩
theorem puts_mem : ∀ {r : List Cmd} {a : Str} {k : Int}, Cmd.put a k ∈ r → k ∈ puts r
  | c :: r, a, k, h => by
    rcases List.mem_cons.mp h with e | e
    · rw [← e]; exact List.mem_cons_self
    · have z := puts_mem e
      cases c <;> first | exact List.mem_cons_of_mem _ z | exact z
/-- the law's own way to tell small puts -/
def lawSm (like : Int) (lot : List Str) : Cmd → Bool
  | .put _ k => decide (k ≤ like)
  | .putN _ n => decide (n ∈ lot)
  | _ => false
theorem small_eq {v : List (Str × Int)} {r : List Cmd} {t : Int} {ns : List Str} (nd : (nms v).Nodup) (ok : ∀ cm ∈ r, CmdOk v ns cm) : ∀ cm ∈ r, smallIn ((sset (puts r)).take (smallNs r t).length) (lotAt v t) cm = smAt v t cm := fun cm hcm => by
  cases cm with
  | put a k =>
    simp only [smallIn, smAt, take_small, smallNs_mem]
    simp [puts_mem hcm]
  | putN a n =>
    obtain ⟨_, i, hi⟩ : a ∈ ns ∧ ∃ i, vget v n = some i := ok _ hcm
    simp only [smallIn, smAt, lotAt_iff nd hi, hi, Option.getD_some]
  | _ => rfl
theorem lawSm_eq {v : List (Str × Int)} {r : List Cmd} {t : Int} {ns : List Str} (nd : (nms v).Nodup) (ok : ∀ cm ∈ r, CmdOk v ns cm) (h0 : ∀ k ∈ puts r, 0 ≤ k) : ∀ cm ∈ r, lawSm (likeAt r t) (lotAt v t) cm = smAt v t cm := fun cm hcm => by
  cases cm with
  | put a k =>
    have hk := puts_mem hcm
    simp only [lawSm, smAt, likeAt_iff hk (h0 k hk)]
  | putN a n =>
    obtain ⟨_, i, hi⟩ : a ∈ ns ∧ ∃ i, vget v n = some i := ok _ hcm
    simp only [lawSm, smAt, lotAt_iff nd hi, hi, Option.getD_some]
  | _ => rfl
/-! ### lower, upper -/
theorem mixL_get {b : Bool} {xs ys : List Int} {k : Nat} {x : Int} (h : (mixL b xs ys)[k]? = some x) : (∃ a c, xs[k]? = some a ∧ ys[k]? = some c ∧ x = if b then min a c else max a c) ∨ (b = true ∧ xs[k]? = some x ∧ ys[k]? = none) ∨ (b = true ∧ xs[k]? = none ∧ ys[k]? = some x) := by
  obtain ⟨hk, e⟩ := List.getElem?_eq_some_iff.mp h
  rw [mixL_at] at e
  rw [mixL_len] at hk
  cases hx : xs[k]? with
  | some a =>
    cases hy : ys[k]? with
    | some c => rw [hx, hy] at e; exact .inl ⟨a, c, rfl, rfl, e.symm⟩
    | none =>
      rw [hx, hy] at e
      cases b with
      | true => exact .inr (.inl ⟨rfl, by rw [← e], rfl⟩)
      | false =>
        have := List.getElem?_eq_none_iff.mp hy
        simp at hk; omega
  | none =>
    have h1 := List.getElem?_eq_none_iff.mp hx
    cases b with
    | true =>
      cases hy : ys[k]? with
      | some c => rw [hx, hy] at e; exact .inr (.inr ⟨rfl, rfl, by rw [← e]⟩)
      | none => have := List.getElem?_eq_none_iff.mp hy; simp at hk; omega
    | false => simp at hk; omega
theorem mixL_some {xs ys : List Int} {k : Nat} (h : (∃ x, xs[k]? = some x) ∨ ∃ y, ys[k]? = some y) : ∃ z, (mixL true xs ys)[k]? = some z := by
  have : k < (mixL true xs ys).length := by
    rw [mixL_len, if_pos rfl]
    rcases h with ⟨x, h⟩ | ⟨x, h⟩ <;> have := (List.getElem?_eq_some_iff.mp h).1 <;> omega
  exact ⟨_, List.getElem?_eq_getElem this⟩
theorem mixL_lo1 (xs ys : List Int) : belowL (mixL true xs ys) xs = true := belowL_iff'.mpr fun k y hy => by
  obtain ⟨z, hz⟩ := mixL_some (xs := xs) (ys := ys) (.inl ⟨y, hy⟩)
  refine ⟨z, hz, ?_⟩
  rcases mixL_get hz with ⟨a, c, h1, h2, e⟩ | ⟨_, h1, _⟩ | ⟨_, h1, _⟩ <;> rw [hy] at h1 <;> cases h1
  · rw [if_pos rfl] at e; omega
  · exact Int.le_refl _
theorem mixL_lo2 (xs ys : List Int) : belowL (mixL true xs ys) ys = true := belowL_iff'.mpr fun k y hy => by
  obtain ⟨z, hz⟩ := mixL_some (xs := xs) (ys := ys) (.inr ⟨y, hy⟩)
  refine ⟨z, hz, ?_⟩
  rcases mixL_get hz with ⟨a, c, h1, h2, e⟩ | ⟨_, _, h1⟩ | ⟨_, _, h1⟩ <;> first | (rw [hy] at h2; cases h2; rw [if_pos rfl] at e; omega) | (rw [hy] at h1; cases h1; try exact Int.le_refl _)
theorem mixL_up1 (xs ys : List Int) : belowL xs (mixL false xs ys) = true := belowL_iff'.mpr fun k y hy => by
  rcases mixL_get hy with ⟨a, c, h1, h2, e⟩ | ⟨h, _⟩ | ⟨h, _⟩
  · exact ⟨a, h1, by rw [if_neg Bool.false_ne_true] at e; omega⟩
  · cases h
  · cases h
theorem mixL_up2 (xs ys : List Int) : belowL ys (mixL false xs ys) = true := belowL_iff'.mpr fun k y hy => by
  rcases mixL_get hy with ⟨a, c, h1, h2, e⟩ | ⟨h, _⟩ | ⟨h, _⟩
  · exact ⟨c, h2, by rw [if_neg Bool.false_ne_true] at e; omega⟩
  · cases h
  · cases h
theorem sr_iff {xs : List Int} : Sr xs ↔ ∀ (i j : Nat) (x y : Int), i < j → xs[i]? = some x → xs[j]? = some y → x ≤ y := by
  unfold Sr
  rw [List.pairwise_iff_getElem]
  constructor
  · intro h i j x y hij hx hy
    obtain ⟨h1, e1⟩ := List.getElem?_eq_some_iff.mp hx
    obtain ⟨h2, e2⟩ := List.getElem?_eq_some_iff.mp hy
    rw [← e1, ← e2]
    exact h i j h1 h2 hij
  · intro h i j h1 h2 hij
    exact h i j _ _ hij (List.getElem?_eq_getElem h1) (List.getElem?_eq_getElem h2)
theorem mixL_sr {b : Bool} {xs ys : List Int} (hx : Sr xs) (hy : Sr ys) : Sr (mixL b xs ys) := by
  rw [sr_iff] at hx hy ⊢
  intro i j x y hij ex ey
  have nn : ∀ {l : List Int} {a : Int}, l[i]? = none → l[j]? = some a → False := fun {l a} h1 h2 => by
    have := List.getElem?_eq_none_iff.mp h1
    have := (List.getElem?_eq_some_iff.mp h2).1
    omega
  rcases mixL_get ex with ⟨a, c, h1, h2, e⟩ | ⟨hb, h1, h2⟩ | ⟨hb, h1, h2⟩
  · rcases mixL_get ey with ⟨a', c', k1, k2, e'⟩ | ⟨hb', k1, k2⟩ | ⟨hb', k1, k2⟩
    · have z1 := hx i j _ _ hij h1 k1
      have z2 := hy i j _ _ hij h2 k2
      rw [e, e']
      cases b <;> simp <;> omega
    · have z1 := hx i j _ _ hij h1 k1
      rw [e, hb']; simp; omega
    · have z2 := hy i j _ _ hij h2 k2
      rw [e, hb']; simp; omega
  · rcases mixL_get ey with ⟨a', c', k1, k2, e'⟩ | ⟨hb', k1, k2⟩ | ⟨hb', k1, k2⟩
    · exact (nn h2 k2).elim
    · exact hx i j _ _ hij h1 k1
    · exact (nn h2 k2).elim
  · rcases mixL_get ey with ⟨a', c', k1, k2, e'⟩ | ⟨hb', k1, k2⟩ | ⟨hb', k1, k2⟩
    · exact (nn h1 k1).elim
    · exact (nn h1 k1).elim
    · exact hy i j _ _ hij h2 k2
theorem mixed_names {b : Bool} {c d : Cont} (e : c.length = d.length) : nms (mixed b c d) = nms c := by
  unfold mixed nms
  rw [List.map_map]
  have : ((fun p : Str × List Int => p.1) ∘ fun p : (Str × List Int) × Str × List Int => (p.1.1, mixL b p.1.2 p.2.2)) = (fun p : Str × List Int => p.1) ∘ Prod.fst := rfl
  rw [this, ← List.map_map, List.map_fst_zip (by omega)]
theorem mixed_sr {b : Bool} {c d : Cont} (hc : SrC c) (hd : SrC d) : SrC (mixed b c d) := fun p hp => by
  unfold mixed at hp
  obtain ⟨q, hq, rfl⟩ := List.mem_map.mp hp
  have := List.of_mem_zip hq
  exact mixL_sr (hc _ this.1) (hd _ this.2)
theorem below_of {c d : Cont} (h : ∀ (i : Nat) (p q : Str × List Int), c[i]? = some p → d[i]? = some q → belowL p.2 q.2 = true) : below c d = true := by
  unfold below
  rw [List.all_eq_true]
  intro p hp
  obtain ⟨i, hi, rfl⟩ := List.mem_iff_getElem.mp hp
  simp only [List.length_zip] at hi
  rw [List.getElem_zip]
  exact h i c[i] d[i] (List.getElem?_eq_getElem (by omega)) (List.getElem?_eq_getElem (by omega))
theorem mixed_get {b : Bool} {c d : Cont} {i : Nat} {p : Str × List Int} (h : (mixed b c d)[i]? = some p) : ∃ q s, c[i]? = some q ∧ d[i]? = some s ∧ p = (q.1, mixL b q.2 s.2) := by
  unfold mixed at h
  rw [List.getElem?_map, Option.map_eq_some_iff] at h
  obtain ⟨⟨q, s⟩, h1, h2⟩ := h
  rw [List.getElem?_zip_eq_some] at h1
  exact ⟨q, s, h1.1, h1.2, h2.symm⟩
theorem mixed_lo1 {c d : Cont} : below (mixed true c d) c = true := below_of fun i p q h1 h2 => by
  obtain ⟨q', s, h3, h4, rfl⟩ := mixed_get h1
  rw [h3] at h2; cases h2
  exact mixL_lo1 _ _
theorem mixed_lo2 {c d : Cont} : below (mixed true c d) d = true := below_of fun i p q h1 h2 => by
  obtain ⟨q', s, h3, h4, rfl⟩ := mixed_get h1
  rw [h4] at h2; cases h2
  exact mixL_lo2 _ _
theorem mixed_up1 {c d : Cont} : below c (mixed false c d) = true := below_of fun i p q h1 h2 => by
  obtain ⟨q', s, h3, h4, rfl⟩ := mixed_get h2
  rw [h3] at h1; cases h1
  exact mixL_up1 _ _
theorem mixed_up2 {c d : Cont} : below d (mixed false c d) = true := below_of fun i p q h1 h2 => by
  obtain ⟨q', s, h3, h4, rfl⟩ := mixed_get h2
  rw [h4] at h1; cases h1
  exact mixL_up2 _ _
theorem belowL_trans {a b c : List Int} (h1 : belowL a b = true) (h2 : belowL b c = true) : belowL a c = true := by
  rw [belowL_iff'] at *
  intro k z hz
  obtain ⟨y, hy, l1⟩ := h2 k z hz
  obtain ⟨x, hx, l2⟩ := h1 k y hy
  exact ⟨x, hx, by omega⟩
theorem below_get {c d : Cont} (h : below c d = true) {i : Nat} {p q : Str × List Int} (h1 : c[i]? = some p) (h2 : d[i]? = some q) : belowL p.2 q.2 = true := by
  unfold below at h
  rw [List.all_eq_true] at h
  exact h (p, q) (List.mem_iff_getElem?.mpr ⟨i, List.getElem?_zip_eq_some.mpr ⟨h1, h2⟩⟩)
theorem below_trans {a b c : Cont} (hl : b.length = c.length) (h1 : below a b = true) (h2 : below b c = true) : below a c = true := below_of fun i p q e1 e2 => by
  have hi := (List.getElem?_eq_some_iff.mp e2).1
  have hb : b[i]? = some b[i] := List.getElem?_eq_getElem (by omega)
  exact belowL_trans (below_get h1 e1 hb) (below_get h2 hb e2)
theorem belowL_refl (a : List Int) : belowL a a = true := belowL_iff'.mpr fun _ y h => ⟨y, h, Int.le_refl _⟩
theorem below_refl (c : Cont) : below c c = true := below_of fun i p q h1 h2 => by rw [h1] at h2; cases h2; exact belowL_refl _
theorem mixed_tot {b : Bool} : ∀ {c d : Cont}, tot (mixed b c d) ≤ tot c + tot d
  | [], d => by simp [mixed, tot]
  | p :: c, [] => by simp [mixed, tot]
  | p :: c, q :: d => by
    have z := mixed_tot (b := b) (c := c) (d := d)
    have e : mixed b (p :: c) (q :: d) = (p.1, mixL b p.2 q.2) :: mixed b c d := rfl
    rw [e]
    simp only [tot, List.map_cons, List.sum_cons] at z ⊢
    rw [mixL_len]
    split <;> omega
/-- a row made lower, things more -/
theorem lower_row {xs ys zs : List Int} (hy : Sr ys) (hl : xs.length = ys.length) (h : ∀ (i : Nat) (x y : Int), xs[i]? = some x → ys[i]? = some y → x ≤ y) : belowL (isort (xs ++ zs)) ys = true := by
  refine cnt_belowL (isort_sorted _) hy fun t _ => ?_
  rw [cnt_isort, cnt_append]
  have h1 := cnt_nonneg zs t
  have key : ∀ {xs ys : List Int}, xs.length = ys.length → (∀ (i : Nat) (x y : Int), xs[i]? = some x → ys[i]? = some y → x ≤ y) → cnt ys t ≤ cnt xs t := fun {xs} => by
    induction xs with
    | nil => intro ys hl _; rw [List.eq_nil_of_length_eq_zero hl.symm]; exact Int.le_refl _
    | cons x xs ih =>
      intro ys hl h
      cases ys with
      | nil => simp at hl
      | cons y ys =>
        have z := ih (ys := ys) (by simpa using hl) fun i a b ha hb => h (i + 1) a b (by simpa using ha) (by simpa using hb)
        have z0 := h 0 x y rfl rfl
        rw [cnt_cons, cnt_cons]
        split <;> split <;> omega
  have := key hl h
  omega
def opB (b : Bool) (x y : Int) : Int := if b then min x y else max x y
theorem mixL_cc (b : Bool) (x y : Int) (xs ys : List Int) : mixL b (x :: xs) (y :: ys) = opB b x y :: mixL b xs ys := by
  have e : (if b then max (x :: xs).length (y :: ys).length else min (x :: xs).length (y :: ys).length) = (if b then max xs.length ys.length else min xs.length ys.length) + 1 := by
    cases b <;> simp
  unfold mixL
  rw [e, List.range_succ_eq_map, List.map_cons, List.map_map]
  rfl
theorem mixL_n1 (xs : List Int) : mixL true xs [] = xs := by
  apply List.ext_getElem
  · simp [mixL]
  · intro i h1 h2
    rw [mixL_at, List.getElem?_eq_getElem h2]
    rfl
theorem mixL_n2 (xs : List Int) : mixL true [] xs = xs := by
  apply List.ext_getElem
  · simp [mixL]
  · intro i h1 h2
    rw [mixL_at, List.getElem?_eq_getElem h2]
    rfl
theorem mixL_t : ∀ (xs ys : List Int), mixL true xs ys = List.zipWith (opB true) xs ys ++ xs.drop (min xs.length ys.length) ++ ys.drop (min xs.length ys.length)
  | [], ys => by simp [mixL_n2]
  | x :: xs, [] => by simp [mixL_n1]
  | x :: xs, y :: ys => by
    rw [mixL_cc, mixL_t xs ys]
    have : min (x :: xs).length (y :: ys).length = min xs.length ys.length + 1 := by simp
    rw [this]
    simp
theorem mixL_f : ∀ (xs ys : List Int), mixL false xs ys = List.zipWith (opB false) xs ys
  | [], ys => by simp [mixL]
  | x :: xs, [] => by simp [mixL]
  | x :: xs, y :: ys => by rw [mixL_cc, mixL_f xs ys]; rfl
theorem zipW_range (f : Int → Int → Int) (xs ys : List Int) : (List.range (min xs.length ys.length)).map (fun i => f (xs.getD i 0) (ys.getD i 0)) = List.zipWith f xs ys := by
  apply List.ext_getElem
  · simp
  · intro i h1 h2
    simp at h1 h2
    have a1 : i < xs.length := by omega
    have a2 : i < ys.length := by omega
    simp [a1, a2]
end Lk

/-! K78: the contracts of the law's own defs. -/
namespace Lk
open PySem PySem.Spec L2
theorem seq_step {t u : WS} {S : DS} {D : DEnds} (h : ∀ D0 : DEnds, (∀ S', u S' D → D0.nx S') → D0.rt = D.rt → t S D0) : wSeq t u S D := h _ (fun _ h => h) rfl
@[simp ↓] theorem ex_two {x y : Dat} {P : Dat → Dat → Prop} : (∃ a b, [x, y] = [a, b] ∧ P a b) = P x y := by
  simp only [eq_iff_iff]
  constructor
  · rintro ⟨a, b, e, h⟩
    cases e
    exact h
  · intro h
    exact ⟨x, y, rfl, h⟩
@[simp ↓] theorem ex_three {x y z : Dat} {P : Dat → Dat → Dat → Prop} : (∃ a b c, [x, y, z] = [a, b, c] ∧ P a b c) = P x y z := by
  simp only [eq_iff_iff]
  constructor
  · rintro ⟨a, b, c, e, h⟩
    cases e
    exact h
  · intro h
    exact ⟨x, y, z, rfl, h⟩
@[simp ↓] theorem fCatL_fl {xs ys : List Dat} {M : Mh} {Q : MO → Mh → Prop} : fCatL (.fl xs) (.fl ys) M Q = (xs.length + ys.length ≤ sizeLine ∧ Q (.lst (xs ++ ys)) M) := by
  unfold fCatL
  simp
abbrev Pl (ys : List Int) : MO := .lst (ys.map .int)
theorem IsPool.upd {M : Mh} {p : Addr} {ys : List Int} (h : ys.length ≤ 1200) : IsPool (updM M p (Pl ys)) p := ⟨ys, h, updM_same⟩
theorem IsPool.far {M : Mh} {p q : Addr} {o : MO} (h : IsPool M p) (hne : p ≠ q) : IsPool (updM M q o) p := by
  obtain ⟨xs, h1, h2⟩ := h
  exact ⟨xs, h1, by rw [updM_ne hne]; exact h2⟩
theorem IsPool.ne {M : Mh} {p q : Addr} (h : IsPool M p) (hq : M q = none) : p ≠ q := fun e => by
  obtain ⟨xs, _, h2⟩ := h
  rw [e, hq] at h2; cases h2
theorem u__law_pick {p : Addr} {n : Int} {M : Mh} {Q : Res → Mh → Prop} (hp : IsPool M p) (hn : 0 < n) (q : ∀ (i : Nat) (ys : List Int), (i : Int) < n → ys.length ≤ 1200 → Q (.val (.int (i : Nat))) (updM M p (Pl ys))) : wf__law_pick [.ref p, .int n] M Q :=
  ⟨p, n, rfl, hn, hp, fun i M' h0 h1 ⟨ys, h2, h3⟩ => by
    obtain ⟨k, rfl⟩ := Int.eq_ofNat_of_zero_le h0
    rw [h3]
    exact q k ys h1 h2⟩
theorem updM_mid {M : Mh} {p s : Addr} {A B o : MO} (h : p ≠ s) : updM (updM (updM M p A) s o) p B = updM (updM M p B) s o := by
  rw [updM_comm (a := s) (b := p) (fun e => h e.symm), updM_updM]
theorem u_pick2 {p s : Addr} {n : Int} {M : Mh} {ys : List Int} {o : MO} {Q : Res → Mh → Prop} (hne : p ≠ s) (hy : ys.length ≤ 1200) (hn : 0 < n) (q : ∀ (i : Nat) (ys : List Int), (i : Int) < n → ys.length ≤ 1200 → Q (.val (.int (i : Nat))) (updM (updM M p (Pl ys)) s o)) :
    wf__law_pick [.ref p, .int n] (updM (updM M p (Pl ys)) s o) Q := u__law_pick (.far (.upd hy) hne) hn fun i ys h1 h2 => by
  rw [updM_mid hne]
  exact q i ys h1 h2
theorem new_ne {M : Mh} {p s : Addr} {A : MO} (h : updM M p A s = none) : p ≠ s ∧ M s = none := by
  have e : p ≠ s := fun e => by rw [← e, updM_same] at h; cases h
  exact ⟨e, by rwa [updM_ne fun z => e z.symm] at h⟩
theorem updM_mid3 {M : Mh} {p s r : Addr} {A B C o : MO} (h : p ≠ s) (h2 : p ≠ r) : updM (updM (updM (updM M p A) s o) r C) p B = updM (updM (updM M p B) s o) r C := by
  rw [updM_comm (a := r) (b := p) (fun e => h2 e.symm), updM_mid h]
theorem u_pick3 {p s r : Addr} {n : Int} {M : Mh} {ys : List Int} {o C : MO} {Q : Res → Mh → Prop} (hne : p ≠ s) (hne2 : p ≠ r) (hy : ys.length ≤ 1200) (hn : 0 < n) (q : ∀ (i : Nat) (ys : List Int), (i : Int) < n → ys.length ≤ 1200 → Q (.val (.int (i : Nat))) (updM (updM (updM M p (Pl ys)) s o) r C)) :
    wf__law_pick [.ref p, .int n] (updM (updM (updM M p (Pl ys)) s o) r C) Q := u__law_pick (.far (.far (.upd hy) hne) hne2) hn fun i ys h1 h2 => by
  rw [updM_mid3 hne hne2]
  exact q i ys h1 h2
theorem IsPool.self {M : Mh} {p : Addr} (h : IsPool M p) : ∃ ys : List Int, ys.length ≤ 1200 ∧ updM M p (Pl ys) = M := by
  obtain ⟨ys, h1, h2⟩ := h
  refine ⟨ys, h1, funext fun a => ?_⟩
  by_cases e : a = p
  · rw [e, updM_same, h2]
  · rw [updM_ne e]
theorem isL_u {M : Mh} {p : Addr} {xs : List Dat} : isL (updM M p (.lst xs)) (.ref p) := ⟨p, xs, rfl, updM_same⟩
/-- a loop of a comprehension, by an invariant -/
theorem compL_ind {α : Type} {enc : α → Dat} {g : WG} {wt : WT} {we : WE} {env : List (Option Dat)} {Q : List Dat → Mh → Prop} (I : List α → List Dat → Mh → Prop) (h0 : ∀ acc M, I [] acc M → Q acc M)
    (h1 : ∀ a l acc M, I (a :: l) acc M → ∀ N : List Dat → Mh → Prop, (∀ acc' M', I l acc' M' → N acc' M') → g (enc a) ⟨env, M⟩ fun S1 => wt S1 fun b M1 => if b = true then we ⟨S1.env, M1⟩ fun y M2 => N (acc ++ [y]) M2 else N acc M1) :
    ∀ l acc M, I l acc M → wCompL g wt we env (l.map enc) acc M Q
  | [], acc, M, h => h0 acc M h
  | a :: l, acc, M, h => h1 a l acc M h _ (compL_ind I h0 h1 l)
theorem compR_ind {g : WG} {wt : WT} {we : WE} {env : List (Option Dat)} {Q : List Dat → Mh → Prop} {n : Nat} (I : Nat → List Dat → Mh → Prop) (h0 : ∀ acc M, I n acc M → Q acc M)
    (h1 : ∀ k acc M, k < n → I k acc M → ∀ N : List Dat → Mh → Prop, (∀ acc' M', I (k + 1) acc' M' → N acc' M') → g (.int (k : Nat)) ⟨env, M⟩ fun S1 => wt S1 fun b M1 => if b = true then we ⟨S1.env, M1⟩ fun y M2 => N (acc ++ [y]) M2 else N acc M1)
    (M : Mh) (h : I 0 [] M) : wCompL g wt we env (intsD 0 n) [] M Q := by
  refine compL_ind (enc := fun i : Nat => .int (0 + (i : Int))) (fun l acc M => ∃ k, k ≤ n ∧ l = (List.range n).drop k ∧ I k acc M) ?_ ?_ (List.range n) [] M ⟨0, Nat.zero_le _, rfl, h⟩
  · rintro acc M ⟨k, hk, e, hI⟩
    have : k = n := by
      have z := congrArg List.length e
      simp at z
      omega
    subst this
    exact h0 _ _ hI
  · rintro a l acc M ⟨k, hk, e, hI⟩ N hN
    have hlt : k < n := by
      have z := congrArg List.length e
      simp at z
      omega
    rw [List.drop_eq_getElem_cons (by simpa using hlt)] at e
    simp only [List.getElem_range, List.cons.injEq] at e
    obtain ⟨e1, e2⟩ := e
    subst e1
    have z := h1 a acc M hlt hI N fun acc' M' hS' => hN acc' M' ⟨a + 1, hlt, e2, hS'⟩
    have e0 : (0 : Int) + (a : Int) = (a : Nat) := by omega
    rw [e0]
    exact z
theorem pyIx_in {α : Type} {xs : List α} {i : Nat} (h : i < xs.length) : ∃ d, xs[i]? = some d ∧ d ∈ xs := ⟨xs[i], List.getElem?_eq_getElem h, List.getElem_mem h⟩
theorem nodup_inj {α : Type} {l : List α} (nd : l.Nodup) {i j : Nat} (hi : i < l.length) (hj : j < l.length) (e : l[i] = l[j]) : i = j := by
  have z := List.pairwise_iff_getElem.mp nd
  rcases Nat.lt_trichotomy i j with h | h | h
  · exact (z i j hi hj h e).elim
  · exact h
  · exact (z j i hj hi h e.symm).elim
def NmOk (ns : List Str) : Prop := ns.Nodup ∧ ssort ns = ns
structure CtOk (ns : List Str) (L : Nat) (c : Cont) : Prop where
  nm : nms c = ns
  sr : SrC c
  ln : ∀ p ∈ c, p.2.length ≤ L
  bd : ∀ p ∈ c, ∀ x ∈ p.2, -1000 ≤ x ∧ x ≤ 1000
theorem tot_le {L : Nat} : ∀ {c : Cont}, (∀ p ∈ c, p.2.length ≤ L) → tot c ≤ c.length * L
  | [], _ => by simp [tot]
  | p :: c, h => by
    have z := tot_le fun q hq => h q (List.mem_cons_of_mem _ hq)
    have z2 := h p List.mem_cons_self
    simp only [tot, List.map_cons, List.sum_cons, List.length_cons] at z ⊢
    rw [Nat.add_mul]; omega
theorem CtOk.len {ns : List Str} {L : Nat} {c : Cont} (h : CtOk ns L c) : c.length = ns.length := by rw [← h.nm]; simp [nms]
theorem CtOk.tot {ns : List Str} {L : Nat} {c : Cont} (h : CtOk ns L c) : Lk.tot c ≤ ns.length * L := by rw [← h.len]; exact tot_le h.ln
theorem CtOk.cont {ns : List Str} {L n : Nat} {c : Cont} (h : CtOk ns L c) (hn : NmOk ns) (h3 : ns.length ≤ 3) (hl : 3 * L ≤ n) : ContOk c n :=
  ⟨by have := h.nm; unfold nms at this; rw [this]; exact hn.1, by have := h.tot; have := Nat.mul_le_mul_right L h3; omega, by have := h.len; omega⟩
def dVs (v : List (Str × Int)) : Dat := .stp (v.map fun p => .tup [.str p.1, .int p.2])
theorem weak_dVs (v : List (Str × Int)) : weak (dVs v) = dV v := rfl
def wf__law_draws : WF := fun ds M Q => ∃ (xs : List Int), ds = [.rd (xs.map .int), .int 1, .int 1200] ∧ xs.length ≤ 1000 ∧
  ∀ (ys : List Int), ys.length = 1200 → Q (.new (.lst (ys.map .int))) M
theorem nodup_sub_len {α : Type} [DecidableEq α] : ∀ {l m : List α}, l.Nodup → (∀ x ∈ l, x ∈ m) → l.length ≤ m.length
  | [], m, _, _ => Nat.zero_le _
  | x :: l, m, nd, h => by
    obtain ⟨h1, h2⟩ := List.nodup_cons.mp nd
    have hx := h x List.mem_cons_self
    have z := nodup_sub_len (l := l) (m := m.erase x) h2 fun y hy => (List.mem_erase_of_ne (fun e : y = x => h1 (e ▸ hy))).mpr (h y (List.mem_cons_of_mem _ hy))
    rw [List.length_erase_of_mem hx] at z
    have : 0 < m.length := List.length_pos_of_mem hx
    simp
    omega
theorem str_append_inj {x a b : Str} (h : x ++ a = x ++ b) : a = b := by
  have h1 : (x.cps ++ a.cps).toList = (x.cps ++ b.cps).toList := congrArg (fun s : Str => s.cps.toList) h
  rw [Array.toList_append, Array.toList_append] at h1
  have h2 := List.append_cancel_left h1
  cases a; cases b
  simp only [Array.toList_inj] at h2
  rw [h2]
theorem str_len_append (x y : Str) : (x ++ y).length = x.length + y.length := strLen_append x y
/-- the letters -/
def AL : List Str := ("abcdefghijklmnopqrstuvwxyz" : Str).cps.toList.map fun c => ⟨#[c]⟩
theorem AL_signs : signs ("abcdefghijklmnopqrstuvwxyz" : Str) = AL.map .str := by
  unfold signs AL
  rw [List.map_map]; rfl
theorem AL_len : AL.length = 26 := by decide +kernel
theorem AL_nodup : AL.Nodup := by decide +kernel
theorem AL_one : ∀ x ∈ AL, x.length = 1 := by decide +kernel
theorem AL_ix {M : Mh} {m : Nat} (h : m < 26) : ∃ c, ixOf M (.str "abcdefghijklmnopqrstuvwxyz") (.int (m : Nat)) = some (.str c) ∧ c ∈ AL := by
  have hl : ("abcdefghijklmnopqrstuvwxyz" : Str).length = 26 := by decide +kernel
  have hz := sizeLine_eq
  have h2 : m < ("abcdefghijklmnopqrstuvwxyz" : Str).cps.toList.length := by
    have : ("abcdefghijklmnopqrstuvwxyz" : Str).cps.toList.length = 26 := by decide +kernel
    omega
  refine ⟨⟨#[("abcdefghijklmnopqrstuvwxyz" : Str).cps.toList[m]]⟩, ?_, List.mem_map.mpr ⟨_, List.getElem_mem h2, rfl⟩⟩
  show (if ("abcdefghijklmnopqrstuvwxyz" : Str).length ≤ sizeLine then (pyIx ("abcdefghijklmnopqrstuvwxyz" : Str).cps.toList (m : Int)).map fun c => Dat.str ⟨#[c]⟩ else none) = _
  rw [if_pos (by omega), pyIx_nat, List.getElem?_eq_getElem h2]
  rfl
theorem join_len {ys : List Str} (h : ∀ y ∈ ys, y.length = 1) : (Txt.join "" ys).length ≤ ys.length := by
  show (Builtin.Str.glued "" ys).length ≤ _
  rw [StrLaws.glued_eq_join]
  have h1 := StrLaws.join_length_le "" ys
  have h2 : (ys.map (·.length)).sum = ys.length := by
    clear h1
    induction ys with
    | nil => rfl
    | cons y ys ih =>
      rw [List.map_cons, List.sum_cons, ih fun z hz => h z (List.mem_cons_of_mem _ hz), h y List.mem_cons_self, List.length_cons]
      omega
  have h3 : ("" : Str).length = 0 := by decide +kernel
  rw [h2, h3] at h1
  omega
theorem cut7_len (z : Str) : (cutS z none (some 7)).length ≤ 7 := by
  show (((z.cps.toList.drop (HT.sIx z.length 0 none)).take (HT.sIx z.length z.length (some 7) - HT.sIx z.length 0 none)).toArray).size ≤ 7
  rw [List.size_toArray, List.length_take, List.length_drop, Array.length_toList, show (some (7 : Int)) = some ((7 : Nat) : Int) from rfl, HT.sIx_nat, HT.sIx_none]
  omega
def exNm : List Str := ["aside", "hand"]
theorem so_iff (x : Str) : PyData.strOk x = true ↔ ∀ c ∈ x.cps.toList, c < 0x110000 := by
  unfold PyData.strOk
  rw [← Array.all_toList, List.all_eq_true]
  simp
theorem so_append {x y : Str} (h1 : PyData.strOk x = true) (h2 : PyData.strOk y = true) : PyData.strOk (x ++ y) = true := by
  rw [so_iff] at *
  intro c hc
  have hc : c ∈ (x.cps ++ y.cps).toList := hc
  rw [Array.toList_append] at hc
  exact (List.mem_append.mp hc).elim (h1 c) (h2 c)
theorem so_join' : ∀ {ys : List Str}, (∀ y ∈ ys, PyData.strOk y = true) → PyData.strOk (Str.join "" ys) = true
  | [], _ => by decide +kernel
  | [x], h => h x List.mem_cons_self
  | x :: y :: r, h => by
    show PyData.strOk (x ++ "" ++ Str.join "" (y :: r)) = true
    exact so_append (so_append (h x List.mem_cons_self) (by decide +kernel)) (so_join' fun z hz => h z (List.mem_cons_of_mem _ hz))
theorem so_join {ys : List Str} (h : ∀ y ∈ ys, PyData.strOk y = true) : PyData.strOk (Txt.join "" ys) = true := by
  show PyData.strOk (Builtin.Str.glued "" ys) = true
  rw [StrLaws.glued_eq_join]
  exact so_join' h
theorem so_cut {z : Str} {lo hi : Option Int} (h : PyData.strOk z = true) : PyData.strOk (cutS z lo hi) = true := by
  rw [so_iff] at *
  intro c hc
  have hc : c ∈ (((z.cps.toList.drop (HT.sIx z.length 0 lo)).take (HT.sIx z.length z.length hi - HT.sIx z.length 0 lo)).toArray).toList := hc
  rw [List.toList_toArray] at hc
  exact h c (List.mem_of_mem_drop (List.mem_of_mem_take hc))
theorem AL_so : ∀ x ∈ AL, PyData.strOk x = true := by decide +kernel
/-- letters that lead to a new name -/
def freeL (x : Str) (ns : List Str) : List Str := AL.filter fun c => !decide (x ++ c ∈ ns)
theorem freeL_pos {x : Str} {ns : List Str} (h : ns.length < 26) : 0 < (freeL x ns).length := by
  refine Nat.pos_of_ne_zero fun z => ?_
  have z := List.eq_nil_of_length_eq_zero z
  unfold freeL at z
  rw [List.filter_eq_nil_iff] at z
  have h1 : (AL.map (x ++ ·)).Nodup := List.pairwise_map.mpr (AL_nodup.imp fun hab e => hab (str_append_inj e))
  have h2 := nodup_sub_len h1 (m := ns) fun y hy => by
    obtain ⟨c, hc, e⟩ := List.mem_map.mp hy
    have := z c hc
    rw [← e]
    simpa using this
  rw [List.length_map, AL_len] at h2
  omega
theorem f_sorted_strs {w : World} {M : Mh} {p : Addr} {xs : List Str} {Q : MO → Mh → Prop} (h : M p = some (.lst (xs.map .str))) (q : Q (.lst ((ssort xs).map .str)) M) : fSorted w (.ref p) M Q := by
  unfold fSorted
  simp only [colD, h]
  exact ⟨sortOk_strs _, by rw [sortD_strs]; exact q⟩
theorem ssort_ok {xs : List Str} (h : xs.Nodup) : NmOk (ssort xs) := by
  have pm : (ssort xs).Perm xs := List.mergeSort_perm xs _
  exact ⟨pm.nodup_iff.mpr h, ssort_perm pm⟩
def wf__law_bins : WF := fun ds M Q => ∃ (p : Addr) (n : Nat), ds = [.ref p, .int (n : Nat)] ∧ n ≤ 3 ∧ IsPool M p ∧
  ∀ (ns : List Str) (ys : List Int), ns.length = n → NmOk ns → (∀ x ∈ ns, PyData.strOk x = true) → ys.length ≤ 1200 → Q (.new (.lst (ns.map .str))) (updM M p (Pl ys))
def NumsOk (ks : List Int) : Prop := 0 < ks.length ∧ ks.length ≤ 3 ∧ ∀ k ∈ ks, 0 ≤ k ∧ k ≤ 999
def wf__law_numbers : WF := fun ds M Q => ∃ (p : Addr), ds = [.ref p] ∧ IsPool M p ∧
  ∀ (ks ys : List Int), NumsOk ks → ys.length ≤ 1200 → Q (.new (.lst (ks.map .int))) (updM M p (Pl ys))
structure RecOk (bins : List Str) (nums : List Int) (names : List Str) (r : List Cmd) : Prop where
  bn : ∀ cm ∈ r, BinsIn bins cm
  pu : ∀ k ∈ puts r, k ∈ nums
  pn : ∀ n ∈ putsN r, n ∈ names
theorem puts_snoc (r : List Cmd) (c : Cmd) : puts (r ++ [c]) = puts r ++ puts [c] := by
  induction r with
  | nil => rfl
  | cons d r ih => cases d <;> simp [puts, ih]
theorem putsN_snoc (r : List Cmd) (c : Cmd) : putsN (r ++ [c]) = putsN r ++ putsN [c] := by
  induction r with
  | nil => rfl
  | cons d r ih => cases d <;> simp [putsN, ih]
theorem RecOk.snoc {bins : List Str} {nums : List Int} {names : List Str} {r : List Cmd} {c : Cmd} (h : RecOk bins nums names r) (h1 : BinsIn bins c) (h2 : ∀ k ∈ puts [c], k ∈ nums) (h3 : ∀ n ∈ putsN [c], n ∈ names) : RecOk bins nums names (r ++ [c]) :=
  ⟨fun x hx => (List.mem_append.mp hx).elim (h.bn x) fun z => by rw [List.mem_singleton.mp z]; exact h1,
   fun x hx => by rw [puts_snoc] at hx; exact (List.mem_append.mp hx).elim (h.pu x) (h2 x),
   fun x hx => by rw [putsN_snoc] at hx; exact (List.mem_append.mp hx).elim (h.pn x) (h3 x)⟩
def wf__law_recipe : WF := fun ds M Q => ∃ (p : Addr) (bins : List Str) (nums : List Int) (names : List Str) (n : Nat), ds = [.ref p, .fl (bins.map .str), .fl (nums.map .int), .fl (names.map .str), .int (n : Nat)] ∧
  0 < bins.length ∧ bins.length ≤ 3 ∧ bins.Nodup ∧ 0 < nums.length ∧ nums.length ≤ 3 ∧ names.length ≤ 2 ∧ n ≤ 20 ∧ IsPool M p ∧
  ∀ (r : List Cmd) (ys : List Int), r.length = n → RecOk bins nums names r → ys.length ≤ 1200 → Q (.val (dR r)) (updM M p (Pl ys))
def wf__law_thing : WF := fun ds M Q => ∃ (p : Addr) (ks : List Int), ds = [.ref p, .fl (ks.map .int)] ∧ NumsOk ks ∧ IsPool M p ∧
  ∀ (i : Int) (ys : List Int), -1000 ≤ i → i ≤ 1000 → ys.length ≤ 1200 → Q (.val (.int i)) (updM M p (Pl ys))
theorem u__law_thing {p : Addr} {ks : List Int} {M : Mh} {Q : Res → Mh → Prop} (hk : NumsOk ks) (hp : IsPool M p) (q : ∀ (i : Int) (ys : List Int), -1000 ≤ i → i ≤ 1000 → ys.length ≤ 1200 → Q (.val (.int i)) (updM M p (Pl ys))) : wf__law_thing [.ref p, .fl (ks.map .int)] M Q := ⟨p, ks, rfl, hk, hp, q⟩
theorem u_thing2 {p s : Addr} {ks : List Int} {M : Mh} {ys : List Int} {o : MO} {Q : Res → Mh → Prop} (hk : NumsOk ks) (hne : p ≠ s) (hy : ys.length ≤ 1200) (q : ∀ (i : Int) (ys : List Int), -1000 ≤ i → i ≤ 1000 → ys.length ≤ 1200 → Q (.val (.int i)) (updM (updM M p (Pl ys)) s o)) :
    wf__law_thing [.ref p, .fl (ks.map .int)] (updM (updM M p (Pl ys)) s o) Q := u__law_thing hk (.far (.upd hy) hne) fun i ys h1 h2 h3 => by
  rw [updM_mid hne]
  exact q i ys h1 h2 h3
theorem u_thing3 {p s r : Addr} {ks : List Int} {M : Mh} {ys : List Int} {o C : MO} {Q : Res → Mh → Prop} (hk : NumsOk ks) (hne : p ≠ s) (hne2 : p ≠ r) (hy : ys.length ≤ 1200) (q : ∀ (i : Int) (ys : List Int), -1000 ≤ i → i ≤ 1000 → ys.length ≤ 1200 → Q (.val (.int i)) (updM (updM (updM M p (Pl ys)) s o) r C)) :
    wf__law_thing [.ref p, .fl (ks.map .int)] (updM (updM (updM M p (Pl ys)) s o) r C) Q := u__law_thing hk (.far (.far (.upd hy) hne) hne2) fun i ys h1 h2 h3 => by
  rw [updM_mid3 hne hne2]
  exact q i ys h1 h2 h3
theorem f_sorted_ints {w : World} {M : Mh} {xs : List Int} {Q : MO → Mh → Prop} (q : Q (.lst ((isort xs).map .int)) M) : fSorted w (.fl (xs.map .int)) M Q := ⟨sortOk_ints _, by rw [sortD_ints]; exact q⟩
theorem f_sorted_app1 {w : World} {M : Mh} {xs : List Int} {k : Int} {Q : MO → Mh → Prop} (q : Q (.lst ((isort (xs ++ [k])).map .int)) M) : fSorted w (.fl (xs.map .int ++ [.int k])) M Q := by
  have := f_sorted_ints (w := w) q
  rwa [List.map_append] at this
theorem f_sorted_app {w : World} {M : Mh} {xs ys : List Int} {Q : MO → Mh → Prop} (q : Q (.lst ((isort (xs ++ ys)).map .int)) M) : fSorted w (.fl (xs.map .int ++ ys.map .int)) M Q := by
  have := f_sorted_ints (w := w) q
  rwa [List.map_append] at this
theorem f_sorted_ref {w : World} {M : Mh} {p : Addr} {xs : List Int} {Q : MO → Mh → Prop} (h : M p = some (.lst (xs.map .int))) (q : Q (.lst ((isort xs).map .int)) M) : fSorted w (.ref p) M Q := by
  unfold fSorted
  simp only [colD, h]
  exact ⟨sortOk_ints _, by rw [sortD_ints]; exact q⟩
def encP (p : Str × List Int) : Dat := .tup [.str p.1, dI p.2]
theorem dC_enc (c : Cont) : dC c = .tup (c.map encP) := rfl
def wf__law_held : WF := fun ds M Q => ∃ (p : Addr) (ns : List Str) (ks : List Int) (L : Nat), ds = [.ref p, .fl (ns.map .str), .fl (ks.map .int), .int (L : Nat)] ∧ ns.length ≤ 3 ∧ NumsOk ks ∧ L ≤ 100 ∧ IsPool M p ∧
  ∀ (c : Cont) (ys : List Int), CtOk ns L c → ys.length ≤ 1200 → Q (.val (dC c)) (updM M p (Pl ys))
def wf__law_values : WF := fun ds M Q => ∃ (p : Addr) (r : List Cmd) (ks : List Int), ds = [.ref p, dR r, .fl (ks.map .int)] ∧ r.length ≤ 1000 ∧ NumsOk ks ∧ IsPool M p ∧
  ∀ (v : List (Str × Int)) (ys : List Int), nms v = sortS (putsN r) → ys.length ≤ 1200 → Q (.val (dVs v)) (updM M p (Pl ys))
def isPutN : Cmd → Bool
  | .putN _ _ => true
  | _ => false
def putNV : Cmd → Str
  | .putN _ n => n
  | _ => default
theorem putsN_eq : ∀ r : List Cmd, (r.filter isPutN).map putNV = putsN r
  | [] => rfl
  | c :: r => by cases c <;> first | exact congrArg (List.cons _) (putsN_eq r) | exact putsN_eq r
theorem dedupS_len (l : List Str) : (dedupS l).length ≤ l.length := by
  have aux : ∀ (l acc : List Str), (l.foldl (fun acc x => if x ∈ acc then acc else acc ++ [x]) acc).length ≤ acc.length + l.length := fun l => by
    induction l with
    | nil => intro acc; simp
    | cons y l ih =>
      intro acc
      rw [List.foldl_cons]
      have := ih (if y ∈ acc then acc else acc ++ [y])
      split at this <;> split <;> first | contradiction | (simp at this ⊢; omega)
  have := aux l []
  simpa [dedupS] using this
theorem sortS_len (l : List Str) : (sortS l).length ≤ l.length := by
  unfold sortS ssort
  rw [List.length_mergeSort]
  exact dedupS_len l
def bins1 : Cmd → Str
  | .put a _ => a
  | .putN a _ => a
  | .take a => a
  | .peek a => a
  | .drop a => a
  | .move a _ => a
  | .pour a _ => a
  | .swap a _ => a
def isTwo : Cmd → Bool
  | .move _ _ => true
  | .pour _ _ => true
  | .swap _ _ => true
  | _ => false
def bins2 : Cmd → Str
  | .move _ b => b
  | .pour _ b => b
  | .swap _ b => b
  | .put a _ => a
  | .putN a _ => a
  | .take a => a
  | .peek a => a
  | .drop a => a
def binsL (r : List Cmd) : List Str := r.map bins1 ++ (r.filter isTwo).map bins2
def wf__law_bins_of : WF := fun ds M Q => ∃ (r : List Cmd), ds = [dR r] ∧ r.length ≤ 1000 ∧ Q (.new (.lst ((sortS (binsL r)).map .str))) M
def wf__law_run : WF := fun ds M Q => ∃ (r : List Cmd) (c : Cont) (v : List (Str × Int)), ds = [dR r, dC c, dVs v] ∧ RunOk v r c ∧ SrC c ∧ NmOk (nms c) ∧ (nms v).Nodup ∧ v.length ≤ 1000 ∧
  Q (.val (.tup [dT (run v r c).1, dC (run v r c).2])) M
/-! ### dicts of texts -/
def dkG {α : Type} (f : α → Dat) (c : List (Str × α)) : MO := .dk (c.map fun p => (.inr p.1, f p.2))
def flI (xs : List Int) : Dat := .fl (xs.map .int)
theorem dk_get {α : Type} {f : α → Dat} {c : List (Str × α)} {a : Str} : getD (c.map fun p => ((.inr p.1 : Key), f p.2)) (.inr a) = (c.find? fun p => decide (p.1 = a)).map fun p => f p.2 := by
  induction c with
  | nil => rfl
  | cons p c ih =>
    unfold getD at *
    by_cases e : p.1 = a
    · simp [e]
    · rw [List.map_cons, List.find?_cons_of_neg (by simpa using e), List.find?_cons_of_neg (by simpa using e)]
      exact ih
theorem dk_put {α : Type} {f : α → Dat} {c : List (Str × α)} {a : Str} {x : α} (h : a ∈ nms c) : putD (c.map fun p => ((.inr p.1 : Key), f p.2)) (.inr a) (f x) = (c.map fun p => (p.1, if p.1 = a then x else p.2)).map fun p => (.inr p.1, f p.2) := by
  unfold putD
  rw [if_pos (by
    obtain ⟨p, hp, e⟩ := List.mem_map.mp h
    simp only [List.any_map, List.any_eq_true]
    exact ⟨p, hp, by simp [e]⟩), List.map_map, List.map_map]
  refine List.map_congr_left fun p hp => ?_
  simp only [Function.comp]
  by_cases e : p.1 = a <;> simp [e]
theorem dk_new {α : Type} {f : α → Dat} {c : List (Str × α)} {a : Str} {x : α} (h : a ∉ nms c) : putD (c.map fun p => ((.inr p.1 : Key), f p.2)) (.inr a) (f x) = (c ++ [(a, x)]).map fun p => (.inr p.1, f p.2) := by
  unfold putD
  rw [if_neg (by
    simp only [List.any_map, List.any_eq_true, not_exists, not_and]
    intro p hp e
    simp at e
    exact h (List.mem_map.mpr ⟨p, hp, e⟩)), List.map_append]
  rfl
theorem pairs_dVs : ∀ (v : List (Str × Int)), pairsOf (v.map fun p => .tup [.str p.1, .int p.2]) = some (v.map fun p => (.inr p.1, .int p.2))
  | [] => rfl
  | p :: v => by
    rw [List.map_cons]
    unfold pairsOf
    rw [pairs_dVs v]
    rfl
theorem merge_nodup {α : Type} {f : α → Dat} : ∀ (v acc : List (Str × α)), (nms (acc ++ v)).Nodup → mergeD (acc.map fun p => ((.inr p.1 : Key), f p.2)) (v.map fun p => (.inr p.1, f p.2)) = (acc ++ v).map fun p => (.inr p.1, f p.2)
  | [], acc, _ => by simp [mergeD]
  | p :: v, acc, h => by
    have hp : p.1 ∉ nms acc := fun z => by
      unfold nms at h
      rw [List.map_append, List.nodup_append] at h
      exact h.2.2 _ z _ (by simp) rfl
    show mergeD (putD _ (.inr p.1) (f p.2)) _ = _
    rw [dk_new hp, merge_nodup v (acc ++ [(p.1, p.2)]) (by simpa using h)]
    simp
theorem f_dict {v : List (Str × Int)} {M : Mh} {Q : MO → Mh → Prop} (nd : (nms v).Nodup) (q : Q (dkG .int v) M) : fDict (dVs v) M Q := by
  refine ⟨_, pairs_dVs v, ?_⟩
  have := merge_nodup (f := Dat.int) v [] (by simpa using nd)
  rw [List.map_nil] at this
  rw [this]
  exact q
theorem setc_self {c : Cont} {a : Str} {xs : List Int} (nd : (nms c).Nodup) (h : getc c a = some xs) : setc c a xs = c := by
  unfold setc
  conv => rhs; rw [← List.map_id c]
  refine List.map_congr_left fun p hp => ?_
  by_cases e : p.1 = a
  · have : getc c a = some p.2 := by
      unfold getc
      clear h
      induction c with
      | nil => cases hp
      | cons q c ih =>
        obtain ⟨h1, h2⟩ := List.nodup_cons.mp nd
        rcases List.mem_cons.mp hp with z | z
        · rw [← z]; simp [e]
        · have : q.1 ≠ a := fun z2 => h1 (List.mem_map.mpr ⟨p, z, e.trans z2.symm⟩)
          rw [List.find?_cons_of_neg (by simpa using this)]
          exact ih h2 z
    rw [h] at this
    cases this
    simp [e]
    rw [← e]
  · simp [e]
theorem getc_mem {c : Cont} {p : Str × List Int} (nd : (nms c).Nodup) (hp : p ∈ c) : getc c p.1 = some p.2 := by
  unfold getc
  induction c with
  | nil => cases hp
  | cons x c ih =>
    obtain ⟨n1, n2⟩ := List.nodup_cons.mp nd
    rcases List.mem_cons.mp hp with z | z
    · rw [← z]; simp
    · have : x.1 ≠ p.1 := fun z2 => n1 (List.mem_map.mpr ⟨p, z, z2.symm⟩)
      rw [List.find?_cons_of_neg (by simpa using this)]
      exact ih n2 z
theorem getn_mem {c : Cnt} {p : Str × Int} (nd : (nms c).Nodup) (hp : p ∈ c) : getn c p.1 = p.2 := by
  have := (vget_mem (n := p.1) (i := p.2) nd).mpr hp
  unfold getn
  rw [this]; rfl
theorem setc_comm {c : Cont} {a b : Str} {xs ys : List Int} (h : a ≠ b) : setc (setc c a xs) b ys = setc (setc c b ys) a xs := by
  unfold setc
  rw [List.map_map, List.map_map]
  refine List.map_congr_left fun p hp => ?_
  simp only [Function.comp]
  by_cases e : p.1 = a
  · have : p.1 ≠ b := fun z => h (e.symm.trans z)
    simp [e, h]
  · simp [e]
theorem setn_comm {c : Cnt} {a b : Str} {x y : Int} (h : a ≠ b) : setn (setn c a x) b y = setn (setn c b y) a x := by
  unfold setn
  rw [List.map_map, List.map_map]
  refine List.map_congr_left fun p hp => ?_
  simp only [Function.comp]
  by_cases e : p.1 = a
  · have : p.1 ≠ b := fun z => h (e.symm.trans z)
    simp [e, h]
  · simp [e]
/-- the memory of the law's run: what is held, the values, what is told -/
def M3h (M : Mh) (ph pg pt : Addr) (c : Cont) (v : List (Str × Int)) (T : List Dat) : Mh := updM (updM (updM M ph (dkG flI c)) pg (dkG .int v)) pt (.lst T)
section
variable {M : Mh} {ph pg pt : Addr} {c : Cont} {v : List (Str × Int)} {T : List Dat}
theorem M3h_h (h1 : ph ≠ pg) (h2 : ph ≠ pt) : M3h M ph pg pt c v T ph = some (dkG flI c) := by
  unfold M3h
  rw [updM_ne h2, updM_ne h1, updM_same]
theorem M3h_g (h3 : pg ≠ pt) : M3h M ph pg pt c v T pg = some (dkG .int v) := by
  unfold M3h
  rw [updM_ne h3, updM_same]
theorem M3h_t : M3h M ph pg pt c v T pt = some (.lst T) := updM_same
theorem M3h_ix (h1 : ph ≠ pg) (h2 : ph ≠ pt) {a : Str} (h : a ∈ nms c) : ixOf (M3h M ph pg pt c v T) (.ref ph) (.str a) = some (flI ((getc c a).getD [])) := by
  obtain ⟨xs, hx⟩ := has_get h
  rw [hx]
  simp only [ixOf, M3h_h h1 h2, dkG]
  show getD _ (.inr a : Key) = _
  rw [dk_get]
  unfold getc at hx
  rw [Option.map_eq_some_iff] at hx
  obtain ⟨p, e1, e2⟩ := hx
  rw [e1, ← e2]
  rfl
theorem M3h_val (h3 : pg ≠ pt) {n : Str} {i : Int} (h : vget v n = some i) : ixOf (M3h M ph pg pt c v T) (.ref pg) (.str n) = some (.int i) := by
  simp only [ixOf, M3h_g h3, dkG]
  show getD _ (.inr n : Key) = _
  rw [dk_get]
  unfold vget at h
  rw [Option.map_eq_some_iff] at h
  obtain ⟨p, e1, e2⟩ := h
  rw [e1, ← e2]
  rfl
theorem M3h_set (h1 : ph ≠ pg) (h2 : ph ≠ pt) {a : Str} {xs : List Int} {Q : Mh → Prop} (h : a ∈ nms c) (hl : c.length ≤ 1000) (q : Q (M3h M ph pg pt (setc c a xs) v T)) : fSet (.ref ph) (.str a) (flI xs) (M3h M ph pg pt c v T) Q := by
  have hz := sizeLine_eq
  simp only [fSet, M3h_h h1 h2, dkG]
  refine ⟨.inr a, rfl, by simp; omega, ?_⟩
  rw [dk_put (f := flI) h]
  have e : updM (M3h M ph pg pt c v T) ph (dkG flI (setc c a xs)) = M3h M ph pg pt (setc c a xs) v T := by
    unfold M3h
    rw [updM_mid3 h1 h2]
  unfold dkG at e
  unfold setc at e
  rw [e]
  exact q
theorem M3h_new (h1 : ph ≠ pg) (h2 : ph ≠ pt) {a : Str} {xs : List Int} {Q : Mh → Prop} (h : a ∉ nms c) (hl : c.length ≤ 1000) (q : Q (M3h M ph pg pt (c ++ [(a, xs)]) v T)) : fSet (.ref ph) (.str a) (flI xs) (M3h M ph pg pt c v T) Q := by
  have hz := sizeLine_eq
  simp only [fSet, M3h_h h1 h2, dkG]
  refine ⟨.inr a, rfl, by simp; omega, ?_⟩
  rw [dk_new (f := flI) h]
  have e : updM (M3h M ph pg pt c v T) ph (dkG flI (c ++ [(a, xs)])) = M3h M ph pg pt (c ++ [(a, xs)]) v T := by
    unfold M3h
    rw [updM_mid3 h1 h2]
  unfold dkG at e
  rw [e]
  exact q
theorem M3h_app {d : Dat} {Q : VD} (hl : T.length < 16777216) (q : Q .non (M3h M ph pg pt c v (T ++ [d]))) : mAppend (.ref pt) [d] (M3h M ph pg pt c v T) Q := by
  have hz := sizeLine_eq
  refine ⟨T, updM_same, by omega, ?_⟩
  have e : updM (M3h M ph pg pt c v T) pt (.lst (T ++ [d])) = M3h M ph pg pt c v (T ++ [d]) := by
    unfold M3h
    rw [updM_updM]
  rw [e]
  exact q
theorem M3h_isL : isL (M3h M ph pg pt c v T) (.ref pt) = True := by
  simp only [eq_iff_iff, iff_true]
  exact ⟨pt, T, rfl, updM_same⟩
end
/-- the memory of the law's counting -/
def M2n (M : Mh) (ph pt : Addr) (c : Cnt) (T : List Dat) : Mh := updM (updM M ph (dkG .int c)) pt (.lst T)
section
variable {M : Mh} {ph pt : Addr} {c : Cnt} {T : List Dat}
theorem M2n_h (h2 : ph ≠ pt) : M2n M ph pt c T ph = some (dkG .int c) := by
  unfold M2n
  rw [updM_ne h2, updM_same]
theorem M2n_t : M2n M ph pt c T pt = some (.lst T) := updM_same
theorem vget_has {a : Str} (h : a ∈ nms c) : vget c a = some (getn c a) := by
  unfold getn
  induction c with
  | nil => cases h
  | cons p c ih =>
    rw [vget_cons]
    by_cases e : p.1 = a
    · simp [e]
    · rw [if_neg e]
      exact ih ((List.mem_cons.mp h).resolve_left fun z => e z.symm)
theorem M2n_ix (h2 : ph ≠ pt) {a : Str} (h : a ∈ nms c) : ixOf (M2n M ph pt c T) (.ref ph) (.str a) = some (.int (getn c a)) := by
  have hx := vget_has h
  simp only [ixOf, M2n_h h2, dkG]
  show getD _ (.inr a : Key) = _
  rw [dk_get]
  unfold vget at hx
  rw [Option.map_eq_some_iff] at hx
  obtain ⟨p, e1, e2⟩ := hx
  rw [e1, ← e2]
  rfl
theorem M2n_set (h2 : ph ≠ pt) {a : Str} {x : Int} {Q : Mh → Prop} (h : a ∈ nms c) (hl : c.length ≤ 1000) (q : Q (M2n M ph pt (setn c a x) T)) : fSet (.ref ph) (.str a) (.int x) (M2n M ph pt c T) Q := by
  have hz := sizeLine_eq
  simp only [fSet, M2n_h h2, dkG]
  refine ⟨.inr a, rfl, by simp; omega, ?_⟩
  rw [dk_put (f := Dat.int) h]
  have e : updM (M2n M ph pt c T) ph (dkG .int (setn c a x)) = M2n M ph pt (setn c a x) T := by
    unfold M2n
    rw [updM_mid h2]
  unfold dkG at e
  unfold setn at e
  rw [e]
  exact q
theorem M2n_app {d : Dat} {Q : VD} (hl : T.length < 16777216) (q : Q .non (M2n M ph pt c (T ++ [d]))) : mAppend (.ref pt) [d] (M2n M ph pt c T) Q := by
  have hz := sizeLine_eq
  refine ⟨T, updM_same, by omega, ?_⟩
  have e : updM (M2n M ph pt c T) pt (.lst (T ++ [d])) = M2n M ph pt c (T ++ [d]) := by
    unfold M2n
    rw [updM_updM]
  rw [e]
  exact q
theorem M2n_isL : isL (M2n M ph pt c T) (.ref pt) = True := by
  simp only [eq_iff_iff, iff_true]
  exact ⟨pt, T, rfl, updM_same⟩
end
/-- sorted(a dict with ascending texts as keys) -/
theorem f_sorted_dk {α : Type} {f : α → Dat} {w : World} {M : Mh} {p : Addr} {c : List (Str × α)} {Q : MO → Mh → Prop} (h : M p = some (dkG f c)) (hs : ssort (nms c) = nms c) (q : Q (.lst ((nms c).map .str)) M) : fSorted w (.ref p) M Q := by
  unfold fSorted
  simp only [colD, h, dkG]
  have e : (c.map fun p => ((.inr p.1 : Key), f p.2)).map (fun p => kD p.1) = (nms c).map .str := by
    rw [List.map_map, List.map_map]; rfl
  rw [e]
  exact ⟨sortOk_strs _, by rw [sortD_strs, hs]; exact q⟩
def NnN (c : Cnt) : Prop := ∀ a, 0 ≤ getn c a
@[simp ↓ 2000] theorem inFlat_str2 {xs : List Str} {k : Str} : inFlat (.str k) (xs.map .str) = some (decide (k ∈ xs)) := inFlat_str
@[simp ↓ 2000] theorem inFlat_int2 {xs : List Int} {k : Int} : inFlat (.int k) (xs.map .int) = some (decide (k ∈ xs)) := inFlat_int
theorem NnN.cst {sm : Cmd → Bool} {c : Cnt} {cm : Cmd} (h : NnN c) (hb : BinsIn (nms c) cm) : NnN (cst sm c cm).1 := by
  intro b
  have in2 : ∀ {a b : Str} {x : Int}, a ∈ nms c → a ∈ nms (setn c b x) := fun h => by rw [setn_names]; exact h
  have hb0 := h b
  cases cm with
  | put a k =>
    simp only [Lk.cst]
    rw [getn_setn hb]
    have := h a
    repeat' split
    all_goals omega
  | putN a k =>
    simp only [Lk.cst]
    rw [getn_setn (show a ∈ nms c from hb)]
    have := h a
    repeat' split
    all_goals omega
  | take a =>
    simp only [Lk.cst]
    rw [getn_setn (show a ∈ nms c from hb)]
    repeat' split
    all_goals omega
  | peek a => exact hb0
  | drop a =>
    simp only [Lk.cst]
    rw [getn_setn (show a ∈ nms c from hb)]
    repeat' split
    all_goals omega
  | move a d =>
    obtain ⟨ha, hd, hne⟩ : a ∈ nms c ∧ d ∈ nms c ∧ a ≠ d := hb
    simp only [Lk.cst]
    have := h a
    have := h d
    split
    · rw [getn_setn (in2 hd), getn_setn ha]
      repeat' split
      all_goals omega
    · exact hb0
  | pour a d =>
    obtain ⟨ha, hd, hne⟩ : a ∈ nms c ∧ d ∈ nms c ∧ a ≠ d := hb
    simp only [Lk.cst]
    have := h a
    have := h d
    rw [getn_setn (in2 hd), getn_setn ha]
    repeat' split
    all_goals omega
  | swap a d =>
    obtain ⟨ha, hd, hne⟩ : a ∈ nms c ∧ d ∈ nms c ∧ a ≠ d := hb
    simp only [Lk.cst]
    have := h a
    have := h d
    rw [getn_setn (in2 hd), getn_setn ha]
    repeat' split
    all_goals omega
def wf__law_count : WF := fun ds M Q => ∃ (r : List Cmd) (like : Int) (lot : List Str) (c : Cnt), ds = [dR r, .int like, .tup (lot.map .str), dVs c] ∧ NmOk (nms c) ∧ c.length ≤ 1000 ∧ NnN c ∧ (∀ cm ∈ r, BinsIn (nms c) cm) ∧ r.length ≤ 1000 ∧ lot.length ≤ 1000 ∧
  Q (.val (.tup [dI (crn (lawSm like lot) r c).1, dV (crn (lawSm like lot) r c).2])) M
def plD : Dat → Bool
  | .non => true
  | .bl _ => true
  | .int _ => true
  | .str _ => true
  | .tup xs => plDs xs
  | _ => false
where plDs : List Dat → Bool
  | [] => true
  | x :: xs => plD x && plDs xs
def szD : Dat → Nat
  | .tup xs => szDs xs + 1
  | _ => 1
where szDs : List Dat → Nat
  | [] => 0
  | x :: xs => szD x + szDs xs
theorem plDs_append : ∀ (xs ys : List Dat), plD.plDs (xs ++ ys) = (plD.plDs xs && plD.plDs ys)
  | [], ys => by simp [plD.plDs]
  | x :: xs, ys => by simp [plD.plDs, plDs_append xs ys, Bool.and_assoc]
theorem szDs_append : ∀ (xs ys : List Dat), szD.szDs (xs ++ ys) = szD.szDs xs + szD.szDs ys
  | [], ys => by simp [szD.szDs]
  | x :: xs, ys => by simp [szD.szDs, szDs_append xs ys]; omega
theorem szDs_len : ∀ (xs : List Dat), xs.length ≤ szD.szDs xs
  | [] => by simp
  | x :: xs => by
    have := szDs_len xs
    have : 1 ≤ szD x := by cases x <;> simp [szD]
    simp [szD.szDs]; omega
def wf__law_same : WF := fun ds M Q => ∃ (d : Dat), ds = [d, d] ∧ plD d = true ∧ szD d ≤ 290000 ∧ Q (.val (.bl true)) M
theorem u__law_same {d : Dat} {M : Mh} {Q : Res → Mh → Prop} (h1 : plD d = true) (h2 : szD d ≤ 290000) (q : Q (.val (.bl true)) M) : wf__law_same [d, d] M Q := ⟨d, rfl, h1, h2, q⟩
def wf__law_lower : WF := fun ds M Q => ∃ (p : Addr) (ns : List Str) (L : Nat) (c : Cont) (ks : List Int), ds = [.ref p, dC c, .fl (ks.map .int)] ∧ CtOk ns L c ∧ ns.length ≤ 3 ∧ NumsOk ks ∧ L ≤ 100 ∧ IsPool M p ∧
  ∀ (c' : Cont) (ys : List Int), CtOk ns (L + 2) c' → below c' c = true → ys.length ≤ 1200 → Q (.val (dC c')) (updM M p (Pl ys))
def wf__law_both : WF := fun ds M Q => ∃ (c d : Cont) (b : Bool), ds = [dC c, dC d, .bl b] ∧ c.length = d.length ∧ ContOk c 10000 ∧ ContOk d 10000 ∧ Q (.val (dC (mixed b c d))) M
def wf__law_limits : WF := fun ds M Q => ∃ (c d : Cont), ds = [dC c, dC d] ∧ ContOk c 1000 ∧ ContOk d 1000 ∧ Q (.val (dI (sset ((c ++ d).flatMap (·.2))))) M
/-- all that the law's parts need -/
structure Good (v : List (Str × Int)) (r : List Cmd) (ns : List Str) : Prop where
  nm : NmOk ns
  n3 : ns.length ≤ 3
  ok : ∀ cm ∈ r, CmdOk v ns cm
  rl : r.length ≤ 20
  vn : (nms v).Nodup
  vl : v.length ≤ 20
  pp : ∀ k ∈ puts r, 0 ≤ k
  so : ∀ x ∈ ns, PyData.strOk x = true
theorem ContOk.mono {c : Cont} {n m : Nat} (h : ContOk c n) (l : n ≤ m) : ContOk c m := ⟨h.nd, Nat.le_trans h.sm l, h.ln⟩
theorem plDs_all : ∀ {xs : List Dat}, (∀ x ∈ xs, plD x = true) → plD.plDs xs = true
  | [], _ => rfl
  | x :: xs, h => by
    simp only [plD.plDs, Bool.and_eq_true]
    exact ⟨h x List.mem_cons_self, plDs_all fun y hy => h y (List.mem_cons_of_mem _ hy)⟩
theorem szDs_all {n : Nat} : ∀ {xs : List Dat}, (∀ x ∈ xs, szD x ≤ n) → szD.szDs xs ≤ xs.length * n
  | [], _ => by simp [szD.szDs]
  | x :: xs, h => by
    have h1 := h x List.mem_cons_self
    have h2 := szDs_all (n := n) fun y hy => h y (List.mem_cons_of_mem _ hy)
    simp only [szD.szDs, List.length_cons, Nat.add_mul]
    omega
theorem plD_dI (xs : List Int) : plD (dI xs) = true := plDs_all fun d hd => by
  obtain ⟨x, _, rfl⟩ := List.mem_map.mp hd; rfl
theorem szD_dI (xs : List Int) : szD (dI xs) ≤ xs.length + 1 := by
  have := szDs_all (n := 1) (xs := xs.map Dat.int) fun d hd => by
    obtain ⟨x, _, rfl⟩ := List.mem_map.mp hd; simp [szD]
  simp only [dI, szD]
  simp at this
  omega
theorem plD_strs (xs : List Str) : plD (.tup (xs.map .str)) = true := plDs_all fun d hd => by
  obtain ⟨x, _, rfl⟩ := List.mem_map.mp hd; rfl
theorem szD_strs (xs : List Str) : szD (.tup (xs.map .str)) ≤ xs.length + 1 := by
  have := szDs_all (n := 1) (xs := xs.map Dat.str) fun d hd => by
    obtain ⟨x, _, rfl⟩ := List.mem_map.mp hd; simp [szD]
  simp only [szD]
  simp at this
  omega
theorem plD_dV (v : List (Str × Int)) : plD (dV v) = true := plDs_all fun d hd => by
  obtain ⟨x, _, rfl⟩ := List.mem_map.mp hd; rfl
theorem szD_dV (v : List (Str × Int)) : szD (dV v) ≤ v.length * 3 + 1 := by
  have := szDs_all (n := 3) (xs := v.map fun p => Dat.tup [.str p.1, .int p.2]) fun d hd => by
    obtain ⟨x, _, rfl⟩ := List.mem_map.mp hd; simp [szD, szD.szDs]
  simp only [dV, szD]
  simp at this
  omega
theorem plD_dC (c : Cont) : plD (dC c) = true := plDs_all fun d hd => by
  obtain ⟨x, _, rfl⟩ := List.mem_map.mp hd
  simp only [plD, plD.plDs, Bool.true_and, Bool.and_true]
  exact plD_dI x.2
theorem szD_dC {c : Cont} {L : Nat} (h : ∀ p ∈ c, p.2.length ≤ L) : szD (dC c) ≤ c.length * (L + 3) + 1 := by
  have := szDs_all (n := L + 3) (xs := c.map fun p => Dat.tup [.str p.1, dI p.2]) fun d hd => by
    obtain ⟨x, hx, rfl⟩ := List.mem_map.mp hd
    have h1 := szD_dI x.2
    have h2 := h x hx
    simp only [szD, szD.szDs]
    omega
  simp only [dC, szD]
  simp only [List.length_map] at this
  omega
theorem plD_tup2 {x y : Dat} (h1 : plD x = true) (h2 : plD y = true) : plD (.tup [x, y]) = true := by simp [plD, plD.plDs, h1, h2]
theorem szD_tup2 (x y : Dat) : szD (.tup [x, y]) = szD x + szD y + 1 := by simp [szD, szD.szDs]
theorem sh_ints (xs : List Int) : SeqAt.shaped (toPy (dI xs)) = true := by
  have h : ∀ xs : List Int, PyData.canLayAll0 (toPys (xs.map .int)) = true ∧ PyData.depthAll (toPys (xs.map .int)) = 0 := fun xs => by
    induction xs with
    | nil => exact ⟨rfl, rfl⟩
    | cons x xs ih => simp [toPys, toPy, PyData.canLayAll0, PyData.depthAll, PyData.canLay0, PyData.depth, ih]
  show (PyData.canLayAll0 _ && decide (PyData.depthAll _ + 1 ≤ 64)) = true
  rw [(h xs).1, (h xs).2]; rfl
theorem sh_dV {v : List (Str × Int)} (hs : ∀ x ∈ nms v, PyData.strOk x = true) : SeqAt.shaped (toPy (dV v)) = true := by
  have h : ∀ v : List (Str × Int), (∀ x ∈ nms v, PyData.strOk x = true) → PyData.canLayAll0 (toPys (v.map fun p => .tup [.str p.1, .int p.2])) = true ∧ PyData.depthAll (toPys (v.map fun p => .tup [.str p.1, .int p.2])) ≤ 1 := fun v => by
    induction v with
    | nil => intro _; exact ⟨rfl, Nat.zero_le _⟩
    | cons x xs ih =>
      intro hs
      have h1 := hs x.1 List.mem_cons_self
      have h2 := ih fun y hy => hs y (List.mem_cons_of_mem _ hy)
      simp [toPys, toPy, PyData.canLayAll0, PyData.depthAll, PyData.canLay0, PyData.depth, h1, h2.1]
      have := h2.2
      omega
  have z := h v hs
  show (PyData.canLayAll0 _ && decide (PyData.depthAll _ + 1 ≤ 64)) = true
  rw [z.1, Bool.true_and, decide_eq_true_eq]
  omega
theorem lay_of {d : PyData} (h : SeqAt.shaped d = true) : d.canLay0 = true := SeqAt.canLay_of_shaped h
theorem fNe_same {x y : Dat} {M : Mh} {Q : VD} (e : toPy x = toPy y) (h : SeqAt.shaped (toPy x) = true) (q : Q (.bl false) M) : fNe x y M Q := by
  refine ⟨.inr ⟨h, e ▸ h⟩, ?_⟩
  unfold eqv
  rw [← e, SeqAt.eqv_refl _ (lay_of h)]
  exact q
theorem mem_dedupS {l : List Str} {a : Str} : a ∈ dedupS l ↔ a ∈ l := by
  have aux : ∀ (l acc : List Str), a ∈ l.foldl (fun acc x => if x ∈ acc then acc else acc ++ [x]) acc ↔ a ∈ acc ∨ a ∈ l := fun l => by
    induction l with
    | nil => intro acc; simp
    | cons y l ih =>
      intro acc
      rw [List.foldl_cons, ih]
      by_cases e : y ∈ acc
      · rw [if_pos e, List.mem_cons]
        exact ⟨fun z => z.elim .inl fun q => .inr (.inr q), fun z => z.elim .inl fun q => q.elim (fun q => .inl (q ▸ e)) .inr⟩
      · rw [if_neg e, List.mem_append, List.mem_singleton, List.mem_cons, or_assoc]
  have := aux l []
  simpa [dedupS] using this
theorem mem_sortS {l : List Str} {a : Str} : a ∈ sortS l ↔ a ∈ l := by
  unfold sortS ssort
  rw [List.mem_mergeSort]
  exact mem_dedupS
theorem NmOk.filter {ns : List Str} (h : NmOk ns) (p : Str → Bool) : NmOk (ns.filter p) := by
  refine ⟨h.1.filter _, ?_⟩
  have z := ssort_pw ns
  rw [h.2] at z
  exact List.mergeSort_of_pairwise (z.sublist List.filter_sublist)
theorem nms_filter {α : Type} (c : List (Str × α)) (p : Str → Bool) : nms (c.filter fun x => p x.1) = (nms c).filter p := by
  unfold nms
  rw [List.filter_map]
  rfl
theorem below_filter {p : Str → Bool} : ∀ {c d : Cont}, nms c = nms d → below c d = true → below (c.filter fun x => p x.1) (d.filter fun x => p x.1) = true
  | [], [], _, _ => rfl
  | [], _ :: _, e, _ => by simp at e
  | _ :: _, [], e, _ => by simp at e
  | x :: c, y :: d, e, h => by
    simp only [nms, List.map_cons, List.cons.injEq] at e
    unfold below at h
    rw [List.zip_cons_cons, List.all_cons, Bool.and_eq_true] at h
    have ih := below_filter (p := p) (c := c) (d := d) e.2 h.2
    by_cases ep : p x.1 = true
    · rw [List.filter_cons_of_pos (p := fun x : Str × List Int => p x.1) ep, List.filter_cons_of_pos (p := fun x : Str × List Int => p x.1) (by rw [← e.1]; exact ep)]
      unfold below at ih ⊢
      rw [List.zip_cons_cons, List.all_cons, ih, h.1]; rfl
    · rw [List.filter_cons_of_neg (p := fun x : Str × List Int => p x.1) ep, List.filter_cons_of_neg (p := fun x : Str × List Int => p x.1) (by rw [← e.1]; exact ep)]
      exact ih
theorem CtOk.filter {ns : List Str} {L : Nat} {c : Cont} (h : CtOk ns L c) (p : Str → Bool) : CtOk (ns.filter p) L (c.filter fun x => p x.1) :=
  ⟨by rw [nms_filter, h.nm], fun x hx => h.sr x (List.mem_filter.mp hx).1, fun x hx => h.ln x (List.mem_filter.mp hx).1, fun x hx => h.bd x (List.mem_filter.mp hx).1⟩
theorem CmdOk.sub {v : List (Str × Int)} {ns ms : List Str} {cm : Cmd} (h : CmdOk v ns cm) (hs : ∀ a ∈ ns, a = bins1 cm ∨ (isTwo cm = true ∧ a = bins2 cm) → a ∈ ms) : CmdOk v ms cm := by
  cases cm with
  | putN a n => exact ⟨hs a h.1 (.inl rfl), h.2⟩
  | put a k => exact hs a h (.inl rfl)
  | take a => exact hs a h (.inl rfl)
  | peek a => exact hs a h (.inl rfl)
  | drop a => exact hs a h (.inl rfl)
  | move a b => exact ⟨hs a h.1 (.inl rfl), hs b h.2.1 (.inr ⟨rfl, rfl⟩), h.2.2⟩
  | pour a b => exact ⟨hs a h.1 (.inl rfl), hs b h.2.1 (.inr ⟨rfl, rfl⟩), h.2.2⟩
  | swap a b => exact ⟨hs a h.1 (.inl rfl), hs b h.2.1 (.inr ⟨rfl, rfl⟩), h.2.2⟩
theorem Good.filter {v : List (Str × Int)} {r : List Cmd} {ns : List Str} (G : Good v r ns) : Good v r (ns.filter fun a => decide (a ∈ sortS (binsL r))) where
  nm := G.nm.filter _
  n3 := Nat.le_trans (List.length_filter_le _ _) G.n3
  ok := fun cm hcm => (G.ok cm hcm).sub fun a ha h => List.mem_filter.mpr ⟨ha, by
    rw [decide_eq_true_eq, mem_sortS]
    unfold binsL
    rcases h with e | ⟨h1, e⟩
    · exact List.mem_append.mpr (.inl (List.mem_map.mpr ⟨cm, hcm, e.symm⟩))
    · exact List.mem_append.mpr (.inr (List.mem_map.mpr ⟨cm, List.mem_filter.mpr ⟨hcm, h1⟩, e.symm⟩))⟩
  rl := G.rl
  vn := G.vn
  vl := G.vl
  pp := G.pp
  so := fun x hx => G.so x (List.mem_filter.mp hx).1
theorem Good.run {v : List (Str × Int)} {r : List Cmd} {ns : List Str} {c : Cont} {L : Nat} (G : Good v r ns) (hc : CtOk ns L c) (hL : L ≤ 300) : RunOk v r c :=
  ⟨fun cm h => by have := hc.nm; unfold nms at this; rw [this]; exact G.ok cm h, hc.cont G.nm G.n3 (by omega), by have := G.rl; omega⟩
theorem u__law_same' {d e : Dat} {M : Mh} {Q : Res → Mh → Prop} (he : d = e) (h1 : plD d = true) (h2 : szD d ≤ 290000) (q : Q (.val (.bl true)) M) : wf__law_same [d, e] M Q := by
  subst he
  exact ⟨d, rfl, h1, h2, q⟩
def wf__law_slices_held : WF := fun ds M Q => ∃ (r : List Cmd) (c d : Cont) (v : List (Str × Int)) (ts : List Int) (ns : List Str), ds = [dR r, dC c, dC d, dVs v, .fl (ts.map .int)] ∧ Good v r ns ∧ CtOk ns 100 c ∧ CtOk ns 100 d ∧ below c d = true ∧ ts.length ≤ 4 ∧
  Q (.val (.bl true)) M
def wf__law_pair_held : WF := fun ds M Q => ∃ (r : List Cmd) (c d : Cont) (v : List (Str × Int)) (ns : List Str), ds = [dR r, dC c, dC d, dVs v] ∧ Good v r ns ∧ CtOk ns 100 c ∧ CtOk ns 100 d ∧
  Q (.val (.int (if below c d = true then 2 else 1))) M
def wf_law : WF := fun ds M Q => ∃ (xs : List Int), ds = [.rd (xs.map .int)] ∧ xs.length ≤ 1000 ∧ M = (fun _ => none) ∧ ∀ M', Q (.val (.bl true)) M'
end Lk

/-! L78: what law itself needs. -/
namespace Lk
open PySem PySem.Spec L2
theorem dedupS_nodup (l : List Str) : (dedupS l).Nodup := by
  have aux : ∀ (l acc : List Str), acc.Nodup → (l.foldl (fun acc x => if x ∈ acc then acc else acc ++ [x]) acc).Nodup := fun l => by
    induction l with
    | nil => intro acc h; exact h
    | cons y l ih =>
      intro acc h
      rw [List.foldl_cons]
      refine ih _ ?_
      split
      · exact h
      · rename_i e
        exact List.nodup_append.mpr ⟨h, by simp, fun a ha b hb => by rw [List.mem_singleton.mp hb]; exact fun q => e (q ▸ ha)⟩
  exact aux l [] List.nodup_nil
theorem sortS_nodup (l : List Str) : (sortS l).Nodup := (List.mergeSort_perm (dedupS l) _).nodup_iff.mpr (dedupS_nodup l)
theorem putsN_mem : ∀ {r : List Cmd} {a n : Str}, Cmd.putN a n ∈ r → n ∈ putsN r
  | c :: r, a, n, h => by
    rcases List.mem_cons.mp h with e | e
    · rw [← e]; exact List.mem_cons_self
    · have z := putsN_mem e
      cases c <;> first | exact List.mem_cons_of_mem _ z | exact z
theorem good_of {v : List (Str × Int)} {r : List Cmd} {ns names : List Str} {nums : List Int} (hn : NmOk ns) (h3 : ns.length ≤ 3) (hr : RecOk ns nums names r) (hl : r.length ≤ 20) (hv : nms v = sortS (putsN r)) (hk : NumsOk nums) (so : ∀ x ∈ ns, PyData.strOk x = true) : Good v r ns where
  nm := hn
  n3 := h3
  ok := fun cm hcm => by
    have hb := hr.bn cm hcm
    cases cm with
    | putN a n =>
      refine ⟨hb, _, vget_has (c := v) (a := n) ?_⟩
      rw [hv, mem_sortS]
      exact putsN_mem hcm
    | _ => exact hb
  rl := hl
  vn := by rw [hv]; exact sortS_nodup _
  vl := by
    have h1 := congrArg List.length hv
    have h2 := sortS_len (putsN r)
    have h3 := putsN_len r
    simp at h1
    omega
  pp := fun k hk2 => (hk.2.2 k (hr.pu k hk2)).1
  so := so
theorem CtOk.mono {ns : List Str} {L L' : Nat} {c : Cont} (h : CtOk ns L c) (l : L ≤ L') : CtOk ns L' c := ⟨h.nm, h.sr, fun p hp => Nat.le_trans (h.ln p hp) l, h.bd⟩
theorem CtOk.mixed {ns : List Str} {L : Nat} {c d : Cont} {b : Bool} (h : CtOk ns L c) (k : CtOk ns L d) : CtOk ns L (mixed b c d) where
  nm := by rw [mixed_names (h.len.trans k.len.symm)]; exact h.nm
  sr := mixed_sr h.sr k.sr
  ln := fun p hp => by
    unfold Lk.mixed at hp
    obtain ⟨q, hq, rfl⟩ := List.mem_map.mp hp
    have z := List.of_mem_zip hq
    have h1 := h.ln _ z.1
    have h2 := k.ln _ z.2
    show (mixL b q.1.2 q.2.2).length ≤ L
    rw [mixL_len]
    split <;> omega
  bd := fun p hp x hx => by
    unfold Lk.mixed at hp
    obtain ⟨q, hq, rfl⟩ := List.mem_map.mp hp
    have z := List.of_mem_zip hq
    obtain ⟨i, hi⟩ := List.mem_iff_getElem?.mp hx
    rcases mixL_get hi with ⟨a, c', h1, h2, e⟩ | ⟨_, h1, _⟩ | ⟨_, _, h1⟩
    · have h3 := h.bd _ z.1 a (List.mem_of_getElem? h1)
      have h4 := k.bd _ z.2 c' (List.mem_of_getElem? h2)
      rw [e]
      cases b <;> simp <;> omega
    · exact h.bd _ z.1 x (List.mem_of_getElem? h1)
    · exact k.bd _ z.2 x (List.mem_of_getElem? h1)
def pv (c d : Cont) : Int := if below c d = true then 2 else 1
theorem pv_t {c d : Cont} (h : below c d = true) : pv c d = 2 := if_pos h
theorem pv_f {c d : Cont} (h : below c d = false) : pv c d = 1 := if_neg (by rw [h]; exact Bool.false_ne_true)
theorem pv_0 (c d : Cont) : (pv c d = 0) = False := by
  simp only [eq_iff_iff, iff_false]
  unfold pv
  split <;> omega
theorem u__law_pair_held {r : List Cmd} {c d : Cont} {v : List (Str × Int)} {ns : List Str} {M : Mh} {Q : Res → Mh → Prop} (G : Good v r ns) (hc : CtOk ns 100 c) (hd : CtOk ns 100 d) (q : Q (.val (.int (pv c d))) M) : wf__law_pair_held [dR r, dC c, dC d, dVs v] M Q := ⟨r, c, d, v, ns, rfl, G, hc, hd, q⟩
@[simp ↓] theorem pyIx_3 {α : Type} (xs : List α) : pyIx xs 3 = xs[3]? := pyIx_nat xs 3
@[simp ↓] theorem pyIx_4 {α : Type} (xs : List α) : pyIx xs 4 = xs[4]? := pyIx_nat xs 4
@[simp ↓] theorem pyIx_5 {α : Type} (xs : List α) : pyIx xs 5 = xs[5]? := pyIx_nat xs 5
@[simp ↓] theorem pyIx_6 {α : Type} (xs : List α) : pyIx xs 6 = xs[6]? := pyIx_nat xs 6
@[simp ↓] theorem pyIx_7 {α : Type} (xs : List α) : pyIx xs 7 = xs[7]? := pyIx_nat xs 7
@[simp ↓] theorem pyIx_8 {α : Type} (xs : List α) : pyIx xs 8 = xs[8]? := pyIx_nat xs 8
@[simp ↓] theorem pyIx_9 {α : Type} (xs : List α) : pyIx xs 9 = xs[9]? := pyIx_nat xs 9
/-- one thing more in the bin a -/
def moreC (c : Cont) (a : Str) : Cont := c.map fun p => (p.1, isort (p.2 ++ if p.1 = a then [1000] else []))
theorem moreC_ok {ns : List Str} {L : Nat} {c : Cont} {a : Str} (h : CtOk ns L c) : CtOk ns (L + 1) (moreC c a) where
  nm := by rw [← h.nm]; simp [nms, moreC, Function.comp]
  sr := fun p hp => by
    obtain ⟨q, hq, rfl⟩ := List.mem_map.mp hp
    exact isort_sorted _
  ln := fun p hp => by
    obtain ⟨q, hq, rfl⟩ := List.mem_map.mp hp
    have := h.ln q hq
    show (isort _).length ≤ _
    rw [isort_len, List.length_append]
    split <;> simp <;> omega
  bd := fun p hp x hx => by
    obtain ⟨q, hq, rfl⟩ := List.mem_map.mp hp
    have hx := isort_mem.mp hx
    rcases List.mem_append.mp hx with z | z
    · exact h.bd q hq x z
    · split at z
      · rw [List.mem_singleton.mp z]; omega
      · cases z
theorem moreC_below {c : Cont} {a : Str} (h : SrC c) : below (moreC c a) c = true := below_of fun i p q h1 h2 => by
  unfold moreC at h1
  rw [List.getElem?_map, h2] at h1
  cases h1
  exact lower_row (h q (List.mem_of_getElem? h2)) rfl fun i x y e1 e2 => by rw [e1] at e2; cases e2; exact Int.le_refl _
theorem moreC_not {c : Cont} {p : Str × List Int} (hp : p ∈ c) : below c (moreC c p.1) = false := by
  rw [Bool.eq_false_iff]
  intro h
  obtain ⟨i, hi⟩ := List.mem_iff_getElem?.mp hp
  have h2 : (moreC c p.1)[i]? = some (p.1, isort (p.2 ++ if p.1 = p.1 then [1000] else [])) := by
    unfold moreC
    rw [List.getElem?_map, hi]; rfl
  have z := below_get h hi h2
  unfold belowL at z
  rw [Bool.and_eq_true, decide_eq_true_eq] at z
  have z1 := z.1
  dsimp only at z1
  rw [isort_len, if_pos rfl] at z1
  simp at z1
  omega
/-- in the bin a the row xs, nothing else -/
def onlyC (ns : List Str) (a : Str) (xs : List Int) : Cont := ns.map fun n => (n, if n = a then xs else [])
theorem onlyC_ok {ns : List Str} {a : Str} {xs : List Int} (hs : Sr xs) (hl : xs.length ≤ 60) (hb : ∀ x ∈ xs, -1000 ≤ x ∧ x ≤ 1000) : CtOk ns 60 (onlyC ns a xs) where
  nm := by
    unfold nms onlyC
    rw [List.map_map]
    exact List.map_id ns
  sr := fun p hp => by
    obtain ⟨q, hq, rfl⟩ := List.mem_map.mp hp
    dsimp only
    split
    · exact hs
    · exact List.Pairwise.nil
  ln := fun p hp => by
    obtain ⟨q, hq, rfl⟩ := List.mem_map.mp hp
    dsimp only
    split
    · exact hl
    · exact Nat.zero_le _
  bd := fun p hp x hx => by
    obtain ⟨q, hq, rfl⟩ := List.mem_map.mp hp
    dsimp only at hx
    split at hx
    · exact hb x hx
    · cases hx
theorem onlyC_below {ns : List Str} {a : Str} {xs ys : List Int} (h : belowL xs ys = true) : below (onlyC ns a xs) (onlyC ns a ys) = true := below_of fun i p q h1 h2 => by
  unfold onlyC at h1 h2
  rw [List.getElem?_map] at h1 h2
  cases e : ns[i]? with
  | none => rw [e] at h1; cases h1
  | some n =>
    rw [e] at h1 h2
    cases h1; cases h2
    dsimp only
    split
    · exact h
    · rfl
theorem onlyC_not {ns : List Str} {a : Str} {xs ys : List Int} (ha : a ∈ ns) (h : belowL xs ys = false) : below (onlyC ns a xs) (onlyC ns a ys) = false := by
  rw [Bool.eq_false_iff]
  intro z
  obtain ⟨i, hi⟩ := List.mem_iff_getElem?.mp ha
  have h1 : (onlyC ns a xs)[i]? = some (a, if a = a then xs else []) := by unfold onlyC; rw [List.getElem?_map, hi]; rfl
  have h2 : (onlyC ns a ys)[i]? = some (a, if a = a then ys else []) := by unfold onlyC; rw [List.getElem?_map, hi]; rfl
  have := below_get z h1 h2
  dsimp only at this
  rw [if_pos rfl, if_pos rfl, h] at this
  cases this
def lateL (t : Int) (k : Nat) : List Int := List.replicate k t ++ List.replicate (60 - k) (t + 1)
theorem late_get {t : Int} {k i : Nat} {x : Int} (h : (lateL t k)[i]? = some x) : (i < k ∧ x = t) ∨ (k ≤ i ∧ x = t + 1) := by
  unfold lateL at h
  rcases Nat.lt_or_ge i k with e | e
  · rw [List.getElem?_append_left (by simpa using e), List.getElem?_replicate, if_pos e] at h
    cases h
    exact .inl ⟨e, rfl⟩
  · rw [List.getElem?_append_right (by simpa using e), List.getElem?_replicate] at h
    split at h
    · cases h
      exact .inr ⟨e, rfl⟩
    · cases h
theorem late_len {t : Int} {k : Nat} (h : k ≤ 60) : (lateL t k).length = 60 := by simp [lateL]; omega
theorem late_sr {t : Int} {k : Nat} : Sr (lateL t k) := sr_iff.mpr fun i j x y hij hx hy => by
  rcases late_get hx with ⟨h1, e1⟩ | ⟨h1, e1⟩ <;> rcases late_get hy with ⟨h2, e2⟩ | ⟨h2, e2⟩ <;> omega
theorem long_sr {t : Int} {k : Nat} : Sr (List.replicate k t) := sr_iff.mpr fun i j x y hij hx hy => by
  rw [List.getElem?_replicate] at hx hy
  split at hx <;> split at hy <;> cases hx <;> cases hy <;> first | exact Int.le_refl _ | skip
theorem long_below {t : Int} {k : Nat} (h : k ≤ 60) : belowL (List.replicate 60 t) (lateL t k) = true := belowL_iff'.mpr fun i y hy => by
  have hi := (List.getElem?_eq_some_iff.mp hy).1
  rw [late_len h] at hi
  refine ⟨t, by rw [List.getElem?_replicate, if_pos hi], ?_⟩
  rcases late_get hy with ⟨_, e⟩ | ⟨_, e⟩ <;> omega
theorem late_not {t : Int} {k : Nat} (h : k < 60) : belowL (lateL t k) (List.replicate 60 t) = false := by
  rw [Bool.eq_false_iff]
  intro z
  rw [belowL_iff'] at z
  obtain ⟨x, hx, hl⟩ := z 59 t (by rw [List.getElem?_replicate, if_pos (by omega)])
  rcases late_get hx with ⟨h1, e⟩ | ⟨h1, e⟩ <;> omega
theorem f_sorted_tup {w : World} {M : Mh} {xs : List Int} {Q : MO → Mh → Prop} (q : Q (.lst ((isort xs).map .int)) M) : fSorted w (.tup (xs.map .int)) M Q := ⟨sortOk_ints _, by rw [sortD_ints]; exact q⟩
theorem u_between {a b c : Cont} {M : Mh} {Q : Res → Mh → Prop} (h1 : ContOk a 10000) (h2 : ContOk b 10000) (h3 : ContOk c 10000) (q : Q (.val (.bl (below a b && below b c))) M) : wf_between [dC a, dC b, dC c] M Q := ⟨a, b, c, rfl, h1, h2, h3, q⟩
theorem u__law_below {c d : Cont} {M : Mh} {Q : Res → Mh → Prop} (hl : c.length = d.length) (h1 : ContOk c 10000) (h2 : ContOk d 10000) (q : Q (.val (.bl (below c d))) M) : wf__law_below [dC c, dC d] M Q := ⟨c, d, _, _, rfl, hl, h1, Nat.le_refl _, h2, Nat.le_refl _, q⟩
theorem f_rep1 {t k : Int} {M : Mh} {Q : MO → Mh → Prop} (h0 : 0 ≤ k) (h1 : k ≤ 1000) (q : Q (.lst ((List.replicate k.toNat t).map .int)) M) : fRepL (.fl [.int t]) (.int k) M Q := by
  have hz := sizeLine_eq
  refine ⟨[.int t], k, rfl, rfl, by omega, by omega, by simp; omega, ?_⟩
  rw [List.map_replicate] at q
  rw [List.flatten_replicate_singleton]
  exact q
theorem u_order_kept {r : List Cmd} {bs : List Cont} {v : List (Str × Int)} {M : Mh} {Q : Res → Mh → Prop} (h : ∀ c ∈ bs, RunOk v r c) (q : Q (.val (.bl (bs.all fun c => bs.all fun d => !below c d || keeps v r c d))) M) : wf_order_kept [dR r, .tup (bs.map dC), dVs v] M Q := ⟨r, bs, dVs v, v, rfl, rfl, h, q⟩
theorem all_kept {r : List Cmd} {bs : List Cont} {v : List (Str × Int)} {ns : List Str} (G : Good v r ns) (h : ∀ c ∈ bs, CtOk ns 100 c) : (bs.all fun c => bs.all fun d => !below c d || keeps v r c d) = true := by
  rw [List.all_eq_true]
  intro c hc
  rw [List.all_eq_true]
  intro d hd
  cases e : below c d with
  | false => rfl
  | true =>
    have k1 := h c hc
    have k2 := h d hd
    rw [keeps_of k1.sr k2.sr (k1.nm.trans k2.nm.symm) (k1.nm.symm ▸ G.nm.1) (fun cm hcm => by rw [k1.nm]; exact (G.ok cm hcm).bins) e]
    rfl
theorem u__law_slices_held {r : List Cmd} {c d : Cont} {v : List (Str × Int)} {ts : List Int} {ns : List Str} {M : Mh} {Q : Res → Mh → Prop} (G : Good v r ns) (hc : CtOk ns 100 c) (hd : CtOk ns 100 d) (hb : below c d = true) (hl : ts.length ≤ 4) (q : Q (.val (.bl true)) M) : wf__law_slices_held [dR r, dC c, dC d, dVs v, .fl (ts.map .int)] M Q := ⟨r, c, d, v, ts, ns, rfl, G, hc, hd, hb, hl, q⟩
end Lk

namespace Law
open PySem PySem.Spec L2 Lk
section
variable {P : Program} {w : World} {K : PySem.W.Frag} {mg : Str → Option Value} {base : Heap}
abbrev s__law_draws : Stmt := top 48
abbrev N__law_draws : List Str := ["script", "salt", "many", "cell", "rest", "mixed", "draws", "k"]
theorem sc__law_draws : FnScope N__law_draws ["script", "salt", "many"] (defScope s__law_draws) := ⟨rfl, rfl, rfl, by decide +kernel, rfl, by decide +kernel, by decide +kernel⟩
theorem d__law_draws (D : Def K mg "_law_draws" s__law_draws ["script", "salt", "many"]) (T : Txt mg)  : Has P w K mg base "_law_draws" 1 3 wf__law_draws := by
  refine has_def 3 D sc__law_draws rfl (fun f cdv A outer s H E hr => (dss_cons (ds_set' (ps_set (i := 3) sc__law_draws.nd rfl (Or.inl rfl) (de_ite (dt_gt (de_len rfl T.no_len (da_cons (de_var (pv 0)) da_nil)) de_int) (de_ix (hu_of hr) (de_var (pv 0)) (de_mod (de_mul (de_var (pv 1)) de_int) (de_len rfl T.no_len (da_cons (de_var (pv 0)) da_nil)))) (de_add (de_var (pv 1)) de_int)))) (dss_cons (ds_set' (ps_set (i := 3) sc__law_draws.nd rfl (Or.inl rfl) (de_ite (dt_lt (de_var (pv 3)) de_int) (de_neg (de_var (pv 3))) (de_var (pv 3))))) (dss_cons (ds_set' (ps_set (i := 4) sc__law_draws.nd rfl (Or.inl rfl) (de_ite (dt_ge (de_var (pv 3)) (de_pow de_int de_int)) (de_var (pv 3)) de_int))) (dss_cons (ds_set' (ps_set (i := 5) sc__law_draws.nd rfl (Or.inl rfl) (de_mod (de_intOf rfl T.no_int (da_cons (de_add (de_add (de_mul (de_var (pv 3)) de_int) (de_mul (de_var (pv 1)) de_int)) de_int) da_nil)) de_int))) (dss_cons (ds_setNew' (ps_set (i := 6) sc__law_draws.nd rfl (Or.inl rfl) (dn_lst da_nil))) (dss_cons (ds_for PassesOwn.never rfl (di_range1 rfl T.no_range (de_var (pv 2))) (dg_name (pg_name (i := 7) sc__law_draws.nd rfl (Or.inl rfl))) (dss_cons (ds_set' (ps_set (i := 5) sc__law_draws.nd rfl (Or.inl rfl) (de_mod (de_intOf rfl T.no_int (da_cons (de_add (de_add (de_mul (de_var (pv 5)) de_int) (de_mul (de_var (pv 7)) de_int)) de_int) da_nil)) de_int))) (dss_one (ds_if (dt_gt (de_var (pv 4)) de_int) (dss_cons (ds_expr (de_append (de_var (pv 6)) (da_cons (de_mod (de_intOf rfl T.no_int (da_cons (de_var (pv 4)) da_nil)) de_int) da_nil))) (dss_one (ds_set' (ps_set (i := 4) sc__law_draws.nd rfl (Or.inl rfl) (de_fdiv (de_var (pv 4)) de_int))))) (dss_one (ds_expr (de_append (de_var (pv 6)) (da_cons (de_fdiv (de_var (pv 5)) de_int) da_nil)))))))) (dss_one (ds_retNew (dn_revL (de_var (pv 6)))))))))))) ?_
  intro ds M Q hn h
  obtain ⟨xs, rfl, hl, q⟩ := h
  have hz := sizeLine_eq
  refine seq_step fun D0 hn0 _ => ?_
  have key : ∀ c : Int, D0.nx ⟨[some (.rd (xs.map .int)), some (.int 1), some (.int 1200), some (.int c), none, none, none, none], M⟩ := fun c0 => by
    refine hn0 _ (seq_step fun D1 hn1 _ => ?_)
    have key1 : ∀ c : Int, D1.nx ⟨[some (.rd (xs.map .int)), some (.int 1), some (.int 1200), some (.int c), none, none, none, none], M⟩ := fun c => by
      refine hn1 _ (seq_step fun D2 hn2 _ => ?_)
      have key2 : ∀ x : Int, D2.nx ⟨[some (.rd (xs.map .int)), some (.int 1), some (.int 1200), some (.int c), some (.int x), none, none, none], M⟩ := fun x => by
        refine hn2 _ ?_
        simp [wSetNew, CMul]
        intro p hp
        simp [wFor, wRange1]
        refine ⟨by unfold RB; omega, ?_⟩
        refine forR_ind (I := fun k S => ∃ (e4 e5 : Int) (e7 : Option Dat) (ys : List Int), S = ⟨[some (.rd (xs.map .int)), some (.int 1), some (.int 1200), some (.int c), some (.int e4), some (.int e5), some (.ref p), e7], updM M p (Pl ys)⟩ ∧ ys.length = k) ?_ ?_ _ ⟨_, _, none, [], rfl, rfl⟩
        · rintro S ⟨e4, e5, e7, ys, rfl, hy⟩
          simp [wRevL]
          refine endsU hp ?_
          have z := q ys.reverse (by simpa using hy)
          simpa [List.map_reverse] using z
        · rintro k S hk ⟨e4, e5, e7, ys, rfl, hy⟩ N hN
          simp [CMul, CDiv]
          by_cases h4 : 0 < e4
          · simp only [if_pos h4]
            refine ⟨by omega, nxt (hN _ ⟨_, _, _, ys ++ [e4 % 9973], by simp only [Pl, List.map_append, List.map_cons, List.map_nil]; rfl, by simp; omega⟩)⟩
          · simp only [if_neg h4]
            refine ⟨by omega, nxt (hN _ ⟨_, _, _, ys ++ [(e5 * 39373 + (k : Int) * 51787 + 7129) % 2147483587 / 32768], by simp only [Pl, List.map_append, List.map_cons, List.map_nil]; rfl, by simp; omega⟩)⟩
      simp [CPow]
      split <;> exact key2 _
    simp
    split <;> exact key1 _
  simp [CMul]
  split
  · rename_i h0
    refine ⟨h0, ?_⟩
    obtain ⟨i, hi⟩ := Int.eq_ofNat_of_zero_le (Int.emod_nonneg 3 (b := (xs.length : Int)) (by omega))
    have hlt := Int.emod_lt_of_pos 3 (b := (xs.length : Int)) (by omega)
    rw [hi] at hlt ⊢
    refine ⟨.int xs[i], ?_, key _⟩
    rw [pyIx_nat, List.getElem?_map, List.getElem?_eq_getElem (by omega)]
    rfl
  · exact key _
abbrev s__law_bins_of : Stmt := top 56
abbrev N__law_bins_of : List Str := ["recipe", "told", ".0", "command"]
theorem sc__law_bins_of : FnScope N__law_bins_of ["recipe"] (defScope s__law_bins_of) := ⟨rfl, rfl, rfl, by decide +kernel, rfl, by decide +kernel, by decide +kernel⟩
theorem d__law_bins_of (D : Def K mg "_law_bins_of" s__law_bins_of ["recipe"]) (T : Txt mg)  : Has P w K mg base "_law_bins_of" 1 1 wf__law_bins_of := by
  refine has_def 1 D sc__law_bins_of rfl (fun f cdv A outer s H E hr => (dss_cons (ds_set' (ps_set (i := 1) sc__law_bins_of.nd rfl (Or.inl rfl) (de_fz (dn_catL (de_fz (dn_comp (own := [(".0", 2), ("command", 3)]) rfl sc__law_bins_of.nd (di_val (de_var (pv 0))) (blkOk_by (N := N__law_bins_of) (sc := defScope s__law_bins_of) (by decide +kernel)) (fun _ _ _ _ _ => (dgc_name (pg_name (i := 3) sc__law_bins_of.nd rfl (Or.inl rfl)) (by decide))) (fun _ _ _ _ _ => dts_nil) (fun _ _ _ _ _ => (de_ix (hu_of hr) (de_var (pv 3)) de_int)))) (de_fz (dn_comp (own := [(".0", 2), ("command", 3)]) rfl sc__law_bins_of.nd (di_val (de_var (pv 0))) (blkOk_by (N := N__law_bins_of) (sc := defScope s__law_bins_of) (by decide +kernel)) (fun _ _ _ _ _ => (dgc_name (pg_name (i := 3) sc__law_bins_of.nd rfl (Or.inl rfl)) (by decide))) (fun _ _ _ _ _ => (dts_one (dt_in (hu_of hr) (de_ix (hu_of hr) (de_var (pv 3)) de_int) (de_fz (dn_lst (da_cons de_str (da_cons de_str (da_cons de_str da_nil)))))))) (fun _ _ _ _ _ => (de_ix (hu_of hr) (de_var (pv 3)) de_int)))))))) (dss_one (ds_retNew (dn_sorted (w := w) rfl (hu66 hr) rfl T.no_sorted (da_cons (de_new (dn_set (w := w) rfl rfl T.no_set (da_cons (de_var (pv 1)) da_nil))) da_nil)))))) ?_
  intro ds M Q hn h
  obtain ⟨r, rfl, hl, q⟩ := h
  have hz := sizeLine_eq
  have hb : scanBound = 4096 := rfl
  simp [dR, wComp, wipeD]
  refine ⟨by omega, compL_map (fun c => .str (bins1 c)) r (fun c hc Q1 q1 => ?_) ?_⟩
  · cases c <;> simpa [dCmd, bins1] using q1
  refine ⟨by omega, compL_pure isTwo (fun c => .str (bins2 c)) r [] (fun c hc Q1 Q2 h1 h2 => ?_) ?_⟩
  · cases c <;> simp [dCmd, isTwo, bins2] at h1 h2 ⊢ <;> first | exact h1 | exact h2
  rw [List.nil_append]
  have e : (r.map fun c => Dat.str (bins1 c)) ++ (r.filter isTwo).map (fun c => Dat.str (bins2 c)) = (binsL r).map .str := by
    unfold binsL
    rw [List.map_append, List.map_map, List.map_map]
    rfl
  have hlen : (r.filter isTwo).length ≤ r.length := List.length_filter_le _ _
  refine ⟨by simp; omega, ?_⟩
  rw [e]
  refine ⟨_, _, rfl, keysOf_strs _, by simp [binsL]; omega, fun p hp => f_sorted_setS (endsU hp q)⟩
abbrev s__law_run : Stmt := top 57
abbrev N__law_run : List Str := ["recipe", "contents", "values", "held", "given", "told", "name", "things", "command", "word", "a", "b", ".0"]
theorem sc__law_run : FnScope N__law_run ["recipe", "contents", "values"] (defScope s__law_run) := ⟨rfl, rfl, rfl, by decide +kernel, rfl, by decide +kernel, by decide +kernel⟩
theorem d__law_run (D : Def K mg "_law_run" s__law_run ["recipe", "contents", "values"]) (T : Txt mg)  : Has P w K mg base "_law_run" 1 3 wf__law_run := by
  refine has_def 3 D sc__law_run rfl (fun f cdv A outer s H E hr => (dss_cons (ds_asg (de_tup (da_cons (de_new dn_dict0) (da_cons (de_new (dn_dict rfl rfl T.no_dict (da_cons (de_var (pv 2)) da_nil))) (da_cons (de_new (dn_lst da_nil)) da_nil)))) (dg_tup (n := 3) rfl (dgs_cons (dg_name (pg_name (i := 3) sc__law_run.nd rfl (Or.inr rfl))) (dgs_cons (dg_name (pg_name (i := 4) sc__law_run.nd rfl (Or.inl rfl))) (dgs_cons (dg_name (pg_name (i := 5) sc__law_run.nd rfl (Or.inl rfl))) dgs_nil))))) (dss_cons (ds_for PassesOwn.never rfl (di_val (de_var (pv 1))) (dg_tup (n := 2) rfl (dgs_cons (dg_name (pg_name (i := 6) sc__law_run.nd rfl (Or.inl rfl))) (dgs_cons (dg_name (pg_name (i := 7) sc__law_run.nd rfl (Or.inl rfl))) dgs_nil))) (dss_one (ds_asg (de_fz (dn_lstOf rfl T.no_list (da_cons (de_var (pv 7)) da_nil))) (dg_set (hu_of hr) (de_var (pv 3)) (de_var (pv 6)))))) (dss_cons (ds_for PassesOwn.never rfl (di_val (de_var (pv 0))) (dg_name (pg_name (i := 8) sc__law_run.nd rfl (Or.inl rfl))) (dss_cons (ds_par3 (i := 9) (j := 10) (l := 11) rfl sc__law_run.nd rfl rfl rfl (by decide) (by decide) (by decide) rfl rfl rfl (da_cons (de_ix (hu_of hr) (de_var (pv 8)) de_int) (da_cons (de_ix (hu_of hr) (de_var (pv 8)) de_int) (da_cons (de_ix (hu_of hr) (de_var (pv 8)) (de_sub (de_len rfl T.no_len (da_cons (de_var (pv 8)) da_nil)) de_int)) da_nil))) rfl) (dss_one (ds_if (dt_eq (hr.units) (de_var (pv 9)) de_str) (dss_one (ds_asg (de_fz (dn_sorted (w := w) rfl (hu66 hr) rfl T.no_sorted (da_cons (de_fz (dn_catL (de_ix (hu_of hr) (de_var (pv 3)) (de_var (pv 10))) (de_fz (dn_lst (da_cons (de_ite (dt_val (de_isi (n := .S) rfl T.no_isinstance (de_var (pv 11)) rfl T.no_str (by decide +kernel) (by decide) (by decide))) (de_ix (hu_of hr) (de_var (pv 4)) (de_var (pv 11))) (de_var (pv 11))) da_nil))))) da_nil))) (dg_set (hu_of hr) (de_var (pv 3)) (de_var (pv 10))))) (dss_one (ds_if (dt_eq (hr.units) (de_var (pv 9)) de_str) (dss_cons (ds_asg (de_fz (dn_sorted (w := w) rfl (hu66 hr) rfl T.no_sorted (da_cons (de_fz (dn_catL (de_ix (hu_of hr) (de_var (pv 3)) (de_var (pv 11))) (de_ix (hu_of hr) (de_var (pv 3)) (de_var (pv 10))))) da_nil))) (dg_set (hu_of hr) (de_var (pv 3)) (de_var (pv 11)))) (dss_one (ds_asg (de_fz (dn_lst da_nil)) (dg_set (hu_of hr) (de_var (pv 3)) (de_var (pv 10)))))) (dss_one (ds_if (dt_eq (hr.units) (de_var (pv 9)) de_str) (dss_one (ds_asg (de_tup (da_cons (de_ix (hu_of hr) (de_var (pv 3)) (de_var (pv 11))) (da_cons (de_ix (hu_of hr) (de_var (pv 3)) (de_var (pv 10))) da_nil))) (dg_tup (n := 2) rfl (dgs_cons (dg_set (hu_of hr) (de_var (pv 3)) (de_var (pv 10))) (dgs_cons (dg_set (hu_of hr) (de_var (pv 3)) (de_var (pv 11))) dgs_nil))))) (dss_cons (ds_if (dt_in (hu_of hr) (de_var (pv 9)) (de_fz (dn_lst (da_cons de_str (da_cons de_str da_nil))))) (dss_one (ds_expr (de_append (de_var (pv 5)) (da_cons (de_ite (dt_gt (de_len rfl T.no_len (da_cons (de_ix (hu_of hr) (de_var (pv 3)) (de_var (pv 10))) da_nil)) de_int) (de_ix (hu_of hr) (de_ix (hu_of hr) (de_var (pv 3)) (de_var (pv 10))) de_int) de_non) da_nil)))) dss_nil) (dss_cons (ds_if (dt_eq (hr.units) (de_var (pv 9)) de_str) (dss_one (ds_asg (de_fz (dn_sorted (w := w) rfl (hu66 hr) rfl T.no_sorted (da_cons (de_fz (dn_catL (de_ix (hu_of hr) (de_var (pv 3)) (de_var (pv 11))) (de_fz (dn_slice (de_ix (hu_of hr) (de_var (pv 3)) (de_var (pv 10))) do_none (do_some de_int))))) da_nil))) (dg_set (hu_of hr) (de_var (pv 3)) (de_var (pv 11))))) dss_nil) (dss_one (ds_if (dt_ne (hr.units) (de_var (pv 9)) de_str) (dss_one (ds_asg (de_fz (dn_slice (de_ix (hu_of hr) (de_var (pv 3)) (de_var (pv 10))) (do_some de_int) do_none)) (dg_set (hu_of hr) (de_var (pv 3)) (de_var (pv 10))))) dss_nil)))))))))))) (dss_one (ds_ret (de_tup (da_cons (de_tupOf rfl T.no_tuple (da_cons (de_var (pv 5)) da_nil)) (da_cons (de_tupOf rfl T.no_tuple (da_cons (de_fz (dn_comp (own := [(".0", 12), ("name", 6)]) rfl sc__law_run.nd (di_val (de_fz (dn_sorted (w := w) rfl (hu66 hr) rfl T.no_sorted (da_cons (de_var (pv 3)) da_nil)))) (blkOk_by (N := N__law_run) (sc := defScope s__law_run) (by decide +kernel)) (fun _ _ _ _ _ => (dgc_name (pg_name (i := 6) sc__law_run.nd rfl (Or.inl rfl)) (by decide))) (fun _ _ _ _ _ => dts_nil) (fun _ _ _ _ _ => (de_tup (da_cons (de_var (pv 6)) (da_cons (de_tupOf rfl T.no_tuple (da_cons (de_ix (hu_of hr) (de_var (pv 3)) (de_var (pv 6))) da_nil)) da_nil)))))) da_nil)) da_nil))))))))) ?_
  intro ds M Q hn h
  obtain ⟨r, c, v, rfl, ok, sr, nm, vn, vl, q⟩ := h
  have hz := sizeLine_eq
  have hcl := ok.cont.ln
  have hcm := ok.cont.sm
  have hrl := ok.len
  simp [wSetNew]
  intro ph hph
  refine f_dict vn fun pg hpg pt hpt => ?_
  obtain ⟨hne1, hMg⟩ := new_ne hpg
  obtain ⟨hne3, hMt2⟩ := new_ne hpt
  obtain ⟨hne2, hMt⟩ := new_ne hMt2
  have hM0 : updM (updM (updM M ph (.dk [])) pg (dkG .int v)) pt (.lst []) = M3h M ph pg pt [] v [] := rfl
  rw [hM0]
  have hLe : ∀ c T, LeM M (M3h M ph pg pt c v T) := fun c T => ((LeM.upd hph).updr hMg).updr hMt
  rw [dC_enc]
  simp [wFor]
  refine forL_ind (I := fun l S => ∃ (e6 e7 e8 e9 e10 e11 e12 : Option Dat) (d : Cont), S = ⟨[some (dR r), some (.tup (c.map encP)), some (dVs v), some (.ref ph), some (.ref pg), some (.ref pt), e6, e7, e8, e9, e10, e11, e12], M3h M ph pg pt d v []⟩ ∧ d ++ l = c) ?_ ?_ c _ ⟨none, none, none, none, none, none, none, [], rfl, rfl⟩
  · rintro S ⟨e6, e7, e8, e9, e10, e11, e12, d, rfl, e⟩
    simp at e
    subst e
    simp [dR]
    refine forL_ind (I := fun l S => ∃ (e6 e7 e8 e9 e10 e11 e12 : Option Dat) (c : Cont) (told : List (Option Int)), S = ⟨[some (dR r), some (.tup (d.map encP)), some (dVs v), some (.ref ph), some (.ref pg), some (.ref pt), e6, e7, e8, e9, e10, e11, e12], M3h M ph pg pt c v (told.map dO)⟩ ∧ SrC c ∧ nms c = nms d ∧ (∀ cm ∈ l, CmdOk v (nms d) cm) ∧ ContOk c (10000 - l.length) ∧ told.length + l.length ≤ 10000 ∧ told ++ (Lk.run v l c).1 = (Lk.run v r d).1 ∧ (Lk.run v l c).2 = (Lk.run v r d).2) ?_ ?_ r _ ⟨e6, e7, e8, e9, e10, e11, e12, d, [], rfl, sr, rfl, ok.ok, ⟨ok.cont.nd, by omega, hcl⟩, by simp; omega, rfl, rfl⟩
    · rintro S ⟨e6, e7, e8, e9, e10, e11, e12, c, told, rfl, hs, hn2, _, hc2, _, h1, h2⟩
      simp [Lk.run] at h1 h2
      simp [wComp, wipeD, seqOf, lstOf, M3h_t]
      refine f_sorted_dk (f := flI) (c := c) (M3h_h hne1 hne2) (by rw [hn2]; exact nm.2) ⟨_, rfl, ?_⟩
      simp
      have := hc2.ln
      refine ⟨by omega, ?_⟩
      have es : (Dat.str ∘ fun x : Str × List Int => x.1) = fun p : Str × List Int => Dat.str p.1 := rfl
      rw [es]
      refine compL_map (enc := fun p : Str × List Int => Dat.str p.1) encP c (fun p hp Q1 q1 => ?_) ⟨M, hLe _ _, ?_⟩
      · have ha : p.1 ∈ nms c := List.mem_map.mpr ⟨p, hp, rfl⟩
        simp [M3h_ix hne1 hne2 ha, flI]
        have e : (getc c p.1).getD [] = p.2 := by rw [getc_mem hc2.nd hp]; rfl
        rw [e]
        exact q1
      · rw [← h1, ← h2] at q
        exact q
    · rintro cm l S ⟨e6, e7, e8, e9, e10, e11, e12, c, told, rfl, hs, hn2, hcm2, hc2, hl2, h1, h2⟩ N hN
      have ok1 := hcm2 cm List.mem_cons_self
      rw [← hn2] at ok1
      have ks := step_ok hc2 ok1
      have hl3 := fun a => SrC.get (a := a) hs
      have hlen : ∀ a, ((getc c a).getD []).length ≤ 10000 := fun a => by
        cases e : getc c a with
        | none => simp
        | some xs => have := get_le e; have := hc2.sm; simp; omega
      have hcl3 : c.length ≤ 1000 := hc2.ln
      have htl : told.length < 16777216 := by omega
      simp at hl2
      have fin : ∀ (c' : Cont) (T : List Dat), c' = (Lk.step v c cm).1 → T = (told ++ (if (Lk.step v c cm).2.1 then [(Lk.step v c cm).2.2] else [])).map dO → ∀ (e6 e7 e8 e9 e10 e11 e12 : Option Dat), ∃ S0, Imp ⟨[some (dR r), some (.tup (d.map encP)), some (dVs v), some (.ref ph), some (.ref pg), some (.ref pt), e6, e7, e8, e9, e10, e11, e12], M3h M ph pg pt c' v T⟩ S0 ∧ N S0 := fun c' T e1 e2 e6 e7 e8 e9 e10 e11 e12 => by
        subst e1 e2
        refine nxt (hN _ ⟨e6, e7, e8, e9, e10, e11, e12, _, _, rfl, step_sr hs, ks.2.trans hn2, fun cm' h' => hcm2 cm' (List.mem_cons_of_mem _ h'), ?_, ?_, ?_, ?_⟩)
        · have : 10000 - (cm :: l).length + 1 = 10000 - l.length := by simp; omega
          rw [← this]
          exact ks.1
        · rw [List.length_append]
          split <;> simp <;> omega
        · rw [← h1]
          simp [Lk.run]
        · rw [← h2]
          simp [Lk.run]
      have hin : ∀ {a}, a ∈ nms c → (getc c a) = some ((getc c a).getD []) := fun ha => by
        obtain ⟨xs, hx⟩ := has_get ha
        rw [hx]; rfl
      cases cm with
      | put a k =>
        have ha : a ∈ nms c := ok1
        have := hlen a
        simp [dCmd, M3h_ix hne1 hne2 ha, flI, isTag]
        refine ⟨by omega, f_sorted_app1 ⟨_, rfl, M3h_set hne1 hne2 ha hcl3 (fin _ _ ?_ ?_ _ _ _ _ _ _ _)⟩⟩
        · rw [sIns_isort (hl3 a)]; rfl
        · simp [Lk.step]
      | putN a n =>
        obtain ⟨ha, i, hi⟩ : a ∈ nms c ∧ ∃ i, vget v n = some i := ok1
        have := hlen a
        simp [dCmd, M3h_ix hne1 hne2 ha, flI, isTag, M3h_val hne3 hi]
        refine ⟨by omega, f_sorted_app1 ⟨_, rfl, M3h_set hne1 hne2 ha hcl3 (fin _ _ ?_ ?_ _ _ _ _ _ _ _)⟩⟩
        · rw [sIns_isort (hl3 a)]; simp [Lk.step, hi]
        · simp [Lk.step]
      | take a =>
        have ha : a ∈ nms c := ok1
        simp [dCmd, M3h_ix hne1 hne2 ha, flI, isTag, M3h_isL]
        cases e : (getc c a).getD [] with
        | nil =>
          simp
          refine M3h_app (by simp; omega) ?_
          simp [M3h_ix hne1 hne2 ha, flI, e]
          exact M3h_set (xs := []) hne1 hne2 ha hcl3 (fin _ _ (by simp [Lk.step, e]) (by simp [Lk.step, e, dO]) _ _ _ _ _ _ _)
        | cons x xs =>
          simp
          refine M3h_app (by simp; omega) ?_
          simp [M3h_ix hne1 hne2 ha, flI, e]
          exact M3h_set (xs := xs) hne1 hne2 ha hcl3 (fin _ _ (by simp [Lk.step, e]) (by simp [Lk.step, e, dO]) _ _ _ _ _ _ _)
      | peek a =>
        have ha : a ∈ nms c := ok1
        simp [dCmd, M3h_ix hne1 hne2 ha, flI, isTag, M3h_isL]
        cases e : (getc c a).getD [] with
        | nil =>
          simp
          exact M3h_app (by simp; omega) (fin _ _ (by simp [Lk.step]) (by simp [Lk.step, e, dO]) _ _ _ _ _ _ _)
        | cons x xs =>
          simp
          exact M3h_app (by simp; omega) (fin _ _ (by simp [Lk.step]) (by simp [Lk.step, e, dO]) _ _ _ _ _ _ _)
      | drop a =>
        have ha : a ∈ nms c := ok1
        simp [dCmd, M3h_ix hne1 hne2 ha, flI, isTag, M3h_isL]
        rw [← List.map_tail]
        exact M3h_set hne1 hne2 ha hcl3 (fin _ _ (by simp [Lk.step]) (by simp [Lk.step]) _ _ _ _ _ _ _)
      | move a b =>
        obtain ⟨ha, hb, hne⟩ : a ∈ nms c ∧ b ∈ nms c ∧ a ≠ b := ok1
        have l1 := hlen a
        have l2 := hlen b
        simp [dCmd, M3h_ix hne1 hne2 ha, M3h_ix hne1 hne2 hb, flI, isTag, M3h_isL]
        have e1 : cutD (((getc c a).getD []).map Dat.int) none (some 1) = (((getc c a).getD []).take 1).map .int := by
          have := cutD_hi (((getc c a).getD []).map Dat.int) 1
          rw [List.map_take]; exact this
        have i2 : ∀ X, ixOf (M3h M ph pg pt (setc c b X) v (told.map dO)) (.ref ph) (.str a) = some (flI ((getc c a).getD [])) := fun X => by
          rw [M3h_ix hne1 hne2 (by rw [show nms (setc c b X) = nms c from setc_names]; exact ha), getc_setc, if_neg hne]
        rw [e1]
        refine ⟨by simp; omega, f_sorted_app ⟨_, rfl, M3h_set hne1 hne2 hb hcl3 ?_⟩⟩
        simp only [i2]
        refine ⟨_, rfl, _, rfl, ?_⟩
        rw [← List.map_tail]
        refine M3h_set hne1 hne2 (by rw [show nms (setc c b _) = nms c from setc_names]; exact ha) (by simpa using hcl3) (fin _ _ ?_ (by simp [Lk.step]) _ _ _ _ _ _ _)
        have sb := hl3 b
        cases e : (getc c a).getD [] with
        | nil =>
          simp [Lk.step, e]
          rw [isort_self sb, setc_self hc2.nd (hin hb), setc_self hc2.nd (by rw [hin ha, e])]
        | cons x xs =>
          simp [Lk.step, e]
          rw [sIns_isort sb, setc_comm hne]
      | pour a b =>
        obtain ⟨ha, hb, hne⟩ : a ∈ nms c ∧ b ∈ nms c ∧ a ≠ b := ok1
        have l1 := hlen a
        have l2 := hlen b
        simp [dCmd, M3h_ix hne1 hne2 ha, M3h_ix hne1 hne2 hb, flI, isTag, M3h_isL]
        refine ⟨by omega, f_sorted_app ⟨_, rfl, M3h_set hne1 hne2 hb hcl3 ?_⟩⟩
        refine M3h_set (xs := []) hne1 hne2 (by rw [show nms (setc c b _) = nms c from setc_names]; exact ha) (by simpa using hcl3) (fin _ _ ?_ (by simp [Lk.step]) _ _ _ _ _ _ _)
        simp only [Lk.step]
        rw [setc_comm hne, isort_perm List.perm_append_comm]
      | swap a b =>
        obtain ⟨ha, hb, hne⟩ : a ∈ nms c ∧ b ∈ nms c ∧ a ≠ b := ok1
        simp [dCmd, M3h_ix hne1 hne2 ha, M3h_ix hne1 hne2 hb, flI, isTag, M3h_isL]
        refine M3h_set hne1 hne2 ha hcl3 (M3h_set hne1 hne2 (by rw [show nms (setc c a _) = nms c from setc_names]; exact hb) (by simpa using hcl3) (fin _ _ (by simp [Lk.step]) (by simp [Lk.step]) _ _ _ _ _ _ _))
  · rintro ⟨n, xs⟩ l S ⟨e6, e7, e8, e9, e10, e11, e12, d, rfl, e⟩ N hN
    have hnd : n ∉ nms d := fun z => by
      have := ok.cont.nd
      rw [← e, List.map_append, List.nodup_append] at this
      exact this.2.2 _ z _ (by simp) rfl
    have hdl : d.length ≤ 1000 := by have := congrArg List.length e; simp at this; omega
    simp [encP, dI]
    exact M3h_new hne1 hne2 hnd hdl (nxt (hN _ ⟨_, _, _, _, _, _, _, d ++ [(n, xs)], rfl, by simpa using e⟩))
abbrev s__law_count : Stmt := top 58
abbrev N__law_count : List Str := ["recipe", "limit", "lot", "counts", "held", "bits", "command", "word", "a", "b", ".0", "name"]
theorem sc__law_count : FnScope N__law_count ["recipe", "limit", "lot", "counts"] (defScope s__law_count) := ⟨rfl, rfl, rfl, by decide +kernel, rfl, by decide +kernel, by decide +kernel⟩
theorem d__law_count (D : Def K mg "_law_count" s__law_count ["recipe", "limit", "lot", "counts"]) (T : Txt mg)  : Has P w K mg base "_law_count" 1 4 wf__law_count := by
  refine has_def 4 D sc__law_count rfl (fun f cdv A outer s H E hr => (dss_cons (ds_asg (de_tup (da_cons (de_new (dn_dict rfl rfl T.no_dict (da_cons (de_var (pv 3)) da_nil))) (da_cons (de_new (dn_lst da_nil)) da_nil))) (dg_tup (n := 2) rfl (dgs_cons (dg_name (pg_name (i := 4) sc__law_count.nd rfl (Or.inr rfl))) (dgs_cons (dg_name (pg_name (i := 5) sc__law_count.nd rfl (Or.inl rfl))) dgs_nil)))) (dss_cons (ds_for PassesOwn.never rfl (di_val (de_var (pv 0))) (dg_name (pg_name (i := 6) sc__law_count.nd rfl (Or.inl rfl))) (dss_cons (ds_par3 (i := 7) (j := 8) (l := 9) rfl sc__law_count.nd rfl rfl rfl (by decide) (by decide) (by decide) rfl rfl rfl (da_cons (de_ix (hu_of hr) (de_var (pv 6)) de_int) (da_cons (de_ix (hu_of hr) (de_var (pv 6)) de_int) (da_cons (de_ix (hu_of hr) (de_var (pv 6)) (de_sub (de_len rfl T.no_len (da_cons (de_var (pv 6)) da_nil)) de_int)) da_nil))) rfl) (dss_one (ds_if (dt_eq (hr.units) (de_var (pv 7)) de_str) (dss_one (ds_asg (de_add (de_ix (hu_of hr) (de_var (pv 4)) (de_var (pv 8))) (de_ite (dt_ite (dt_val (de_isi (n := .S) rfl T.no_isinstance (de_var (pv 9)) rfl T.no_str (by decide +kernel) (by decide) (by decide))) (dt_in (hu_of hr) (de_var (pv 9)) (de_var (pv 2))) (dt_le (de_var (pv 9)) (de_var (pv 1)))) de_int de_int)) (dg_set (hu_of hr) (de_var (pv 4)) (de_var (pv 8))))) (dss_one (ds_if (dt_eq (hr.units) (de_var (pv 7)) de_str) (dss_cons (ds_asg (de_add (de_ix (hu_of hr) (de_var (pv 4)) (de_var (pv 9))) (de_ix (hu_of hr) (de_var (pv 4)) (de_var (pv 8)))) (dg_set (hu_of hr) (de_var (pv 4)) (de_var (pv 9)))) (dss_one (ds_asg de_int (dg_set (hu_of hr) (de_var (pv 4)) (de_var (pv 8)))))) (dss_one (ds_if (dt_eq (hr.units) (de_var (pv 7)) de_str) (dss_one (ds_asg (de_tup (da_cons (de_ix (hu_of hr) (de_var (pv 4)) (de_var (pv 9))) (da_cons (de_ix (hu_of hr) (de_var (pv 4)) (de_var (pv 8))) da_nil))) (dg_tup (n := 2) rfl (dgs_cons (dg_set (hu_of hr) (de_var (pv 4)) (de_var (pv 8))) (dgs_cons (dg_set (hu_of hr) (de_var (pv 4)) (de_var (pv 9))) dgs_nil))))) (dss_cons (ds_if (dt_in (hu_of hr) (de_var (pv 7)) (de_fz (dn_lst (da_cons de_str (da_cons de_str da_nil))))) (dss_one (ds_expr (de_append (de_var (pv 5)) (da_cons (de_ite (dt_gt (de_ix (hu_of hr) (de_var (pv 4)) (de_var (pv 8))) de_int) de_int de_int) da_nil)))) dss_nil) (dss_cons (ds_if (dt_w (dw_and (dt_eq (hr.units) (de_var (pv 7)) de_str) (dw_and1 (dt_gt (de_ix (hu_of hr) (de_var (pv 4)) (de_var (pv 8))) de_int)))) (dss_one (ds_asg (de_add (de_ix (hu_of hr) (de_var (pv 4)) (de_var (pv 9))) de_int) (dg_set (hu_of hr) (de_var (pv 4)) (de_var (pv 9))))) dss_nil) (dss_one (ds_if (dt_ne (hr.units) (de_var (pv 7)) de_str) (dss_one (ds_asg (de_max2 rfl rfl T.no_max (da_cons de_int (da_cons (de_sub (de_ix (hu_of hr) (de_var (pv 4)) (de_var (pv 8))) de_int) da_nil))) (dg_set (hu_of hr) (de_var (pv 4)) (de_var (pv 8))))) dss_nil)))))))))))) (dss_one (ds_ret (de_tup (da_cons (de_tupOf rfl T.no_tuple (da_cons (de_var (pv 5)) da_nil)) (da_cons (de_tupOf rfl T.no_tuple (da_cons (de_fz (dn_comp (own := [(".0", 10), ("name", 11)]) rfl sc__law_count.nd (di_val (de_fz (dn_sorted (w := w) rfl (hu66 hr) rfl T.no_sorted (da_cons (de_var (pv 4)) da_nil)))) (blkOk_by (N := N__law_count) (sc := defScope s__law_count) (by decide +kernel)) (fun _ _ _ _ _ => (dgc_name (pg_name (i := 11) sc__law_count.nd rfl (Or.inl rfl)) (by decide))) (fun _ _ _ _ _ => dts_nil) (fun _ _ _ _ _ => (de_tup (da_cons (de_var (pv 11)) (da_cons (de_ix (hu_of hr) (de_var (pv 4)) (de_var (pv 11))) da_nil)))))) da_nil)) da_nil)))))))) ?_
  intro ds M Q hn h
  obtain ⟨r, like, lot, c0, rfl, nm, hc, nn, hb, hrl, hlot, q⟩ := h
  have hz := sizeLine_eq
  simp [wSetNew]
  refine f_dict nm.1 fun ph hph pt hpt => ?_
  obtain ⟨hne, hMt⟩ := new_ne hpt
  have hM0 : updM (updM M ph (dkG .int c0)) pt (.lst []) = M2n M ph pt c0 [] := rfl
  rw [hM0]
  have hLe : ∀ c T, LeM M (M2n M ph pt c T) := fun c T => (LeM.upd hph).updr hMt
  simp [wFor, dR]
  refine forL_ind (I := fun l S => ∃ (e6 e7 e8 e9 e10 e11 : Option Dat) (c : Cnt) (bits : List Int), S = ⟨[some (dR r), some (.int like), some (.tup (lot.map .str)), some (dVs c0), some (.ref ph), some (.ref pt), e6, e7, e8, e9, e10, e11], M2n M ph pt c (bits.map .int)⟩ ∧ nms c = nms c0 ∧ NnN c ∧ (∀ cm ∈ l, BinsIn (nms c0) cm) ∧ bits.length + l.length ≤ 1000 ∧ bits ++ (crn (lawSm like lot) l c).1 = (crn (lawSm like lot) r c0).1 ∧ (crn (lawSm like lot) l c).2 = (crn (lawSm like lot) r c0).2) ?_ ?_ r _ ⟨none, none, none, none, none, none, c0, [], rfl, rfl, nn, hb, by simpa using hrl, rfl, rfl⟩
  · rintro S ⟨e6, e7, e8, e9, e10, e11, c, bits, rfl, hn2, hn, _, hbl, h1, h2⟩
    have hcl : c.length ≤ 1000 := by have := congrArg List.length hn2; simp at this; omega
    simp [crn] at h1 h2
    simp [wComp, wipeD, seqOf, lstOf, M2n_t]
    refine f_sorted_dk (f := .int) (c := c) (M2n_h hne) (by rw [hn2]; exact nm.2) ⟨_, rfl, ?_⟩
    simp
    refine ⟨by omega, ?_⟩
    have es : (Dat.str ∘ fun x : Str × Int => x.1) = fun p : Str × Int => Dat.str p.1 := rfl
    rw [es]
    refine compL_map (enc := fun p : Str × Int => Dat.str p.1) (fun p => .tup [.str p.1, .int p.2]) c (fun p hp Q1 q1 => ?_) ⟨M, hLe _ _, ?_⟩
    · have ha : p.1 ∈ nms c := List.mem_map.mpr ⟨p, hp, rfl⟩
      simp [M2n_ix hne ha]
      rw [getn_mem (by rw [hn2]; exact nm.1) hp]
      exact q1
    · rw [← h1, ← h2] at q
      exact q
  · rintro cm l S ⟨e6, e7, e8, e9, e10, e11, c, bits, rfl, hn2, hn, hbs, hbl, h1, h2⟩ N hN
    have hcl : c.length ≤ 1000 := by have := congrArg List.length hn2; simp at this; omega
    have ok1 := hbs cm List.mem_cons_self
    rw [← hn2] at ok1
    simp at hbl
    have fin : ∀ (c' : Cnt) (T : List Dat), c' = (cst (lawSm like lot) c cm).1 → T = (bits ++ (cst (lawSm like lot) c cm).2.toList).map .int → ∀ (e6 e7 e8 e9 e10 e11 : Option Dat), ∃ S0, Imp ⟨[some (.tup (r.map dCmd)), some (.int like), some (.tup (lot.map .str)), some (dVs c0), some (.ref ph), some (.ref pt), e6, e7, e8, e9, e10, e11], M2n M ph pt c' T⟩ S0 ∧ N S0 := fun c' T e1 e2 e6 e7 e8 e9 e10 e11 => by
      subst e1 e2
      refine nxt (hN _ ⟨e6, e7, e8, e9, e10, e11, _, _, rfl, cst_names.trans hn2, hn.cst ok1, fun cm' h' => hbs cm' (List.mem_cons_of_mem _ h'), ?_, ?_, ?_⟩)
      · rw [List.length_append]
        have : (cst (lawSm like lot) c cm).2.toList.length ≤ 1 := by cases (cst (lawSm like lot) c cm).2 <;> simp
        omega
      · rw [← h1]
        simp [crn]
      · rw [← h2]
        simp [crn]
    have hl1 : bits.length < 16777216 := by omega
    cases cm with
    | put a k =>
      have ha : a ∈ nms c := ok1
      simp [dCmd, M2n_ix hne ha, isTag]
      by_cases hk : k ≤ like
      · simp [hk]
        refine M2n_set hne ha hcl ?_
        refine fin _ _ ?_ ?_ _ _ _ _ _ _ <;> simp [cst, lawSm, hk]
      · simp [hk]
        refine M2n_set hne ha hcl ?_
        refine fin _ _ ?_ ?_ _ _ _ _ _ _ <;> simp [cst, lawSm, hk]
    | putN a n =>
      have ha : a ∈ nms c := ok1
      simp [dCmd, M2n_ix hne ha, isTag]
      by_cases hk : n ∈ lot
      · right
        refine ⟨hk, M2n_set hne ha hcl ?_⟩
        refine fin _ _ ?_ ?_ _ _ _ _ _ _ <;> simp [cst, lawSm, hk]
      · left
        refine ⟨fun x hx e => hk (e ▸ hx), M2n_set hne ha hcl ?_⟩
        refine fin _ _ ?_ ?_ _ _ _ _ _ _ <;> simp [cst, lawSm, hk]
    | take a =>
      have ha : a ∈ nms c := ok1
      have h0 := hn a
      simp [dCmd, M2n_ix hne ha, isTag, M2n_isL]
      by_cases hk : 0 < getn c a
      · rw [if_pos hk]
        refine M2n_app (by simp; omega) ?_
        simp [M2n_ix hne ha]
        refine M2n_set hne ha hcl (fin _ _ ?_ ?_ _ _ _ _ _ _)
        · simp [cst]
        · have e : (if 1 < getn c a then 1 else getn c a) = 1 := by split <;> omega
          simp [cst, e]
      · rw [if_neg hk]
        refine M2n_app (by simp; omega) ?_
        simp [M2n_ix hne ha]
        refine M2n_set hne ha hcl (fin _ _ ?_ ?_ _ _ _ _ _ _)
        · simp [cst]
        · have e : (if 1 < getn c a then 1 else getn c a) = 0 := by split <;> omega
          simp [cst, e]
    | peek a =>
      have ha : a ∈ nms c := ok1
      have h0 := hn a
      simp [dCmd, M2n_ix hne ha, isTag, M2n_isL]
      by_cases hk : 0 < getn c a
      · rw [if_pos hk]
        refine M2n_app (by simp; omega) (fin _ _ ?_ ?_ _ _ _ _ _ _)
        · simp [cst]
        · have e : (if 1 < getn c a then 1 else getn c a) = 1 := by split <;> omega
          simp [cst, e]
      · rw [if_neg hk]
        refine M2n_app (by simp; omega) (fin _ _ ?_ ?_ _ _ _ _ _ _)
        · simp [cst]
        · have e : (if 1 < getn c a then 1 else getn c a) = 0 := by split <;> omega
          simp [cst, e]
    | drop a =>
      have ha : a ∈ nms c := ok1
      have h0 := hn a
      simp [dCmd, M2n_ix hne ha, isTag, M2n_isL]
      refine M2n_set hne ha hcl (fin _ _ ?_ ?_ _ _ _ _ _ _)
      · simp [cst]
      · simp [cst]
    | move a b =>
      obtain ⟨ha, hb, hne2⟩ : a ∈ nms c ∧ b ∈ nms c ∧ a ≠ b := ok1
      have h0 := hn a
      simp [dCmd, M2n_ix hne ha, M2n_ix hne hb, isTag, M2n_isL]
      by_cases hk : 0 < getn c a
      · rw [if_pos hk]
        have ha2 : ∀ x, a ∈ nms (setn c b x) := fun x => by rw [setn_names]; exact ha
        refine M2n_set hne hb hcl ?_
        simp [M2n_ix hne (ha2 _), getn_setn hb, hne2]
        refine M2n_set hne (ha2 _) (by simp [setn]; exact hcl) (fin _ _ ?_ ?_ _ _ _ _ _ _)
        · simp only [cst]
          rw [if_pos hk, setn_comm hne2]
          have e : (if 1 < getn c a then getn c a - 1 else 0) = getn c a - 1 := by split <;> omega
          rw [e]
        · simp [cst]
      · rw [if_neg hk]
        have e : (if 1 < getn c a then getn c a - 1 else 0) = getn c a := by split <;> omega
        rw [e]
        refine M2n_set hne ha hcl (fin _ _ ?_ ?_ _ _ _ _ _ _)
        · simp only [cst]
          rw [if_neg hk, setn_self (by rw [hn2]; exact nm.1)]
        · simp [cst]
    | pour a b =>
      obtain ⟨ha, hb, hne2⟩ : a ∈ nms c ∧ b ∈ nms c ∧ a ≠ b := ok1
      simp [dCmd, M2n_ix hne ha, M2n_ix hne hb, isTag, M2n_isL]
      refine M2n_set hne hb hcl (M2n_set hne (by rw [setn_names]; exact ha) (by simp [setn]; exact hcl) (fin _ _ ?_ (by simp [cst]) _ _ _ _ _ _))
      simp only [cst]
      rw [setn_comm hne2]
    | swap a b =>
      obtain ⟨ha, hb, hne2⟩ : a ∈ nms c ∧ b ∈ nms c ∧ a ≠ b := ok1
      simp [dCmd, M2n_ix hne ha, M2n_ix hne hb, isTag, M2n_isL]
      refine M2n_set hne ha hcl (M2n_set hne (by rw [setn_names]; exact hb) (by simp [setn]; exact hcl) (fin _ _ ?_ (by simp [cst]) _ _ _ _ _ _))
      simp only [cst]
abbrev s__law_same : Stmt := top 60
abbrev N__law_same : List Str := ["told", "due", "stack", "count", "left", "right", ".0", "k"]
theorem sc__law_same : FnScope N__law_same ["told", "due"] (defScope s__law_same) := ⟨rfl, rfl, rfl, by decide +kernel, rfl, by decide +kernel, by decide +kernel⟩
theorem d__law_same (D : Def K mg "_law_same" s__law_same ["told", "due"]) (T : Txt mg)  : Has P w K mg base "_law_same" 1 2 wf__law_same := by
  refine has_def 2 D sc__law_same rfl (fun f cdv A outer s H E hr => (dss_cons (ds_setNew' (ps_set (i := 2) sc__law_same.nd rfl (Or.inl rfl) (dn_lst (da_cons (de_tup (da_cons (de_var (pv 0)) (da_cons (de_var (pv 1)) da_nil))) da_nil)))) (dss_cons (ds_for PassesOwn.never rfl (di_range1 rfl T.no_range de_int) (dg_name (pg_name (i := 3) sc__law_same.nd rfl (Or.inl rfl))) (dss_cons (ds_if (dt_eq (hr.units) (de_len rfl T.no_len (da_cons (de_var (pv 2)) da_nil)) de_int) (dss_one (ds_ret de_bl)) dss_nil) (dss_cons (ds_asg (de_pop (de_var (pv 2))) (dg_tup (n := 2) rfl (dgs_cons (dg_name (pg_name (i := 4) sc__law_same.nd rfl (Or.inr rfl))) (dgs_cons (dg_name (pg_name (i := 5) sc__law_same.nd rfl (Or.inr rfl))) dgs_nil)))) (dss_one (ds_if (dt_val (de_isi (n := .T) rfl T.no_isinstance (de_var (pv 5)) rfl T.no_tuple (by decide +kernel) (by decide) (by decide))) (dss_cons (ds_if (dt_w (dw_or (dt_not (dt_val (de_isi (n := .T) rfl T.no_isinstance (de_var (pv 4)) rfl T.no_tuple (by decide +kernel) (by decide) (by decide)))) (dw_or1 (dt_ne (hr.units) (de_len rfl T.no_len (da_cons (de_var (pv 4)) da_nil)) (de_len rfl T.no_len (da_cons (de_var (pv 5)) da_nil)))))) (dss_one (ds_ret de_bl)) dss_nil) (dss_one (ds_expr (de_extend (de_var (pv 2)) (da_cons (de_fz (dn_comp (own := [(".0", 6), ("k", 7)]) rfl sc__law_same.nd (di_range1 rfl T.no_range (de_len rfl T.no_len (da_cons (de_var (pv 5)) da_nil))) (blkOk_by (N := N__law_same) (sc := defScope s__law_same) (by decide +kernel)) (fun _ _ _ _ _ => (dgc_name (pg_name (i := 7) sc__law_same.nd rfl (Or.inl rfl)) (by decide))) (fun _ _ _ _ _ => dts_nil) (fun _ _ _ _ _ => (de_tup (da_cons (de_ix (hu_of hr) (de_var (pv 4)) (de_var (pv 7))) (da_cons (de_ix (hu_of hr) (de_var (pv 5)) (de_var (pv 7))) da_nil)))))) da_nil))))) (dss_one (ds_if (dt_isN (de_var (pv 5)) de_non) (dss_one (ds_if (dt_notN (de_var (pv 4)) de_non) (dss_one (ds_ret de_bl)) dss_nil)) (dss_one (ds_if (dt_val (de_isi (n := .B) rfl T.no_isinstance (de_var (pv 5)) rfl T.no_bool (by decide +kernel) (by decide) (by decide))) (dss_one (ds_if (dt_w (dw_or (dt_not (dt_val (de_isi (n := .B) rfl T.no_isinstance (de_var (pv 4)) rfl T.no_bool (by decide +kernel) (by decide) (by decide)))) (dw_or1 (dt_ne (hr.units) (de_var (pv 4)) (de_var (pv 5)))))) (dss_one (ds_ret de_bl)) dss_nil)) (dss_one (ds_if (dt_val (de_isi (n := .I) rfl T.no_isinstance (de_var (pv 5)) rfl T.no_int (by decide +kernel) (by decide) (by decide))) (dss_one (ds_if (dt_w (dw_or (dt_not (dt_val (de_isi (n := .I) rfl T.no_isinstance (de_var (pv 4)) rfl T.no_int (by decide +kernel) (by decide) (by decide)))) (dw_or (dt_val (de_isi (n := .B) rfl T.no_isinstance (de_var (pv 4)) rfl T.no_bool (by decide +kernel) (by decide) (by decide))) (dw_or1 (dt_ne (hr.units) (de_var (pv 4)) (de_var (pv 5))))))) (dss_one (ds_ret de_bl)) dss_nil)) (dss_one (ds_if (dt_w (dw_or (dt_not (dt_val (de_isi (n := .S) rfl T.no_isinstance (de_var (pv 4)) rfl T.no_str (by decide +kernel) (by decide) (by decide)))) (dw_or1 (dt_ne (hr.units) (de_var (pv 4)) (de_var (pv 5)))))) (dss_one (ds_ret de_bl)) dss_nil))))))))))))) (dss_one (ds_ret de_bl))))) ?_
  intro ds M Q hn h
  obtain ⟨d, rfl, hp, hs, q⟩ := h
  have hz := sizeLine_eq
  refine seq_step fun D0 hn0 hr0 => ?_
  simp [wSetNew]
  intro p hpM
  refine hn0 _ (seq_step fun D1 hn1 hr1 => ?_)
  simp only [wFor, wRange1, e_wC]
  refine ⟨by unfold RB; omega, ?_⟩
  generalize e3 : (300000 : Int).toNat = n3
  have hn4 : n3 = 300000 := by omega
  refine forR_ind (I := fun k S => ∃ (e3 e4 e5 e6 e7 : Option Dat) (st : List Dat), S = ⟨[some d, some d, some (.ref p), e3, e4, e5, e6, e7], updM M p (.lst (st.map fun x => .tup [x, x]))⟩ ∧ plD.plDs st = true ∧ szD.szDs st + k ≤ 290000) ?_ ?_ _ ⟨none, none, none, none, none, [d], rfl, by simp [plD.plDs, hp], by simp [szD.szDs]; omega⟩
  · rintro S ⟨e3, e4, e5, e6, e7, st, rfl, _, h⟩
    exfalso
    omega
  · rintro k S hk ⟨e3, e4, e5, e6, e7, st, rfl, hpl, hsz⟩ N hN
    have fin : ∀ (e3 e4 e5 e6 e7 : Option Dat) (st' : List Dat), plD.plDs st' = true → szD.szDs st' + (k + 1) ≤ 290000 → ∃ S0, Imp ⟨[some d, some d, some (.ref p), e3, e4, e5, e6, e7], updM M p (.lst (st'.map fun x => .tup [x, x]))⟩ S0 ∧ N S0 := fun e3 e4 e5 e6 e7 st' h1 h2 => nxt (hN _ ⟨_, _, _, _, _, st', rfl, h1, h2⟩)
    rw [gN_e]
    refine seq_step fun D2 hn2 hr2 => ?_
    have hrt : ∀ r M', (∃ M0, LeM M0 M' ∧ Q r M0) → D2.rt r M' := fun r M' h => by rw [hr2, hr1]; exact h
    rcases List.eq_nil_or_concat st with rfl | ⟨ini, x, rfl⟩
    rotate_left
    rw [List.concat_eq_append] at *
    rotate_left
    · simp
      exact hrt _ _ (endsU hpM q)
    rw [plDs_append] at hpl
    rw [szDs_append] at hsz
    simp only [plD.plDs, szD.szDs, Bool.and_true, Bool.and_eq_true, Nat.add_zero] at hpl hsz
    have hl0 := szDs_len ini
    simp
    refine hn2 _ (seq_step fun D3 hn3 hr3 => ?_)
    simp [mPop, updM_same, updM_updM]
    refine hn3 _ ?_
    cases x with
    | tup ys =>
      have hl1 := szDs_len ys
      simp only [plD] at hpl
      simp only [szD] at hsz
      simp [wComp, wRange1, wipeD, intsD_0]
      refine ⟨by omega, by omega, compL_map (fun i : Nat => .tup [ys.getD i .non, ys.getD i .non]) (List.range ys.length) (fun i hi Q1 q1 => ?_) ?_⟩
      · have hi := List.mem_range.mp hi
        simp [hi] at q1 ⊢
        exact q1
      · have e : (List.range ys.length).map (fun i : Nat => Dat.tup [ys.getD i .non, ys.getD i .non]) = ys.map fun x => .tup [x, x] := by
          apply List.ext_getElem
          · simp
          · intro i h1 h2
            simp at h1
            simp [h1]
        rw [e]
        have z := fin (some (.int (k : Nat))) (some (.tup ys)) (some (.tup ys)) e6 e7 (ini ++ ys) (by rw [plDs_append, hpl.1, hpl.2]; rfl) (by rw [szDs_append]; omega)
        simp [mExtend, updM_same, updM_updM] at z ⊢
        exact ⟨by omega, z⟩
    | non => simp [isTag]; exact fin _ _ _ _ _ ini hpl.1 (by simp [szD] at hsz; omega)
    | bl b => simp [isTag, eqv, toPy, PyData.eqv]; exact fin _ _ _ _ _ ini hpl.1 (by simp [szD] at hsz; omega)
    | int i => simp [isTag]; exact fin _ _ _ _ _ ini hpl.1 (by simp [szD] at hsz; omega)
    | str s => simp [isTag]; exact fin _ _ _ _ _ ini hpl.1 (by simp [szD] at hsz; omega)
    | _ => simp [plD] at hpl
abbrev s__law_both : Stmt := top 64
abbrev N__law_both : List Str := ["one", "other", "lower", "told", "k", "left", "right", "few", "row", ".0", "at"]
theorem sc__law_both : FnScope N__law_both ["one", "other", "lower"] (defScope s__law_both) := ⟨rfl, rfl, rfl, by decide +kernel, rfl, by decide +kernel, by decide +kernel⟩
theorem d__law_both (D : Def K mg "_law_both" s__law_both ["one", "other", "lower"]) (T : Txt mg)  : Has P w K mg base "_law_both" 1 3 wf__law_both := by
  refine has_def 3 D sc__law_both rfl (fun f cdv A outer s H E hr => (dss_cons (ds_setNew' (ps_set (i := 3) sc__law_both.nd rfl (Or.inl rfl) (dn_lst da_nil))) (dss_cons (ds_for PassesOwn.never rfl (di_range1 rfl T.no_range (de_len rfl T.no_len (da_cons (de_var (pv 0)) da_nil))) (dg_name (pg_name (i := 4) sc__law_both.nd rfl (Or.inl rfl))) (dss_cons (ds_asg (de_tup (da_cons (de_fz (dn_lstOf rfl T.no_list (da_cons (de_ix (hu_of hr) (de_ix (hu_of hr) (de_var (pv 0)) (de_var (pv 4))) de_int) da_nil))) (da_cons (de_fz (dn_lstOf rfl T.no_list (da_cons (de_ix (hu_of hr) (de_ix (hu_of hr) (de_var (pv 1)) (de_var (pv 4))) de_int) da_nil))) da_nil))) (dg_tup (n := 2) rfl (dgs_cons (dg_name (pg_name (i := 5) sc__law_both.nd rfl (Or.inr rfl))) (dgs_cons (dg_name (pg_name (i := 6) sc__law_both.nd rfl (Or.inr rfl))) dgs_nil)))) (dss_cons (ds_set' (ps_set (i := 7) sc__law_both.nd rfl (Or.inl rfl) (de_min2 rfl rfl T.no_min (da_cons (de_len rfl T.no_len (da_cons (de_var (pv 5)) da_nil)) (da_cons (de_len rfl T.no_len (da_cons (de_var (pv 6)) da_nil)) da_nil))))) (dss_cons (ds_setFz' (ds_setComp (i := 8) (own := [(".0", 9), ("at", 10)]) rfl sc__law_both.nd rfl rfl (sw_true rfl rfl rfl (by decide +kernel)) (di_range1 rfl T.no_range (de_var (pv 7))) (blkOk_by (N := N__law_both) (sc := defScope s__law_both) (by decide +kernel)) (fun _ _ _ _ _ => (dgc_name (pg_name (i := 10) sc__law_both.nd rfl (Or.inl rfl)) (by decide))) (fun _ _ _ _ _ => dts_nil) (fun _ _ _ _ _ => (de_ite (dt_val (de_var (pv 2))) (de_min2 rfl rfl T.no_min (da_cons (de_ix (hu_of hr) (de_var (pv 5)) (de_var (pv 10))) (da_cons (de_ix (hu_of hr) (de_var (pv 6)) (de_var (pv 10))) da_nil))) (de_max2 rfl rfl T.no_max (da_cons (de_ix (hu_of hr) (de_var (pv 5)) (de_var (pv 10))) (da_cons (de_ix (hu_of hr) (de_var (pv 6)) (de_var (pv 10))) da_nil))))))) (dss_one (ds_expr (de_append (de_var (pv 3)) (da_cons (de_tup (da_cons (de_ix (hu_of hr) (de_ix (hu_of hr) (de_var (pv 0)) (de_var (pv 4))) de_int) (da_cons (de_tupOf rfl T.no_tuple (da_cons (de_ite (dt_val (de_var (pv 2))) (de_fz (dn_catL (de_fz (dn_catL (de_var (pv 8)) (de_fz (dn_slice (de_var (pv 5)) (do_some (de_var (pv 7))) do_none)))) (de_fz (dn_slice (de_var (pv 6)) (do_some (de_var (pv 7))) do_none)))) (de_var (pv 8))) da_nil)) da_nil))) da_nil)))))))) (dss_one (ds_ret (de_tupOf rfl T.no_tuple (da_cons (de_var (pv 3)) da_nil))))))) ?_
  intro ds M Q hn h
  obtain ⟨c, d, b, rfl, he, hc, hd, q⟩ := h
  have hz := sizeLine_eq
  have l1 := hc.ln
  have hcm := hc.sm
  have hdm := hd.sm
  simp [wSetNew, dC]
  intro p hp
  simp [wFor, wRange1]
  refine ⟨by omega, ?_⟩
  refine forR_ind (I := fun k S => ∃ e4 e5 e6 e7 e8 e9 e10, S = ⟨[some (dC c), some (dC d), some (.bl b), some (.ref p), e4, e5, e6, e7, e8, e9, e10], updM M p (.lst (((mixed b c d).take k).map fun p => .tup [.str p.1, dI p.2]))⟩) ?_ ?_ _ ⟨none, none, none, none, none, none, none, by simp [dC]⟩
  · rintro S ⟨e4, e5, e6, e7, e8, e9, e10, rfl⟩
    simp
    refine endsU hp ?_
    rw [List.take_of_length_le (by simp [mixed]; omega)]
    exact q
  · rintro k S hk ⟨e4, e5, e6, e7, e8, e9, e10, rfl⟩ N hN
    have hk2 : k < d.length := by omega
    have hc1 : c[k]? = some c[k] := List.getElem?_eq_getElem hk
    have hd1 : d[k]? = some d[k] := List.getElem?_eq_getElem hk2
    have t1 := le_tot (List.mem_of_getElem? hc1)
    have t2 := le_tot (List.mem_of_getElem? hd1)
    have em : (mixed b c d)[k]? = some (c[k].1, mixL b c[k].2 d[k].2) := by
      unfold mixed
      rw [List.getElem?_map, List.getElem?_zip_eq_some (z := (c[k], d[k])) |>.mpr ⟨hc1, hd1⟩]
      rfl
    have hml : k < (mixed b c d).length := (List.getElem?_eq_some_iff.mp em).1
    have em2 : (mixed b c d)[k] = (c[k].1, mixL b c[k].2 d[k].2) := (List.getElem?_eq_some_iff.mp em).2
    generalize hcp : c[k] = cp at *
    generalize hdp : d[k] = dp at *
    obtain ⟨n1, xs⟩ := cp
    obtain ⟨n2, ys⟩ := dp
    have t1 : xs.length ≤ tot c := t1
    have t2 : ys.length ≤ tot d := t2
    simp [dC, hc1, hd1, dI]
    simp [wComp, wRange1, wipeD]
    have hmin : min xs.length ys.length ≤ 10000 := by omega
    refine ⟨by omega, by simp [intsD]; omega, ?_⟩
    rw [intsD_0]
    refine compL_map (fun i : Nat => Dat.int (opB b (xs.getD i 0) (ys.getD i 0))) (List.range (min xs.length ys.length)) (fun i hi Q1 q1 => ?_) ?_
    · simp at hi
      have h1 : i < xs.length := by omega
      have h2 : i < ys.length := by omega
      simp [h1, h2] at q1 ⊢
      cases b <;> simp [opB] at q1 ⊢
      · have e : (if xs[i] < ys[i] then ys[i] else xs[i]) = max xs[i] ys[i] := by split <;> omega
        rw [e]; exact q1
      · have e : (if ys[i] < xs[i] then ys[i] else xs[i]) = min xs[i] ys[i] := by split <;> omega
        rw [e]; exact q1
    have ez : ((List.range (min xs.length ys.length)).map fun i : Nat => Dat.int (opB b (xs.getD i 0) (ys.getD i 0))) = (List.zipWith (opB b) xs ys).map .int := by rw [← zipW_range, List.map_map]; rfl
    rw [ez]
    have fin : ∀ row, row = (mixL b xs ys).map Dat.int → ∃ S0, Imp ⟨[some (dC c), some (dC d), some (.bl b), some (.ref p), some (.int (k : Nat)), some (.fl (xs.map .int)), some (.fl (ys.map .int)), some (.int (min xs.length ys.length : Nat)), some (.fl ((List.zipWith (opB b) xs ys).map .int)), e9, e10], updM M p (.lst (((mixed b c d).take k).map (fun p => .tup [.str p.1, dI p.2]) ++ [.tup [.str n1, .tup row]]))⟩ S0 ∧ N S0 := fun row e => by
      subst e
      exact nxt (hN _ ⟨_, _, _, _, _, _, _, by rw [take_snoc hml, em2, List.map_append]; rfl⟩)
    have hlt : ((mixed b c d).take k).length < 16777216 := by simp; omega
    cases b with
    | false =>
      have z := fin _ (by rw [mixL_f])
      simp [dC, dI] at z ⊢
      exact ⟨by omega, z⟩
    | true =>
      have z := fin _ (by rw [mixL_t])
      simp [dC, dI] at z ⊢
      exact ⟨by omega, by omega, by omega, z⟩
abbrev s__law_limits : Stmt := top 66
abbrev N__law_limits : List Str := ["one", "other", "told", "name", "things"]
theorem sc__law_limits : FnScope N__law_limits ["one", "other"] (defScope s__law_limits) := ⟨rfl, rfl, rfl, by decide +kernel, rfl, by decide +kernel, by decide +kernel⟩
theorem d__law_limits (D : Def K mg "_law_limits" s__law_limits ["one", "other"]) (T : Txt mg)  : Has P w K mg base "_law_limits" 1 2 wf__law_limits := by
  refine has_def 2 D sc__law_limits rfl (fun f cdv A outer s H E hr => (dss_cons (ds_setNew' (ps_set (i := 2) sc__law_limits.nd rfl (Or.inl rfl) (dn_lst da_nil))) (dss_cons (ds_for PassesOwn.never rfl (di_val (de_add (de_var (pv 0)) (de_var (pv 1)))) (dg_tup (n := 2) rfl (dgs_cons (dg_name (pg_name (i := 3) sc__law_limits.nd rfl (Or.inl rfl))) (dgs_cons (dg_name (pg_name (i := 4) sc__law_limits.nd rfl (Or.inl rfl))) dgs_nil))) (dss_one (ds_expr (de_extT (de_var (pv 2)) (da_cons (de_var (pv 4)) da_nil))))) (dss_one (ds_ret (de_tupOf rfl T.no_tuple (da_cons (de_fz (dn_sorted (w := w) rfl (hu66 hr) rfl T.no_sorted (da_cons (de_new (dn_set (w := w) rfl rfl T.no_set (da_cons (de_var (pv 2)) da_nil))) da_nil))) da_nil))))))) ?_
  intro ds M Q hn h
  obtain ⟨c, d, rfl, hc, hd, q⟩ := h
  have hz := sizeLine_eq
  have hb : scanBound = 4096 := rfl
  have l1 := hc.ln
  have l2 := hd.ln
  have hcm := hc.sm
  have hdm := hd.sm
  have hlen : ∀ c : Cont, (c.flatMap (·.2)).length = tot c := fun c => by simp [tot, List.length_flatMap]
  simp [wSetNew, dC]
  intro p hp
  simp [wFor]
  refine ⟨by omega, ?_⟩
  rw [← List.map_append]
  refine forL_ind (I := fun l S => ∃ e3 e4 done, S = ⟨[some (dC c), some (dC d), some (.ref p), e3, e4], updM M p (Pl done)⟩ ∧ done ++ l.flatMap (·.2) = (c ++ d).flatMap (·.2)) ?_ ?_ (c ++ d) _ ⟨none, none, [], rfl, rfl⟩
  · rintro S ⟨e3, e4, done, rfl, e⟩
    simp at e
    have hd2 : done.length ≤ 2000 := by rw [e]; simp [hlen]; omega
    simp
    refine ⟨_, _, lstOf_upd, keysOf_ints _, by simp; omega, fun p2 hp2 => f_sorted_set ⟨_, rfl, M, ?_, ?_⟩⟩
    · have : M p2 = none := by
        have z : p2 ≠ p := fun z => by rw [z, updM_same] at hp2; cases hp2
        rwa [updM_ne z] at hp2
      exact (LeM.upd hp).updr this
    · rw [e]; simpa [dI] using q
  · rintro ⟨n, xs⟩ l S ⟨e3, e4, done, rfl, e⟩ N hN
    have hd2 : done.length + xs.length ≤ 2000 := by
      have z := congrArg List.length e
      simp [hlen] at z
      omega
    simp [dI, mExtT, updM_same, updM_updM]
    refine ⟨by omega, nxt (hN _ ⟨_, _, done ++ xs, by simp only [dI, dC, Pl, List.map_append]; rfl, by rw [← e]; simp⟩)⟩
abbrev s__law_bins : Stmt := top 50
abbrev N__law_bins : List Str := ["pool", "many", "names", "count", "letters", "turn", "free", ".0", "k", "letter"]
theorem sc__law_bins : FnScope N__law_bins ["pool", "many"] (defScope s__law_bins) := ⟨rfl, rfl, rfl, by decide +kernel, rfl, by decide +kernel, by decide +kernel⟩
theorem d__law_bins (D : Def K mg "_law_bins" s__law_bins ["pool", "many"]) (T : Txt mg) (h__law_pick : Has P w K mg base "_law_pick" 1 2 wf__law_pick) : Has P w K mg base "_law_bins" 2 2 wf__law_bins := by
  refine has_def 2 D sc__law_bins rfl (fun f cdv A outer s H E hr => (dss_cons (ds_setNew' (ps_set (i := 2) sc__law_bins.nd rfl (Or.inr rfl) (dn_lst da_nil))) (dss_cons (ds_for PassesOwn.never rfl (di_range1 rfl T.no_range (de_var (pv 1))) (dg_name (pg_name (i := 3) sc__law_bins.nd rfl (Or.inl rfl))) (dss_cons (ds_set' (ps_set (i := 4) sc__law_bins.nd rfl (Or.inr rfl) (de_join de_str (de_fz (dn_comp (own := [(".0", 7), ("k", 8)]) rfl sc__law_bins.nd (di_range1 rfl T.no_range (de_ix (hu_of hr) (de_fz (dn_lst (da_cons de_int (da_cons de_int (da_cons de_int (da_cons de_int (da_cons de_int da_nil))))))) (de_call h__law_pick (hr.mono (by decide)) rfl (da_cons (de_var (pv 0)) (da_cons de_int da_nil))))) (blkOk_by (N := N__law_bins) (sc := defScope s__law_bins) (by decide +kernel)) (fun _ _ _ _ _ => (dgc_name (pg_name (i := 8) sc__law_bins.nd rfl (Or.inl rfl)) (by decide))) (fun _ _ _ _ _ => dts_nil) (fun _ _ _ _ _ => (de_ix (hu_of hr) de_str (de_call h__law_pick (hr.mono (by decide)) rfl (da_cons (de_var (pv 0)) (da_cons de_int da_nil)))))))))) (dss_cons (ds_if (dt_w (dw_and (dt_gt (de_var (pv 3)) de_int) (dw_and1 (dt_eq (hr.units) (de_call h__law_pick (hr.mono (by decide)) rfl (da_cons (de_var (pv 0)) (da_cons de_int da_nil))) de_int)))) (dss_one (ds_set' (ps_set (i := 4) sc__law_bins.nd rfl (Or.inr rfl) (de_slice (de_ix (hu_of hr) (de_var (pv 2)) de_int) do_none (do_some de_int))))) dss_nil) (dss_cons (ds_set' (ps_set (i := 5) sc__law_bins.nd rfl (Or.inl rfl) (de_call h__law_pick (hr.mono (by decide)) rfl (da_cons (de_var (pv 0)) (da_cons de_int da_nil))))) (dss_cons (ds_setFz' (ds_setComp (i := 6) (own := [(".0", 7), ("letter", 9)]) rfl sc__law_bins.nd rfl rfl (sw_true rfl rfl rfl (by decide +kernel)) (di_val de_str) (blkOk_by (N := N__law_bins) (sc := defScope s__law_bins) (by decide +kernel)) (fun _ _ _ _ _ => (dgc_name (pg_name (i := 9) sc__law_bins.nd rfl (Or.inl rfl)) (by decide))) (fun _ _ _ _ _ => (dts_one (dt_notIn (hu_of hr) (de_add (de_var (pv 4)) (de_var (pv 9))) (de_fz (dn_catL (de_var (pv 2)) (de_fz (dn_lst (da_cons de_str (da_cons de_str da_nil))))))))) (fun _ _ _ _ _ => (de_var (pv 9))))) (dss_one (ds_expr (de_append (de_var (pv 2)) (da_cons (de_add (de_var (pv 4)) (de_ix (hu_of hr) (de_var (pv 6)) (de_mod (de_var (pv 5)) (de_len rfl T.no_len (da_cons (de_var (pv 6)) da_nil))))) da_nil))))))))) (dss_one (ds_retNew (dn_sorted (w := w) rfl (hu66 hr) rfl T.no_sorted (da_cons (de_var (pv 2)) da_nil))))))) ?_
  intro ds M Q hn h
  obtain ⟨p, n, rfl, h3, hp, q⟩ := h
  have hz := sizeLine_eq
  simp [wSetNew]
  intro s hs
  have hne := hp.ne hs
  obtain ⟨ys0, hy0, hself⟩ := hp.self
  simp [wFor, wRange1]
  refine ⟨by omega, ?_⟩
  refine forR_ind (I := fun k S => ∃ (e3 e4 e5 e6 e7 e8 e9 : Option Dat) (ns : List Str) (ys : List Int), S = ⟨[some (.ref p), some (.int (n : Nat)), some (.ref s), e3, e4, e5, e6, e7, e8, e9], updM (updM M p (Pl ys)) s (.lst (ns.map .str))⟩ ∧ ns.length = k ∧ ns.Nodup ∧ (∀ x ∈ ns, x.length ≤ 8 ∧ PyData.strOk x = true) ∧ ys.length ≤ 1200) ?_ ?_ _ ⟨none, none, none, none, none, none, none, [], ys0, by rw [hself]; rfl, rfl, List.nodup_nil, by simp, hy0⟩
  · rintro S ⟨e3, e4, e5, e6, e7, e8, e9, ns, ys, rfl, hl, nd, hx, hy⟩
    have hs2 : updM M p (Pl ys) s = none := by rw [updM_ne fun e => hne e.symm]; exact hs
    simp
    refine f_sorted_strs updM_same (endsU hs2 (q _ ys ?_ (ssort_ok nd) (fun x hx2 => (hx x ((List.mergeSort_perm ns _).mem_iff.mp hx2)).2) hy))
    unfold ssort
    rw [List.length_mergeSort, hl]
  · rintro k S hk ⟨e3, e4, e5, e6, e7, e8, e9, ns, ys, rfl, hl, nd, hx, hy⟩ N hN
    rw [gN_e]
    refine seq_step fun D0 hn0 hr0 => ?_
    have key : ∀ (x : Str) (ys : List Int), x.length ≤ 7 → PyData.strOk x = true → ys.length ≤ 1200 → D0.nx ⟨[some (.ref p), some (.int (n : Nat)), some (.ref s), some (.int (k : Nat)), some (.str x), e5, e6, e7, e8, e9], updM (updM M p (Pl ys)) s (.lst (ns.map .str))⟩ := fun x ys hx7 hxs hy => by
      refine hn0 _ (seq_step fun D1 hn1 hr1 => ?_)
      have key1 : ∀ (x : Str) (ys : List Int), x.length ≤ 7 → PyData.strOk x = true → ys.length ≤ 1200 → D1.nx ⟨[some (.ref p), some (.int (n : Nat)), some (.ref s), some (.int (k : Nat)), some (.str x), e5, e6, e7, e8, e9], updM (updM M p (Pl ys)) s (.lst (ns.map .str))⟩ := fun x ys hx7 hxs hy => by
        refine hn1 _ ?_
        simp
        refine u_pick2 hne hy (by decide) fun i ys1 hi hy1 => ?_
        simp [wComp, wipeD, AL_signs]
        refine ⟨by rw [AL_len]; omega, compL_pure (fun c => !decide (x ++ c ∈ ns ++ exNm)) .str AL [] (fun c hc Q1 Q2 h1 h2 => ?_) ?_⟩
        · have hc1 := AL_one c hc
          simp
          refine ⟨by omega, _, _, ownOf_upd, rfl, by simp; omega, _, rfl, ?_⟩
          have em : ns.map Dat.str ++ [.str "aside", .str "hand"] = (ns ++ exNm).map .str := by simp [exNm]
          rw [em]
          have hfl : ∀ d ∈ (ns ++ exNm).map Dat.str, flatD d = true := fun d hd => by
            obtain ⟨y, _, rfl⟩ := List.mem_map.mp hd; rfl
          by_cases hin : x ++ c ∈ ns ++ exNm
          · right
            exact ⟨⟨hfl, .str (x ++ c), List.mem_map.mpr ⟨_, hin, rfl⟩, by simp⟩, h2 (by rw [decide_eq_true hin]; rfl)⟩
          · left
            refine ⟨⟨hfl, fun d hd => ?_⟩, h1 (by rw [decide_eq_false hin]; rfl)⟩
            obtain ⟨y, hy, rfl⟩ := List.mem_map.mp hd
            rw [eqv_str]
            exact decide_eq_false fun e => hin (e ▸ hy)
        rw [List.nil_append]
        have hfr := freeL_pos (x := x) (ns := ns ++ exNm) (by simp [exNm]; omega)
        show isL _ _ ∧ 0 < ((freeL x (ns ++ exNm)).map Dat.str).length ∧ _
        have hlt : i % (freeL x (ns ++ exNm)).length < (freeL x (ns ++ exNm)).length := Nat.mod_lt _ hfr
        obtain ⟨c, hcg⟩ : ∃ c, (freeL x (ns ++ exNm))[i % (freeL x (ns ++ exNm)).length]? = some c := ⟨_, List.getElem?_eq_getElem hlt⟩
        have hcm := List.mem_of_getElem? hcg
        have hc1 := AL_one c (List.mem_filter.mp hcm).1
        have hc2 := (List.mem_filter.mp hcm).2
        have hxc : (x ++ c).length ≤ 8 := by rw [str_len_append]; omega
        have hxn : x ++ c ∉ ns := by simp at hc2; exact hc2.1
        refine ⟨isL_u, by simpa using hfr, .str c, ?_, ?_⟩
        · have e9 : ((freeL x (ns ++ exNm)).map Dat.str)[i % (freeL x (ns ++ exNm)).length]? = some (.str c) := by rw [List.getElem?_map, hcg]; rfl
          rw [List.length_map, ← Int.natCast_emod, pyIx_nat]
          exact e9
        · rw [fAdd_s, mAppend_upd]
          refine ⟨by omega, by simp; omega, nxt (hN _ ⟨_, _, _, _, _, _, _, ns ++ [x ++ c], ys1, by rw [List.map_append]; rfl, by simp; omega, ?_, fun y hy => (List.mem_append.mp hy).elim (hx y) fun z => by rw [List.mem_singleton.mp z]; exact ⟨hxc, so_append hxs (AL_so c (List.mem_filter.mp hcm).1)⟩, hy1⟩)⟩
          exact List.nodup_append.mpr ⟨nd, by simp, fun a ha b hb e => hxn (by rw [← List.mem_singleton.mp hb, ← e]; exact ha)⟩
      simp
      by_cases hk0 : 0 < k
      · rw [if_pos hk0]
        refine u_pick2 hne hy (by decide) fun i ys1 hi hy1 => ?_
        have hn0 : 0 < ns.length := by omega
        have hn1' : ns[0]? = some ns[0] := List.getElem?_eq_getElem hn0
        have hl8 := hx ns[0] (List.getElem_mem hn0)
        have hl8' := hl8.1
        simp [hn1']
        by_cases hi0 : i = 0
        · rw [if_pos hi0]
          refine ⟨.str (cutS ns[0] none (some 7)), ?_, key1 _ _ (cut7_len _) (so_cut hl8.2) hy1⟩
          show (if ns[0].length ≤ sizeLine then _ else _) = _
          rw [if_pos (by omega)]
        · rw [if_neg hi0]
          exact key1 x ys1 hx7 hxs hy1
      · rw [if_neg hk0]
        exact key1 x ys hx7 hxs hy
    simp [wJoin, wComp, wRange1, wipeD]
    refine u_pick2 hne hy (by decide) fun i ys1 hi hy1 => ?_
    simp
    have hj : ∃ j : Nat, j ≤ 7 ∧ ([Dat.int 0, .int 0, .int 1, .int 7, .int 3] : List Dat)[i]? = some (.int (j : Nat)) := by
      rcases i with _ | _ | _ | _ | _ | i
      · exact ⟨0, by omega, rfl⟩
      · exact ⟨0, by omega, rfl⟩
      · exact ⟨1, by omega, rfl⟩
      · exact ⟨7, by omega, rfl⟩
      · exact ⟨3, by omega, rfl⟩
      · exfalso; omega
    obtain ⟨j, hj7, hj⟩ := hj
    refine ⟨_, hj, ?_⟩
    simp
    refine ⟨by omega, by simp [intsD]; omega, ?_⟩
    refine compR_ind (I := fun k acc M' => ∃ (xs : List Str) (ys : List Int), acc = xs.map .str ∧ xs.length = k ∧ (∀ x ∈ xs, x ∈ AL) ∧ ys.length ≤ 1200 ∧ M' = updM (updM M p (Pl ys)) s (.lst (ns.map .str))) ?_ ?_ _ ⟨[], ys1, rfl, rfl, by simp, hy1, rfl⟩
    · rintro acc M' ⟨xs, ys2, rfl, hxl, hx1, hy2, rfl⟩
      have h0 : (Str.ofString "").length = 0 := by decide +kernel
      have hxa := hx1
      replace hx1 : ∀ x ∈ xs, x.length = 1 := fun x hx => AL_one x (hx1 x hx)
      have hjl := join_len hx1
      have hsum : (xs.map (fun x => x.length)).sum = xs.length := by
        clear hjl hxl hxa
        induction xs with
        | nil => rfl
        | cons y ys ih =>
          rw [List.map_cons, List.sum_cons, ih fun z hz => hx1 z (List.mem_cons_of_mem _ hz), hx1 y List.mem_cons_self, List.length_cons]
          omega
      exact ⟨xs, rfl, by rw [hsum, h0]; omega, key _ ys2 (by omega) (so_join fun y hy => AL_so y (hxa y hy)) hy2⟩
    · rintro k2 acc M' hk2 ⟨xs, ys2, rfl, hxl, hx1, hy2, rfl⟩ N' hN'
      simp
      refine u_pick2 hne hy2 (by decide) fun m ys3 hm hy3 => ?_
      obtain ⟨c, hc, hc1⟩ := AL_ix (M := updM (updM M p (Pl ys3)) s (.lst (ns.map .str))) (m := m) (by omega)
      simp
      refine ⟨_, hc, hN' _ _ ⟨xs ++ [c], ys3, by simp, by simp; omega, fun y hy => (List.mem_append.mp hy).elim (hx1 y) fun z => by rw [List.mem_singleton.mp z]; exact hc1, hy3, rfl⟩⟩
abbrev s__law_numbers : Stmt := top 51
abbrev N__law_numbers : List Str := ["pool", ".0", "count"]
theorem sc__law_numbers : FnScope N__law_numbers ["pool"] (defScope s__law_numbers) := ⟨rfl, rfl, rfl, by decide +kernel, rfl, by decide +kernel, by decide +kernel⟩
theorem d__law_numbers (D : Def K mg "_law_numbers" s__law_numbers ["pool"]) (T : Txt mg) (h__law_pick : Has P w K mg base "_law_pick" 1 2 wf__law_pick) : Has P w K mg base "_law_numbers" 2 1 wf__law_numbers := by
  refine has_def 1 D sc__law_numbers rfl (fun f cdv A outer s H E hr => (dss_one (ds_retNew (dn_comp (own := [(".0", 1), ("count", 2)]) rfl sc__law_numbers.nd (di_range1 rfl T.no_range (de_add de_int (de_call h__law_pick (hr.mono (by decide)) rfl (da_cons (de_var (pv 0)) (da_cons de_int da_nil))))) (blkOk_by (N := N__law_numbers) (sc := defScope s__law_numbers) (by decide +kernel)) (fun _ _ _ _ _ => (dgc_name (pg_name (i := 2) sc__law_numbers.nd rfl (Or.inl rfl)) (by decide))) (fun _ _ _ _ _ => dts_nil) (fun _ _ _ _ _ => (de_ix (hu_of hr) (de_fz (dn_lst (da_cons de_int (da_cons de_int (da_cons de_int (da_cons de_int (da_cons de_int (da_cons de_int (da_cons (de_call h__law_pick (hr.mono (by decide)) rfl (da_cons (de_var (pv 0)) (da_cons de_int da_nil))) da_nil))))))))) (de_call h__law_pick (hr.mono (by decide)) rfl (da_cons (de_var (pv 0)) (da_cons de_int da_nil))))))))) ?_
  intro ds M Q hn h
  obtain ⟨p, rfl, hp, q⟩ := h
  have hz := sizeLine_eq
  simp [wComp, wRange1, wipeD]
  refine u__law_pick hp (by decide) fun i ys hi hy => ?_
  have e1 : (1 : Int) + (i : Int) = ((1 + i : Nat) : Int) := by omega
  have e2 : ((1 : Int) + (i : Int)).toNat = 1 + i := by omega
  simp only [onVal_val, e_wBin, wVar_e, fAdd_i, e2]
  refine ⟨?_, ?_, ?_⟩
  · unfold RB; omega
  · simp [intsD]; omega
  refine compR_ind (I := fun k acc M' => ∃ ks ys : List Int, acc = ks.map .int ∧ ks.length = k ∧ (∀ k ∈ ks, 0 ≤ k ∧ k ≤ 999) ∧ ys.length ≤ 1200 ∧ M' = updM M p (Pl ys)) ?_ ?_ _ ⟨[], ys, rfl, rfl, by simp, hy, rfl⟩
  · rintro acc M' ⟨ks, ys, rfl, hk, hb, hy, rfl⟩
    exact ends (q ks ys ⟨by omega, by omega, hb⟩ hy)
  · rintro k acc M' hk ⟨ks, ys, rfl, hl, hb, hy, rfl⟩ N hN
    simp
    refine u__law_pick (.upd hy) (by decide) fun j ys2 hj hy2 => ?_
    simp [updM_updM]
    refine u__law_pick (.upd hy2) (by decide) fun m ys3 hm hy3 => ?_
    simp [updM_updM]
    have fin : ∀ x : Int, 0 ≤ x → x ≤ 999 → N (ks.map .int ++ [.int x]) (updM M p (Pl ys3)) := fun x h0 h1 => hN _ _ ⟨ks ++ [x], ys3, by simp, by simp; omega, fun y hy => by
      rcases List.mem_append.mp hy with z | z
      · exact hb y z
      · rw [List.mem_singleton.mp z]; exact ⟨h0, h1⟩, hy3, rfl⟩
    rcases m with _ | _ | _ | _ | _ | _ | _ | m <;> first | (exfalso; omega) | simp
    all_goals exact fin _ (by omega) (by omega)
abbrev s__law_recipe : Stmt := top 52
abbrev N__law_recipe : List Str := ["pool", "bins", "numbers", "names", "many", "words", "told", "count", "word", "at", "put"]
theorem sc__law_recipe : FnScope N__law_recipe ["pool", "bins", "numbers", "names", "many"] (defScope s__law_recipe) := ⟨rfl, rfl, rfl, by decide +kernel, rfl, by decide +kernel, by decide +kernel⟩
theorem d__law_recipe (D : Def K mg "_law_recipe" s__law_recipe ["pool", "bins", "numbers", "names", "many"]) (T : Txt mg) (h__law_pick : Has P w K mg base "_law_pick" 1 2 wf__law_pick) : Has P w K mg base "_law_recipe" 2 5 wf__law_recipe := by
  refine has_def 5 D sc__law_recipe rfl (fun f cdv A outer s H E hr => (dss_cons (ds_set' (ps_set (i := 5) sc__law_recipe.nd rfl (Or.inl rfl) (de_ix (hu_of hr) (de_fz (dn_lst (da_cons (de_fz (dn_lst (da_cons de_str (da_cons de_str (da_cons de_str (da_cons de_str (da_cons de_str (da_cons de_str (da_cons de_str da_nil))))))))) (da_cons (de_fz (dn_lst (da_cons de_str (da_cons de_str (da_cons de_str (da_cons de_str da_nil)))))) (da_cons (de_fz (dn_lst (da_cons de_str (da_cons de_str (da_cons de_str (da_cons de_str da_nil)))))) (da_cons (de_fz (dn_lst (da_cons de_str (da_cons de_str (da_cons de_str (da_cons de_str da_nil)))))) da_nil)))))) (de_call h__law_pick (hr.mono (by decide)) rfl (da_cons (de_var (pv 0)) (da_cons de_int da_nil)))))) (dss_cons (ds_setNew' (ps_set (i := 6) sc__law_recipe.nd rfl (Or.inl rfl) (dn_lst da_nil))) (dss_cons (ds_for PassesOwn.never rfl (di_range1 rfl T.no_range (de_var (pv 4))) (dg_name (pg_name (i := 7) sc__law_recipe.nd rfl (Or.inl rfl))) (dss_cons (ds_par (i := 8) (j := 9) rfl sc__law_recipe.nd rfl rfl (by decide) rfl rfl (da_cons (de_ix (hu_of hr) (de_var (pv 5)) (de_call h__law_pick (hr.mono (by decide)) rfl (da_cons (de_var (pv 0)) (da_cons (de_len rfl T.no_len (da_cons (de_var (pv 5)) da_nil)) da_nil)))) (da_cons (de_call h__law_pick (hr.mono (by decide)) rfl (da_cons (de_var (pv 0)) (da_cons (de_len rfl T.no_len (da_cons (de_var (pv 1)) da_nil)) da_nil))) da_nil)) rfl) (dss_one (ds_if (dt_w (dw_and (dt_in (hu_of hr) (de_var (pv 8)) (de_fz (dn_lst (da_cons de_str (da_cons de_str (da_cons de_str da_nil)))))) (dw_and1 (dt_gt (de_len rfl T.no_len (da_cons (de_var (pv 1)) da_nil)) de_int)))) (dss_one (ds_expr (de_append (de_var (pv 6)) (da_cons (de_tup (da_cons (de_var (pv 8)) (da_cons (de_ix (hu_of hr) (de_var (pv 1)) (de_var (pv 9))) (da_cons (de_ix (hu_of hr) (de_var (pv 1)) (de_mod (de_add (de_add (de_var (pv 9)) de_int) (de_call h__law_pick (hr.mono (by decide)) rfl (da_cons (de_var (pv 0)) (da_cons (de_sub (de_len rfl T.no_len (da_cons (de_var (pv 1)) da_nil)) de_int) da_nil)))) (de_len rfl T.no_len (da_cons (de_var (pv 1)) da_nil)))) da_nil)))) da_nil)))) (dss_one (ds_if (dt_eq (hr.units) (de_var (pv 8)) de_str) (dss_cons (ds_set' (ps_set (i := 10) sc__law_recipe.nd rfl (Or.inl rfl) (de_fz (dn_catL (de_var (pv 2)) (de_var (pv 3)))))) (dss_one (ds_expr (de_append (de_var (pv 6)) (da_cons (de_tup (da_cons de_str (da_cons (de_ix (hu_of hr) (de_var (pv 1)) (de_var (pv 9))) (da_cons (de_ix (hu_of hr) (de_var (pv 10)) (de_call h__law_pick (hr.mono (by decide)) rfl (da_cons (de_var (pv 0)) (da_cons (de_len rfl T.no_len (da_cons (de_var (pv 10)) da_nil)) da_nil)))) da_nil)))) da_nil))))) (dss_one (ds_expr (de_append (de_var (pv 6)) (da_cons (de_tup (da_cons (de_ite (dt_in (hu_of hr) (de_var (pv 8)) (de_fz (dn_lst (da_cons de_str (da_cons de_str (da_cons de_str da_nil)))))) (de_var (pv 8)) de_str) (da_cons (de_ix (hu_of hr) (de_var (pv 1)) (de_var (pv 9))) da_nil))) da_nil)))))))))) (dss_one (ds_ret (de_tupOf rfl T.no_tuple (da_cons (de_var (pv 6)) da_nil)))))))) ?_
  intro ds M Q hn h
  obtain ⟨p, bins, nums, names, n, rfl, b0, b3, bn, n0, n3, m2, h20, hp, q⟩ := h
  have hz := sizeLine_eq
  simp
  refine u__law_pick hp (by decide) fun i ys hi hy => ?_
  simp
  have hw : ∃ d, ([Dat.fl [.str "put", .str "take", .str "peek", .str "drop", .str "move", .str "pour", .str "swap"], .fl [.str "put", .str "take", .str "move", .str "swap"], .fl [.str "put", .str "put", .str "drop", .str "take"], .fl [.str "swap", .str "pour", .str "peek", .str "put"]] : List Dat)[i]? = some d ∧ ∃ ws : List Str, d = .fl (ws.map .str) ∧ 0 < ws.length ∧ ∀ x ∈ ws, x ∈ (["put", "take", "peek", "drop", "move", "pour", "swap"] : List Str) := by
    rcases i with _ | _ | _ | _ | i
    · exact ⟨_, rfl, ["put", "take", "peek", "drop", "move", "pour", "swap"], rfl, by simp, by simp⟩
    · exact ⟨_, rfl, ["put", "take", "move", "swap"], rfl, by simp, by simp⟩
    · exact ⟨_, rfl, ["put", "put", "drop", "take"], rfl, by simp, by simp⟩
    · exact ⟨_, rfl, ["swap", "pour", "peek", "put"], rfl, by simp, by simp⟩
    · exfalso; omega
  obtain ⟨d, hd, ws, rfl, w0, hws⟩ := hw
  refine ⟨_, hd, ?_⟩
  simp [wSetNew]
  intro s hs
  obtain ⟨hne, hMs⟩ := new_ne hs
  simp [wFor, wRange1]
  refine ⟨by omega, ?_⟩
  refine forR_ind (I := fun k S => ∃ (e7 e8 e9 e10 : Option Dat) (r : List Cmd) (ys : List Int), S = ⟨[some (.ref p), some (.fl (bins.map .str)), some (.fl (nums.map .int)), some (.fl (names.map .str)), some (.int (n : Nat)), some (.fl (ws.map .str)), some (.ref s), e7, e8, e9, e10], updM (updM M p (Pl ys)) s (.lst (r.map dCmd))⟩ ∧ r.length = k ∧ RecOk bins nums names r ∧ ys.length ≤ 1200) ?_ ?_ _ ⟨none, none, none, none, [], ys, rfl, rfl, ⟨by simp, by simp [puts], by simp [putsN]⟩, hy⟩
  · rintro S ⟨e7, e8, e9, e10, r, ys, rfl, hl, ok, hy⟩
    simp
    have hs2 : updM M p (Pl ys) s = none := by rw [updM_ne fun e => hne e.symm]; exact hMs
    exact endsU hs2 (q r ys hl ok hy)
  · rintro k S hk ⟨e7, e8, e9, e10, r, ys, rfl, hl, ok, hy⟩ N hN
    have fin : ∀ c : Cmd, BinsIn bins c → (∀ k ∈ puts [c], k ∈ nums) → (∀ n ∈ putsN [c], n ∈ names) → ∀ (e7 e8 e9 e10 : Option Dat) (ys : List Int), ys.length ≤ 1200 → ∃ S0, Imp ⟨[some (.ref p), some (.fl (bins.map .str)), some (.fl (nums.map .int)), some (.fl (names.map .str)), some (.int (n : Nat)), some (.fl (ws.map .str)), some (.ref s), e7, e8, e9, e10], updM (updM M p (Pl ys)) s (.lst (r.map dCmd ++ [dCmd c]))⟩ S0 ∧ N S0 := fun c h1 h2 h3 e7 e8 e9 e10 ys hy =>
      nxt (hN _ ⟨e7, e8, e9, e10, r ++ [c], ys, by rw [List.map_append]; rfl, by simp [hl], ok.snoc h1 h2 h3, hy⟩)
    simp
    refine u_pick2 hne hy (by omega) fun j ys1 hj hy1 => ?_
    have hj2 : j < ws.length := by omega
    simp [hj2]
    refine u_pick2 hne hy1 (by omega) fun a ys2 ha hy2 => ?_
    have ha2 : a < bins.length := by omega
    have hbin : bins[a] ∈ bins := List.getElem_mem ha2
    simp [ha2]
    have hw := hws _ (List.getElem_mem hj2)
    generalize ws[j] = wd at hw ⊢
    simp only [List.mem_cons, List.not_mem_nil, or_false] at hw
    have other : ∀ (m : Nat), m + 1 < bins.length → ∃ b, pyIx (bins.map Dat.str) (((a : Int) + 1 + (m : Int)) % (bins.length : Int)) = some (.str b) ∧ b ∈ bins ∧ bins[a] ≠ b := fun m hm => by
      have e : ((a : Int) + 1 + (m : Int)) % (bins.length : Int) = (((a + 1 + m) % bins.length : Nat) : Int) := by rw [show ((a : Int) + 1 + (m : Int)) = ((a + 1 + m : Nat) : Int) by omega]; exact (Int.natCast_emod _ _).symm
      have hlt : (a + 1 + m) % bins.length < bins.length := Nat.mod_lt _ b0
      refine ⟨bins[(a + 1 + m) % bins.length], ?_, List.getElem_mem hlt, fun z => ?_⟩
      · rw [e, pyIx_nat, List.getElem?_map, List.getElem?_eq_getElem hlt]; rfl
      · have := nodup_inj bn ha2 hlt z
        rcases Nat.lt_or_ge (a + 1 + m) bins.length with h | h
        · rw [Nat.mod_eq_of_lt h] at this; omega
        · rw [Nat.mod_eq_sub_mod h, Nat.mod_eq_of_lt (by omega)] at this; omega
    have hr : r.length < 16777216 := by omega
    have one : ∀ c : Str → Cmd, (∀ a, BinsIn bins (c a) = (a ∈ bins)) → (∀ a, puts [c a] = []) → (∀ a, putsN [c a] = []) → ∀ (e7 e8 e9 e10 : Option Dat), ∃ S0, Imp ⟨[some (.ref p), some (.fl (bins.map .str)), some (.fl (nums.map .int)), some (.fl (names.map .str)), some (.int (n : Nat)), some (.fl (ws.map .str)), some (.ref s), e7, e8, e9, e10], updM (updM M p (Pl ys2)) s (.lst (r.map dCmd ++ [dCmd (c bins[a])]))⟩ S0 ∧ N S0 := fun c h1 h2 h3 e7 e8 e9 e10 =>
      fin _ (by rw [h1]; exact hbin) (by rw [h2]; simp) (by rw [h3]; simp) e7 e8 e9 e10 ys2 hy2
    rcases hw with rfl | rfl | rfl | rfl | rfl | rfl | rfl
    · -- put
      simp
      refine ⟨by omega, u_pick2 hne hy2 (by omega) fun m ys3 hm hy3 => ?_⟩
      have fin2 : ∀ c : Cmd, BinsIn bins c → (∀ k ∈ puts [c], k ∈ nums) → (∀ n ∈ putsN [c], n ∈ names) → _ := fun c h1 h2 h3 => fin c h1 h2 h3 (some (.int (k : Nat))) (some (.str "put")) (some (.int (a : Nat))) (some (.fl (nums.map .int ++ names.map .str))) ys3 hy3
      rcases Nat.lt_or_ge m nums.length with hm2 | hm2
      · have em : (nums.map Dat.int ++ names.map .str)[m]? = some (.int nums[m]) := by
          rw [List.getElem?_append_left (by simpa using hm2), List.getElem?_map, List.getElem?_eq_getElem hm2]; rfl
        simp [em, hr, hz]
        exact fin2 (.put bins[a] nums[m]) hbin (by simp [puts]) (by simp [putsN])
      · have hm3 : m - nums.length < names.length := by omega
        have em : (nums.map Dat.int ++ names.map .str)[m]? = some (.str names[m - nums.length]) := by
          rw [List.getElem?_append_right (by simpa using hm2), List.getElem?_map, List.length_map, List.getElem?_eq_getElem hm3]; rfl
        simp [em, hr, hz]
        exact fin2 (.putN bins[a] names[m - nums.length]) hbin (by simp [puts]) (by simp [putsN])
    · simp [ha2, hr, hz]
      exact one .take (fun _ => rfl) (fun _ => rfl) (fun _ => rfl) _ _ _ _
    · simp [ha2, hr, hz]
      exact one .peek (fun _ => rfl) (fun _ => rfl) (fun _ => rfl) _ _ _ _
    · simp [ha2, hr, hz]
      exact one .drop (fun _ => rfl) (fun _ => rfl) (fun _ => rfl) _ _ _ _
    all_goals by_cases h1 : (1 : Int) < (bins.length : Int)
    · simp [ha2, hr, hz]
      rw [if_pos h1]
      refine u_pick2 hne hy2 (by omega) fun m ys3 hm hy3 => ?_
      obtain ⟨b, hb1, hb2, hb3⟩ := other m (by omega)
      simp [hb1, hr, hz]
      exact ⟨by omega, fin (.move bins[a] b) ⟨hbin, hb2, hb3⟩ (by simp [puts]) (by simp [putsN]) _ _ _ _ ys3 hy3⟩
    · simp [ha2, hr, hz]
      rw [if_neg h1]
      exact one .take (fun _ => rfl) (fun _ => rfl) (fun _ => rfl) _ _ _ _
    · simp [ha2, hr, hz]
      rw [if_pos h1]
      refine u_pick2 hne hy2 (by omega) fun m ys3 hm hy3 => ?_
      obtain ⟨b, hb1, hb2, hb3⟩ := other m (by omega)
      simp [hb1, hr, hz]
      exact ⟨by omega, fin (.pour bins[a] b) ⟨hbin, hb2, hb3⟩ (by simp [puts]) (by simp [putsN]) _ _ _ _ ys3 hy3⟩
    · simp [ha2, hr, hz]
      rw [if_neg h1]
      exact one .take (fun _ => rfl) (fun _ => rfl) (fun _ => rfl) _ _ _ _
    · simp [ha2, hr, hz]
      rw [if_pos h1]
      refine u_pick2 hne hy2 (by omega) fun m ys3 hm hy3 => ?_
      obtain ⟨b, hb1, hb2, hb3⟩ := other m (by omega)
      simp [hb1, hr, hz]
      exact ⟨by omega, fin (.swap bins[a] b) ⟨hbin, hb2, hb3⟩ (by simp [puts]) (by simp [putsN]) _ _ _ _ ys3 hy3⟩
    · simp [ha2, hr, hz]
      rw [if_neg h1]
      exact one .take (fun _ => rfl) (fun _ => rfl) (fun _ => rfl) _ _ _ _
abbrev s__law_thing : Stmt := top 53
abbrev N__law_thing : List Str := ["pool", "numbers"]
theorem sc__law_thing : FnScope N__law_thing ["pool", "numbers"] (defScope s__law_thing) := ⟨rfl, rfl, rfl, by decide +kernel, rfl, by decide +kernel, by decide +kernel⟩
theorem d__law_thing (D : Def K mg "_law_thing" s__law_thing ["pool", "numbers"]) (T : Txt mg) (h__law_pick : Has P w K mg base "_law_pick" 1 2 wf__law_pick) : Has P w K mg base "_law_thing" 2 2 wf__law_thing := by
  refine has_def 2 D sc__law_thing rfl (fun f cdv A outer s H E hr => (dss_one (ds_ret (de_ix (hu_of hr) (de_fz (dn_lst (da_cons (de_neg de_int) (da_cons de_int (da_cons (de_neg de_int) (da_cons (de_ix (hu_of hr) (de_var (pv 1)) (de_call h__law_pick (hr.mono (by decide)) rfl (da_cons (de_var (pv 0)) (da_cons (de_len rfl T.no_len (da_cons (de_var (pv 1)) da_nil)) da_nil)))) (da_cons (de_max2 rfl rfl T.no_max (da_cons (de_neg de_int) (da_cons (de_sub (de_ix (hu_of hr) (de_var (pv 1)) de_int) de_int) da_nil))) (da_cons (de_min2 rfl rfl T.no_min (da_cons de_int (da_cons (de_add (de_ix (hu_of hr) (de_var (pv 1)) de_int) de_int) da_nil))) (da_cons (de_sub (de_call h__law_pick (hr.mono (by decide)) rfl (da_cons (de_var (pv 0)) (da_cons de_int da_nil))) de_int) (da_cons de_int da_nil)))))))))) (de_call h__law_pick (hr.mono (by decide)) rfl (da_cons (de_var (pv 0)) (da_cons de_int da_nil))))))) ?_
  intro ds M Q hn h
  obtain ⟨p, ks, rfl, ⟨hk0, hk3, hk⟩, hp, q⟩ := h
  have hz := sizeLine_eq
  simp
  refine u__law_pick hp (by omega) fun i ys hi hy => ?_
  have h1 : ks[i]? = some ks[i] := List.getElem?_eq_getElem (by omega)
  have h0 : ks[0]? = some ks[0] := List.getElem?_eq_getElem (by omega)
  have b1 := hk _ (List.mem_of_getElem? h1)
  have b0 := hk _ (List.mem_of_getElem? h0)
  generalize ks[i] = k1 at *
  generalize ks[0] = k0 at *
  simp [h1, h0]
  refine u__law_pick (.upd hy) (by decide) fun j ys2 hj hy2 => ?_
  simp [updM_updM]
  refine u__law_pick (.upd hy2) (by decide) fun m ys3 hm hy3 => ?_
  simp [updM_updM]
  have hm8 : m < 8 := by omega
  rcases m with _ | _ | _ | _ | _ | _ | _ | _ | m <;> first | (exfalso; omega) | simp
  all_goals refine ends (q _ _ ?_ ?_ hy3)
  all_goals first | omega | (split <;> omega)
abbrev s__law_held : Stmt := top 54
abbrev N__law_held : List Str := ["pool", "bins", "numbers", "most", "told", "like", "name", "things", ".0", "count", "one"]
theorem sc__law_held : FnScope N__law_held ["pool", "bins", "numbers", "most"] (defScope s__law_held) := ⟨rfl, rfl, rfl, by decide +kernel, rfl, by decide +kernel, by decide +kernel⟩
theorem d__law_held (D : Def K mg "_law_held" s__law_held ["pool", "bins", "numbers", "most"]) (T : Txt mg) (h__law_pick : Has P w K mg base "_law_pick" 1 2 wf__law_pick) (h__law_thing : Has P w K mg base "_law_thing" 2 2 wf__law_thing) : Has P w K mg base "_law_held" 3 4 wf__law_held := by
  refine has_def 4 D sc__law_held rfl (fun f cdv A outer s H E hr => (dss_cons (ds_par (i := 4) (j := 5) rfl sc__law_held.nd rfl rfl (by decide) rfl rfl (da_cons (de_new (dn_lst da_nil)) (da_cons (de_eq (hr.units) (de_call h__law_pick (hr.mono (by decide)) rfl (da_cons (de_var (pv 0)) (da_cons de_int da_nil))) de_int) da_nil)) rfl) (dss_cons (ds_for PassesOwn.never rfl (di_val (de_var (pv 1))) (dg_name (pg_name (i := 6) sc__law_held.nd rfl (Or.inl rfl))) (dss_cons (ds_set' (ps_set (i := 7) sc__law_held.nd rfl (Or.inr rfl) (de_fz (dn_comp (own := [(".0", 8), ("count", 9)]) rfl sc__law_held.nd (di_range1 rfl T.no_range (de_call h__law_pick (hr.mono (by decide)) rfl (da_cons (de_var (pv 0)) (da_cons (de_add (de_var (pv 3)) de_int) da_nil)))) (blkOk_by (N := N__law_held) (sc := defScope s__law_held) (by decide +kernel)) (fun _ _ _ _ _ => (dgc_name (pg_name (i := 9) sc__law_held.nd rfl (Or.inl rfl)) (by decide))) (fun _ _ _ _ _ => dts_nil) (fun _ _ _ _ _ => (de_call h__law_thing (hr.mono (by decide)) rfl (da_cons (de_var (pv 0)) (da_cons (de_var (pv 2)) da_nil)))))))) (dss_cons (ds_if (dt_val (de_var (pv 5))) (dss_one (ds_set' (ps_set (i := 7) sc__law_held.nd rfl (Or.inr rfl) (de_fz (dn_comp (own := [(".0", 8), ("one", 10)]) rfl sc__law_held.nd (di_val (de_var (pv 7))) (blkOk_by (N := N__law_held) (sc := defScope s__law_held) (by decide +kernel)) (fun _ _ _ _ _ => (dgc_name (pg_name (i := 10) sc__law_held.nd rfl (Or.inl rfl)) (by decide))) (fun _ _ _ _ _ => dts_nil) (fun _ _ _ _ _ => (de_ix (hu_of hr) (de_var (pv 7)) de_int))))))) dss_nil) (dss_one (ds_expr (de_append (de_var (pv 4)) (da_cons (de_tup (da_cons (de_var (pv 6)) (da_cons (de_tupOf rfl T.no_tuple (da_cons (de_fz (dn_sorted (w := w) rfl (hu66 hr) rfl T.no_sorted (da_cons (de_var (pv 7)) da_nil))) da_nil)) da_nil))) da_nil))))))) (dss_one (ds_ret (de_tupOf rfl T.no_tuple (da_cons (de_var (pv 4)) da_nil))))))) ?_
  intro ds M Q hn h
  obtain ⟨p, ns, ks, L, rfl, n3, hk, hL, hp, q⟩ := h
  have hz := sizeLine_eq
  simp [wSetNew]
  intro s hs
  have hne := hp.ne hs
  refine u__law_pick (hp.far hne) (by decide) fun i ys hi hy => ?_
  rw [updM_comm (a := s) (b := p) (fun e => hne e.symm)]
  simp [wFor]
  generalize (decide (i = 0)) = like
  refine forL_ind (I := fun l S => ∃ (e6 e7 e8 e9 e10 : Option Dat) (c : Cont) (ys : List Int), S = ⟨[some (.ref p), some (.fl (ns.map .str)), some (.fl (ks.map .int)), some (.int (L : Nat)), some (.ref s), some (.bl like), e6, e7, e8, e9, e10], updM (updM M p (Pl ys)) s (.lst (c.map encP))⟩ ∧ nms c ++ l = ns ∧ CtOk (nms c) L c ∧ ys.length ≤ 1200) ?_ ?_ ns _ ⟨none, none, none, none, none, [], ys, rfl, rfl, ⟨rfl, by simp [SrC], by simp, by simp⟩, hy⟩
  · rintro S ⟨e6, e7, e8, e9, e10, c, ys, rfl, e, ok, hy⟩
    simp at e
    simp
    have hs2 : updM M p (Pl ys) s = none := by rw [updM_ne fun e => hne e.symm]; exact hs
    exact endsU hs2 (q c ys (e ▸ ok) hy)
  · rintro a l S ⟨e6, e7, e8, e9, e10, c, ys, rfl, e, ok, hy⟩ N hN
    have hcl : (nms c).length ≤ 3 := by have := congrArg List.length e; simp at this; simp; omega
    have hcl2 : c.length ≤ 3 := by simpa using hcl
    have fin : ∀ (xs : List Int), xs.length ≤ L → (∀ x ∈ xs, -1000 ≤ x ∧ x ≤ 1000) → ∀ (e6 e7 e8 e9 e10 : Option Dat) (ys : List Int), ys.length ≤ 1200 → ∃ S0, Imp ⟨[some (.ref p), some (.fl (ns.map .str)), some (.fl (ks.map .int)), some (.int (L : Nat)), some (.ref s), some (.bl like), e6, e7, e8, e9, e10], updM (updM M p (Pl ys)) s (.lst (c.map encP ++ [.tup [.str a, dI (isort xs)]]))⟩ S0 ∧ N S0 := fun xs hx hb e6 e7 e8 e9 e10 ys hy =>
      nxt (hN _ ⟨e6, e7, e8, e9, e10, c ++ [(a, isort xs)], ys, by rw [List.map_append]; rfl, by simp at e ⊢; exact e, ⟨by simp, fun p hp => (List.mem_append.mp hp).elim (ok.sr p) fun z => by rw [List.mem_singleton.mp z]; exact isort_sorted _,
        fun p hp => (List.mem_append.mp hp).elim (ok.ln p) fun z => by rw [List.mem_singleton.mp z]; show (isort xs).length ≤ L; rw [isort_len]; exact hx,
        fun p hp => (List.mem_append.mp hp).elim (ok.bd p) fun z => by rw [List.mem_singleton.mp z]; exact fun x hx => hb x (isort_mem.mp hx)⟩, hy⟩)
    simp [wComp, wRange1, wipeD]
    refine u_pick2 hne hy (by omega) fun j ys1 hj hy1 => ?_
    simp [intsD_0]
    refine ⟨by omega, by omega, ?_⟩
    rw [← intsD_0]
    refine compR_ind (I := fun k acc M' => ∃ xs ys : List Int, acc = xs.map .int ∧ xs.length = k ∧ (∀ x ∈ xs, -1000 ≤ x ∧ x ≤ 1000) ∧ ys.length ≤ 1200 ∧ M' = updM (updM M p (Pl ys)) s (.lst (c.map encP))) ?_ ?_ _ ⟨[], ys1, rfl, rfl, by simp, hy1, rfl⟩
    · rintro acc M' ⟨xs, ys2, rfl, hxl, hxb, hy2, rfl⟩
      have hcl3 : c.length < 16777216 := by omega
      cases like with
      | true =>
        simp
        refine ⟨by omega, compL_map (fun _ => Dat.int (xs.headD 0)) xs (fun x hx Q1 q1 => ?_) ?_⟩
        · cases xs with
          | nil => cases hx
          | cons y xs => simpa using q1
        · have e2 : xs.map (fun _ => Dat.int (xs.headD 0)) = (xs.map fun _ => xs.headD 0).map .int := by rw [List.map_map]; rfl
          rw [e2]
          refine ⟨isL_u, f_sorted_ints ⟨_, rfl, ?_⟩⟩
          have z := fin (xs.map fun _ => xs.headD 0) (by simp; omega) (fun x hx => by
            obtain ⟨y, hy, e⟩ := List.mem_map.mp hx
            cases xs with
            | nil => cases hy
            | cons w ws => rw [← e]; exact hxb _ List.mem_cons_self) (some (.str a)) (some (.fl ((xs.map fun _ => xs.headD 0).map .int))) e8 e9 e10 ys2 hy2
          rw [mAppend_upd]
          exact ⟨by simp; omega, z⟩
      | false =>
        simp
        refine f_sorted_ints ⟨_, rfl, ?_⟩
        have z := fin xs (by omega) hxb (some (.str a)) (some (.fl (xs.map .int))) e8 e9 e10 ys2 hy2
        rw [mAppend_upd]
        exact ⟨by simp; omega, z⟩
    · rintro k acc M' hk2 ⟨xs, ys2, rfl, hxl, hxb, hy2, rfl⟩ N' hN'
      simp
      refine u_thing2 hk hne hy2 fun x ys3 hx1 hx2 hy3 => ?_
      simp
      exact hN' _ _ ⟨xs ++ [x], ys3, by simp, by simp; omega, fun y hy => (List.mem_append.mp hy).elim (hxb y) fun z => by rw [List.mem_singleton.mp z]; exact ⟨hx1, hx2⟩, hy3, rfl⟩
abbrev s__law_values : Stmt := top 55
abbrev N__law_values : List Str := ["pool", "recipe", "numbers", "names", ".0", "command", "name"]
theorem sc__law_values : FnScope N__law_values ["pool", "recipe", "numbers"] (defScope s__law_values) := ⟨rfl, rfl, rfl, by decide +kernel, rfl, by decide +kernel, by decide +kernel⟩
theorem d__law_values (D : Def K mg "_law_values" s__law_values ["pool", "recipe", "numbers"]) (T : Txt mg) (h__law_thing : Has P w K mg base "_law_thing" 2 2 wf__law_thing) : Has P w K mg base "_law_values" 3 3 wf__law_values := by
  refine has_def 3 D sc__law_values rfl (fun f cdv A outer s H E hr => (dss_cons (ds_set' (ps_set (i := 3) sc__law_values.nd rfl (Or.inl rfl) (de_fz (dn_sorted (w := w) rfl (hu66 hr) rfl T.no_sorted (da_cons (de_new (dn_set (w := w) rfl rfl T.no_set (da_cons (de_fz (dn_comp (own := [(".0", 4), ("command", 5)]) rfl sc__law_values.nd (di_val (de_var (pv 1))) (blkOk_by (N := N__law_values) (sc := defScope s__law_values) (by decide +kernel)) (fun _ _ _ _ _ => (dgc_name (pg_name (i := 5) sc__law_values.nd rfl (Or.inl rfl)) (by decide))) (fun _ _ _ _ _ => (dts_one (dt_w (dw_and (dt_eq (hr.units) (de_ix (hu_of hr) (de_var (pv 5)) de_int) de_str) (dw_and1 (dt_val (de_isi (n := .S) rfl T.no_isinstance (de_ix (hu_of hr) (de_var (pv 5)) de_int) rfl T.no_str (by decide +kernel) (by decide) (by decide)))))))) (fun _ _ _ _ _ => (de_ix (hu_of hr) (de_var (pv 5)) de_int)))) da_nil))) da_nil))))) (dss_one (ds_ret (de_tupS rfl T.no_tuple (da_cons (de_fz (dn_comp (own := [(".0", 4), ("name", 6)]) rfl sc__law_values.nd (di_val (de_var (pv 3))) (blkOk_by (N := N__law_values) (sc := defScope s__law_values) (by decide +kernel)) (fun _ _ _ _ _ => (dgc_name (pg_name (i := 6) sc__law_values.nd rfl (Or.inl rfl)) (by decide))) (fun _ _ _ _ _ => dts_nil) (fun _ _ _ _ _ => (de_tup (da_cons (de_var (pv 6)) (da_cons (de_call h__law_thing (hr.mono (by decide)) rfl (da_cons (de_var (pv 0)) (da_cons (de_var (pv 2)) da_nil))) da_nil)))))) da_nil)))))) ?_
  intro ds M Q hn h
  obtain ⟨p, r, ks, rfl, hl, hk, hp, q⟩ := h
  have hz := sizeLine_eq
  have hb : scanBound = 4096 := rfl
  simp [dR, wComp, wipeD]
  refine ⟨by omega, compL_pure isPutN (fun c => .str (putNV c)) r [] (fun c hc Q1 Q2 h1 h2 => ?_) ?_⟩
  · cases c <;> simp [dCmd, isPutN, putNV, isTag] at h1 h2 ⊢ <;> first | exact h1 | exact h2
  rw [List.nil_append]
  have e : (r.filter isPutN).map (fun c => Dat.str (putNV c)) = (putsN r).map .str := by
    rw [← putsN_eq, List.map_map]; rfl
  have hlen := putsN_len r
  have hsl := sortS_len (putsN r)
  rw [e]
  refine ⟨_, _, rfl, keysOf_strs _, by simp; omega, fun s hs => f_sorted_setS ⟨_, rfl, ?_⟩⟩
  have hne := hp.ne hs
  simp
  refine ⟨by omega, ?_⟩
  obtain ⟨ys0, hy0, hself⟩ := hp.self
  have hs2 : ∀ ys : List Int, updM M p (Pl ys) s = none := fun ys => by rw [updM_ne fun e => hne e.symm]; exact hs
  refine compL_ind (enc := .str) (fun l acc M' => ∃ (v : List (Str × Int)) (ys : List Int), acc = v.map (fun p => .tup [.str p.1, .int p.2]) ∧ nms v ++ l = sortS (putsN r) ∧ ys.length ≤ 1200 ∧ M' = updM (updM M p (Pl ys)) s (.set w (addKs [] ((putsN r).map Sum.inr)))) ?_ ?_ (sortS (putsN r)) [] _ ⟨[], ys0, rfl, rfl, hy0, by rw [hself]⟩
  · rintro acc M' ⟨v, ys, rfl, e, hy, rfl⟩
    simp at e
    exact endsU (hs2 ys) (q v ys e hy)
  · rintro a l acc M' ⟨v, ys, rfl, e, hy, rfl⟩ N hN
    simp
    refine u_thing2 hk hne hy fun x ys3 hx1 hx2 hy3 => ?_
    simp
    exact hN _ _ ⟨v ++ [(a, x)], ys3, by simp, by simpa using e, hy3, rfl⟩
abbrev s__law_lower : Stmt := top 63
abbrev N__law_lower : List Str := ["pool", "contents", "numbers", "told", "name", "things", "row", "count", ".0", "one"]
theorem sc__law_lower : FnScope N__law_lower ["pool", "contents", "numbers"] (defScope s__law_lower) := ⟨rfl, rfl, rfl, by decide +kernel, rfl, by decide +kernel, by decide +kernel⟩
theorem d__law_lower (D : Def K mg "_law_lower" s__law_lower ["pool", "contents", "numbers"]) (T : Txt mg) (h__law_pick : Has P w K mg base "_law_pick" 1 2 wf__law_pick) (h__law_thing : Has P w K mg base "_law_thing" 2 2 wf__law_thing) : Has P w K mg base "_law_lower" 3 3 wf__law_lower := by
  refine has_def 3 D sc__law_lower rfl (fun f cdv A outer s H E hr => (dss_cons (ds_setNew' (ps_set (i := 3) sc__law_lower.nd rfl (Or.inl rfl) (dn_lst da_nil))) (dss_cons (ds_for PassesOwn.never rfl (di_val (de_var (pv 1))) (dg_tup (n := 2) rfl (dgs_cons (dg_name (pg_name (i := 4) sc__law_lower.nd rfl (Or.inl rfl))) (dgs_cons (dg_name (pg_name (i := 5) sc__law_lower.nd rfl (Or.inl rfl))) dgs_nil))) (dss_cons (ds_setNew' (ds_setComp (i := 6) (own := [(".0", 8), ("one", 9)]) rfl sc__law_lower.nd rfl rfl (sw_true rfl rfl rfl (by decide +kernel)) (di_val (de_var (pv 5))) (blkOk_by (N := N__law_lower) (sc := defScope s__law_lower) (by decide +kernel)) (fun _ _ _ _ _ => (dgc_name (pg_name (i := 9) sc__law_lower.nd rfl (Or.inl rfl)) (by decide))) (fun _ _ _ _ _ => dts_nil) (fun _ _ _ _ _ => (de_max2 rfl rfl T.no_max (da_cons (de_neg de_int) (da_cons (de_sub (de_var (pv 9)) (de_ix (hu_of hr) (de_fz (dn_lst (da_cons de_int (da_cons de_int (da_cons de_int (da_cons de_int (da_cons de_int da_nil))))))) (de_call h__law_pick (hr.mono (by decide)) rfl (da_cons (de_var (pv 0)) (da_cons de_int da_nil))))) da_nil)))))) (dss_cons (ds_for PassesOwn.never rfl (di_range1 rfl T.no_range (de_call h__law_pick (hr.mono (by decide)) rfl (da_cons (de_var (pv 0)) (da_cons de_int da_nil)))) (dg_name (pg_name (i := 7) sc__law_lower.nd rfl (Or.inl rfl))) (dss_one (ds_expr (de_append (de_var (pv 6)) (da_cons (de_call h__law_thing (hr.mono (by decide)) rfl (da_cons (de_var (pv 0)) (da_cons (de_var (pv 2)) da_nil))) da_nil))))) (dss_one (ds_expr (de_append (de_var (pv 3)) (da_cons (de_tup (da_cons (de_var (pv 4)) (da_cons (de_tupOf rfl T.no_tuple (da_cons (de_fz (dn_sorted (w := w) rfl (hu66 hr) rfl T.no_sorted (da_cons (de_var (pv 6)) da_nil))) da_nil)) da_nil))) da_nil))))))) (dss_one (ds_ret (de_tupOf rfl T.no_tuple (da_cons (de_var (pv 3)) da_nil))))))) ?_
  intro ds M Q hn h
  obtain ⟨p, ns, L, c, ks, rfl, ok, n3, hk, hL, hp, q⟩ := h
  have hz := sizeLine_eq
  have hcl := ok.len
  rw [dC_enc]
  simp [wSetNew]
  intro s hs
  have hne := hp.ne hs
  obtain ⟨ys0, hy0, hself⟩ := hp.self
  simp [wFor]
  refine forL_ind (I := fun l S => ∃ (e4 e5 e6 e7 e8 e9 : Option Dat) (done c' : Cont) (ys : List Int), S = ⟨[some (.ref p), some (.tup (c.map encP)), some (.fl (ks.map .int)), some (.ref s), e4, e5, e6, e7, e8, e9], updM (updM M p (Pl ys)) s (.lst (c'.map encP))⟩ ∧ done ++ l = c ∧ CtOk (nms done) (L + 2) c' ∧ below c' done = true ∧ ys.length ≤ 1200) ?_ ?_ c _ ⟨none, none, none, none, none, none, [], [], ys0, by rw [hself]; rfl, rfl, ⟨rfl, by simp [SrC], by simp, by simp⟩, rfl, hy0⟩
  · rintro S ⟨e4, e5, e6, e7, e8, e9, done, c', ys, rfl, e, ok', hb, hy⟩
    simp at e
    subst e
    simp
    have hs2 : updM M p (Pl ys) s = none := by rw [updM_ne fun e => hne e.symm]; exact hs
    exact endsU hs2 (q c' ys (ok.nm ▸ ok') hb hy)
  · rintro ⟨n, xs⟩ l S ⟨e4, e5, e6, e7, e8, e9, done, c', ys, rfl, e, ok', hb, hy⟩ N hN
    have hmem : (n, xs) ∈ c := by rw [← e]; simp
    have hxl := ok.ln _ hmem
    have hxb := ok.bd _ hmem
    have hxs := ok.sr _ hmem
    have hdl : c'.length ≤ 3 := by
      have h1 := ok'.len
      have h2 := congrArg List.length e
      simp at h1 h2
      omega
    simp at hxl hxb hxs
    simp only [encP, dI, e_gTp, seqOf_tup, gMore_cons, gN_e, gEnd_nil]
    refine ⟨_, rfl, rfl, ?_⟩
    simp only [gMore_cons, gN_e, gEnd_nil]
    refine seq_step fun D0 hn0 hr0 => ?_
    simp [wSetNew, wComp, wipeD]
    refine ⟨by omega, ?_⟩
    refine compL_ind (enc := .int) (fun l acc M' => ∃ zs ys : List Int, acc = zs.map .int ∧ zs.length + l.length = xs.length ∧ xs.drop zs.length = l ∧ (∀ (i : Nat) (x y : Int), zs[i]? = some x → xs[i]? = some y → x ≤ y) ∧ (∀ x ∈ zs, -1000 ≤ x ∧ x ≤ 1000) ∧ ys.length ≤ 1200 ∧ M' = updM (updM M p (Pl ys)) s (.lst (c'.map encP))) ?_ ?_ xs [] _ ⟨[], ys, rfl, by simp, rfl, by simp, by simp, hy, rfl⟩
    · rintro acc M' ⟨zs, ys, rfl, hzl, _, hzx, hzb, hy, rfl⟩
      simp at hzl
      intro t ht
      have hts : t ≠ s := fun e => by rw [e, updM_same] at ht; cases ht
      have ht1 : updM M p (Pl ys) t = none := by rwa [updM_ne hts] at ht
      obtain ⟨hpt, hMt⟩ := new_ne ht1
      refine hn0 _ (seq_step fun D1 hn1 hr1 => ?_)
      simp [wFor, wRange1]
      refine u_pick3 hne hpt hy (by decide) fun m ys1 hm hy1 => ?_
      simp
      refine ⟨by omega, ?_⟩
      refine forR_ind (I := fun k S => ∃ (e7 : Option Dat) (ws ys : List Int), S = ⟨[some (.ref p), some (.tup (c.map encP)), some (.fl (ks.map .int)), some (.ref s), some (.str n), some (.tup (xs.map .int)), some (.ref t), e7, e8, e9], updM (updM (updM M p (Pl ys)) s (.lst (c'.map encP))) t (.lst ((zs ++ ws).map .int))⟩ ∧ ws.length = k ∧ (∀ x ∈ ws, -1000 ≤ x ∧ x ≤ 1000) ∧ ys.length ≤ 1200) ?_ ?_ _ ⟨e7, [], ys1, by simp, rfl, by simp, hy1⟩
      · rintro S ⟨e7, ws, ys, rfl, hwl, hwb, hy⟩
        refine hn1 _ ?_
        simp
        have e4' : ((zs.map Dat.int) ++ ws.map .int) = (zs ++ ws).map .int := by rw [List.map_append]
        rw [e4']
        refine ⟨⟨s, c'.map encP, rfl, by rw [updM_ne (fun e => hts e.symm), updM_same]⟩, f_sorted_ref updM_same ⟨_, rfl, ?_⟩⟩
        refine ⟨c'.map encP, by rw [updM_ne (fun e => hts e.symm), updM_same], by simp; omega, ?_⟩
        have hMt2 : updM M p (Pl ys) t = none := by rw [updM_ne fun e => hpt e.symm]; exact hMt
        refine drop_new hMt2 (fun e => hts e.symm) (hN _ ⟨_, _, _, _, _, _, done ++ [(n, xs)], c' ++ [(n, isort (zs ++ ws))], ys, by rw [List.map_append]; rfl, by simpa using e, ?_, ?_, hy⟩)
        · have hzs2 : ∀ x ∈ isort (zs ++ ws), -1000 ≤ x ∧ x ≤ 1000 := fun x hx => (List.mem_append.mp (isort_mem.mp hx)).elim (hzb x) (hwb x)
          exact ⟨by have := ok'.nm; simp at this ⊢; exact this, fun p hp => (List.mem_append.mp hp).elim (ok'.sr p) fun z => by rw [List.mem_singleton.mp z]; exact isort_sorted _,
            fun p hp => (List.mem_append.mp hp).elim (ok'.ln p) fun z => by rw [List.mem_singleton.mp z]; show (isort (zs ++ ws)).length ≤ L + 2; rw [isort_len, List.length_append]; omega,
            fun p hp => (List.mem_append.mp hp).elim (ok'.bd p) fun z => by rw [List.mem_singleton.mp z]; exact hzs2⟩
        · have hll : c'.length = done.length := by have := ok'.len; simpa using this
          unfold below at hb ⊢
          rw [List.zip_append hll, List.all_append, hb]
          simp
          exact lower_row hxs hzl hzx
      · rintro k S hk2 ⟨e7, ws, ys, rfl, hwl, hwb, hy⟩ N' hN'
        simp
        refine u_thing3 hk hne hpt hy fun x ys3 hx1 hx2 hy3 => ?_
        simp
        exact ⟨by omega, nxt (hN' _ ⟨some (.int (k : Nat)), ws ++ [x], ys3, by simp, by simp; omega, fun y hy => (List.mem_append.mp hy).elim (hwb y) fun z => by rw [List.mem_singleton.mp z]; exact ⟨hx1, hx2⟩, hy3⟩)⟩
    · rintro a l acc M' ⟨zs, ys, rfl, hzl, hzd, hzx, hzb, hy, rfl⟩ N' hN'
      simp
      refine u_pick2 hne hy (by decide) fun m ys1 hm hy1 => ?_
      simp
      have hza : xs[zs.length]? = some a := by
        have := congrArg List.head? hzd
        simpa using this
      have hab := hxb a (List.mem_of_getElem? hza)
      have fin : ∀ x : Int, -1000 ≤ x → x ≤ a → N' (zs.map .int ++ [.int x]) (updM (updM M p (Pl ys1)) s (.lst (c'.map encP))) := fun x h1 h2 => by
        refine hN' _ _ ⟨zs ++ [x], ys1, by simp, by simp at hzl ⊢; omega, ?_, ?_, fun y hy => (List.mem_append.mp hy).elim (hzb y) fun z => by rw [List.mem_singleton.mp z]; omega, hy1, rfl⟩
        · rw [List.length_append, List.length_singleton, ← List.drop_drop, hzd]; rfl
        · intro i y z hy hz
          rcases Nat.lt_trichotomy i zs.length with h | h | h
          · rw [List.getElem?_append_left h] at hy
            exact hzx i y z hy hz
          · subst h
            rw [hza] at hz
            simp at hy
            cases hz
            omega
          · rw [List.getElem?_eq_none (by simp; omega)] at hy
            cases hy
      have hm5 : m < 5 := by omega
      rcases m with _ | _ | _ | _ | _ | m <;> first | (exfalso; omega) | simp
      all_goals refine fin _ ?_ ?_
      all_goals split <;> omega
abbrev s__law_pair_held : Stmt := top 69
abbrev N__law_pair_held : List Str := ["recipe", "one", "other", "values", "below", "limits", "left", "right", "due"]
theorem sc__law_pair_held : FnScope N__law_pair_held ["recipe", "one", "other", "values"] (defScope s__law_pair_held) := ⟨rfl, rfl, rfl, by decide +kernel, rfl, by decide +kernel, by decide +kernel⟩
theorem d__law_pair_held (D : Def K mg "_law_pair_held" s__law_pair_held ["recipe", "one", "other", "values"]) (T : Txt mg) (h__law_below : Has P w K mg base "_law_below" 1 2 wf__law_below) (h__law_limits : Has P w K mg base "_law_limits" 1 2 wf__law_limits) (h__law_run : Has P w K mg base "_law_run" 1 3 wf__law_run) (h__law_same : Has P w K mg base "_law_same" 1 2 wf__law_same) (h__law_told_below : Has P w K mg base "_law_told_below" 1 2 wf__law_told_below) (h_counts_order : Has P w K mg base "counts_order" 2 3 wf_counts_order) (h_is_below : Has P w K mg base "is_below" 2 2 wf_is_below) (h_keeps_order : Has P w K mg base "keeps_order" 5 4 wf_keeps_order) (h_limits_of : Has P w K mg base "limits_of" 1 2 wf_limits_of) (h_told_below : Has P w K mg base "told_below" 2 2 wf_told_below) : Has P w K mg base "_law_pair_held" 6 4 wf__law_pair_held := by
  refine has_def 4 D sc__law_pair_held rfl (fun f cdv A outer s H E hr => (dss_cons (ds_set' (ps_set (i := 4) sc__law_pair_held.nd rfl (Or.inl rfl) (de_call h__law_below (hr.mono (by decide)) rfl (da_cons (de_var (pv 1)) (da_cons (de_var (pv 2)) da_nil))))) (dss_cons (ds_set' (ps_set (i := 5) sc__law_pair_held.nd rfl (Or.inl rfl) (de_call h__law_limits (hr.mono (by decide)) rfl (da_cons (de_var (pv 1)) (da_cons (de_var (pv 2)) da_nil))))) (dss_cons (ds_if (dt_w (dw_or (dt_not (dt_val (de_call h__law_same (hr.mono (by decide)) rfl (da_cons (de_call h_is_below (hr.mono (by decide)) rfl (da_cons (de_var (pv 1)) (da_cons (de_var (pv 2)) da_nil))) (da_cons (de_var (pv 4)) da_nil))))) (dw_or (dt_not (dt_val (de_call h__law_same (hr.mono (by decide)) rfl (da_cons (de_call h_limits_of (hr.mono (by decide)) rfl (da_cons (de_var (pv 1)) (da_cons (de_var (pv 2)) da_nil))) (da_cons (de_var (pv 5)) da_nil))))) (dw_or1 (dt_not (dt_val (de_call h__law_same (hr.mono (by decide)) rfl (da_cons (de_call h_counts_order (hr.mono (by decide)) rfl (da_cons (de_var (pv 1)) (da_cons (de_var (pv 2)) (da_cons (de_var (pv 5)) da_nil)))) (da_cons (de_var (pv 4)) da_nil))))))))) (dss_one (ds_ret de_int)) dss_nil) (dss_cons (ds_par (i := 6) (j := 7) rfl sc__law_pair_held.nd rfl rfl (by decide) rfl rfl (da_cons (de_call h__law_run (hr.mono (by decide)) rfl (da_cons (de_var (pv 0)) (da_cons (de_var (pv 1)) (da_cons (de_var (pv 3)) da_nil)))) (da_cons (de_call h__law_run (hr.mono (by decide)) rfl (da_cons (de_var (pv 0)) (da_cons (de_var (pv 2)) (da_cons (de_var (pv 3)) da_nil)))) da_nil)) rfl) (dss_cons (ds_set' (ps_set (i := 8) sc__law_pair_held.nd rfl (Or.inl rfl) (de_and (de_call h__law_told_below (hr.mono (by decide)) rfl (da_cons (de_ix (hu_of hr) (de_var (pv 6)) de_int) (da_cons (de_ix (hu_of hr) (de_var (pv 7)) de_int) da_nil))) (de_one (de_call h__law_below (hr.mono (by decide)) rfl (da_cons (de_ix (hu_of hr) (de_var (pv 6)) de_int) (da_cons (de_ix (hu_of hr) (de_var (pv 7)) de_int) da_nil))))))) (dss_cons (ds_if (dt_w (dw_or (dt_w (dw_and (dt_val (de_var (pv 4))) (dw_and1 (dt_not (dt_val (de_var (pv 8))))))) (dw_or (dt_not (dt_val (de_call h__law_same (hr.mono (by decide)) rfl (da_cons (de_call h_keeps_order (hr.mono (by decide)) rfl (da_cons (de_var (pv 0)) (da_cons (de_var (pv 1)) (da_cons (de_var (pv 2)) (da_cons (de_var (pv 3)) da_nil))))) (da_cons (de_var (pv 8)) da_nil))))) (dw_or1 (dt_not (dt_val (de_call h__law_same (hr.mono (by decide)) rfl (da_cons (de_call h_told_below (hr.mono (by decide)) rfl (da_cons (de_ix (hu_of hr) (de_var (pv 6)) de_int) (da_cons (de_ix (hu_of hr) (de_var (pv 7)) de_int) da_nil))) (da_cons (de_call h__law_told_below (hr.mono (by decide)) rfl (da_cons (de_ix (hu_of hr) (de_var (pv 6)) de_int) (da_cons (de_ix (hu_of hr) (de_var (pv 7)) de_int) da_nil))) da_nil))))))))) (dss_one (ds_ret de_int)) dss_nil) (dss_one (ds_ret (de_ite (dt_val (de_var (pv 4))) de_int de_int)))))))))) ?_
  intro ds M Q hn h
  obtain ⟨r, c, d, v, ns, rfl, G, hc, hd, q⟩ := h
  have hz := sizeLine_eq
  have kc : ContOk c 1000 := hc.cont G.nm G.n3 (by omega)
  have kd : ContOk d 1000 := hd.cont G.nm G.n3 (by omega)
  have rc := G.run hc (by omega)
  have rd := G.run hd (by omega)
  have hlen : c.length = d.length := hc.len.trans hd.len.symm
  have n3 := G.n3
  have hcl := hc.len
  have hdl := hd.len
  have vl := G.vl
  have nmc : NmOk (nms c) := hc.nm.symm ▸ G.nm
  have nmd : NmOk (nms d) := hd.nm.symm ▸ G.nm
  have enm : nms c = nms d := hc.nm.trans hd.nm.symm
  have hbi : ∀ cm ∈ r, BinsIn (nms c) cm := fun cm h => by rw [hc.nm]; exact (G.ok cm h).bins
  have hord : cntOrder c d (sset ((c ++ d).flatMap (·.2))) = below c d := cntOrder_eq hc.sr hd.sr fun p hp x hx => sset_mem.mpr (List.mem_flatMap.mpr ⟨p, List.mem_append.mpr (.inr hp), hx⟩)
  have hkeep := keeps_of (v := v) (r := r) hc.sr hd.sr enm nmc.1 hbi
  have rcl := run_cont (v := v) rc.ok rc.cont
  have rdl := run_cont (v := v) rd.ok rd.cont
  have hrl := G.rl
  have hll : (run v r c).2.length = (run v r d).2.length := by
    have h1 := congrArg List.length rcl.2.1
    have h2 := congrArg List.length rdl.2.1
    simp at h1 h2
    omega
  have hfl : (sset ((c ++ d).flatMap (·.2))).length ≤ 2000 := by
    have h1 := sset_len ((c ++ d).flatMap (·.2))
    have hlen : ∀ c : Cont, (c.flatMap (·.2)).length = tot c := fun c => by simp [tot, List.length_flatMap]
    have h2 := kc.sm
    have h3 := kd.sm
    have e : ((c ++ d).flatMap (·.2)).length = tot c + tot d := by rw [List.flatMap_append, List.length_append, hlen, hlen]
    omega
  simp
  refine ⟨c, d, 1000, 1000, rfl, hlen, kc, by omega, kd, by omega, ?_⟩
  simp
  refine ⟨c, d, rfl, kc, kd, ?_⟩
  simp only [onVal_val]
  refine u_is_below kc (by omega) kd (by omega) ?_
  simp only [onVal_val]
  refine u__law_same rfl (by simp [szD]) ?_
  simp only [onVal_val, onB_blE, if_true]
  refine ⟨c, d, rfl, kc, kd, ?_⟩
  simp only [onVal_val]
  have hs1 := szD_dI (sset ((c ++ d).flatMap (·.2)))
  refine u__law_same (plD_dI _) (by omega) ?_
  simp only [onVal_val, onB_blE, if_true]
  refine ⟨c, d, _, rfl, kc.mono (by omega), kd.mono (by omega), ?_⟩
  rw [hord]
  simp only [onVal_val]
  refine u__law_same rfl (by simp [szD]) ?_
  simp only [onVal_val, onB_blE, if_true]
  refine ⟨r, c, v, rfl, rc, hc.sr, nmc, G.vn, by omega, ?_⟩
  simp only [onVal_val]
  refine ⟨r, d, v, rfl, rd, hd.sr, nmd, G.vn, by omega, ?_⟩
  have htl1 := rcl.2.2
  have htl2 := rdl.2.2
  have kc2 : ContOk (run v r c).2 6000 := rcl.1.mono (by omega)
  have kd2 : ContOk (run v r d).2 6000 := rdl.1.mono (by omega)
  simp
  refine ⟨_, _, rfl, by omega, by omega, ?_⟩
  have hfin : ∀ D : Bool, D = keeps v r c d → wf_keeps_order [dR r, dC c, dC d, dVs v] M (onVal fun x M1 => wf__law_same [x, .bl D] M1 (onVal fun d_7 M => onB d_7 fun b => if b = true then
      wf_told_below [dT (run v r c).1, dT (run v r d).1] M (onVal fun x M1 => wf__law_told_below [dT (run v r c).1, dT (run v r d).1] M1 (onVal fun y M2 =>
          wf__law_same [x, y] M2 (onVal fun d_7 M => onB d_7 fun b => if b = true then (if below c d = true then ∃ M0, LeM M0 M ∧ Q (Res.val (Dat.int 2)) M0 else ∃ M0, LeM M0 M ∧ Q (Res.val (Dat.int 1)) M0) else ∃ M0, LeM M0 M ∧ Q (Res.val (Dat.int 0)) M0))) else ∃ M0, LeM M0 M ∧ Q (Res.val (Dat.int 0)) M0)) := fun D hD => by
    subst hD
    refine u_keeps rfl rc rd ?_
    simp only [onVal_val]
    refine u__law_same rfl (by simp [szD]) ?_
    simp only [onVal_val, onB_blE, if_true]
    refine u_told_below (by omega) ?_
    simp only [onVal_val]
    refine ⟨_, _, rfl, by omega, by omega, ?_⟩
    simp only [onVal_val]
    refine u__law_same rfl (by simp [szD]) ?_
    simp only [onVal_val, onB_blE, if_true]
    split
    · rename_i hb
      rw [if_pos hb] at q
      exact ends q
    · rename_i hb
      rw [if_neg hb] at q
      exact ends q
  simp only [onVal_val, onB_blE]
  cases htb : toldBelow (run v r c).1 (run v r d).1 with
  | true =>
    rw [if_pos rfl]
    refine ⟨_, _, 6000, 6000, rfl, hll, kc2, by omega, kd2, by omega, ?_⟩
    simp only [onVal_val, onB_blE]
    have hk : below (run v r c).2 (run v r d).2 = keeps v r c d := by
      unfold keeps
      rw [htb]; rfl
    split
    · rename_i hb
      rw [hk, if_pos (hkeep hb)]
      have z := hfin _ rfl
      simp only [if_pos hb] at z
      exact z
    · rename_i hb
      have z := hfin _ hk
      simp only [if_neg hb] at z
      exact z
  | false =>
    have hk : false = keeps v r c d := by
      unfold keeps
      rw [htb]; rfl
    rw [if_neg Bool.false_ne_true]
    split
    · rename_i hb
      rw [hkeep hb] at hk
      cases hk
    · rename_i hb
      have z := hfin _ hk
      simp only [if_neg hb] at z
      exact z
abbrev s__law_slices_held : Stmt := top 68
abbrev N__law_slices_held : List Str := ["recipe", "one", "other", "values", "limits", "bins", "told", "left", "limit", "cut", "like", "lot", "counts", "others", "due", ".0", "pair", "thing"]
theorem sc__law_slices_held : FnScope N__law_slices_held ["recipe", "one", "other", "values", "limits"] (defScope s__law_slices_held) := ⟨rfl, rfl, rfl, by decide +kernel, rfl, by decide +kernel, by decide +kernel⟩
theorem d__law_slices_held (D : Def K mg "_law_slices_held" s__law_slices_held ["recipe", "one", "other", "values", "limits"]) (T : Txt mg) (h__law_at : Has P w K mg base "_law_at" 1 2 wf__law_at) (h__law_bins_of : Has P w K mg base "_law_bins_of" 1 1 wf__law_bins_of) (h__law_count : Has P w K mg base "_law_count" 1 4 wf__law_count) (h__law_cut_at : Has P w K mg base "_law_cut_at" 2 3 wf__law_cut_at) (h__law_run : Has P w K mg base "_law_run" 1 3 wf__law_run) (h__law_same : Has P w K mg base "_law_same" 1 2 wf__law_same) (h_cut_at : Has P w K mg base "cut_at" 4 3 wf_cut_at) (h_more_is_more : Has P w K mg base "more_is_more" 6 4 wf_more_is_more) (h_run_counts : Has P w K mg base "run_counts" 5 4 wf_run_counts) : Has P w K mg base "_law_slices_held" 7 5 wf__law_slices_held := by
  refine has_def 5 D sc__law_slices_held rfl (fun f cdv A outer s H E hr => (dss_cons (ds_set' (ps_set (i := 5) sc__law_slices_held.nd rfl (Or.inr rfl) (de_call h__law_bins_of (hr.mono (by decide)) rfl (da_cons (de_var (pv 0)) da_nil)))) (dss_cons (ds_par (i := 1) (j := 2) rfl sc__law_slices_held.nd rfl rfl (by decide) rfl rfl (da_cons (de_tupOf rfl T.no_tuple (da_cons (de_fz (dn_comp (own := [(".0", 15), ("pair", 16)]) rfl sc__law_slices_held.nd (di_val (de_var (pv 1))) (blkOk_by (N := N__law_slices_held) (sc := defScope s__law_slices_held) (by decide +kernel)) (fun _ _ _ _ _ => (dgc_name (pg_name (i := 16) sc__law_slices_held.nd rfl (Or.inl rfl)) (by decide))) (fun _ _ _ _ _ => (dts_one (dt_in (hu_of hr) (de_ix (hu_of hr) (de_var (pv 16)) de_int) (de_var (pv 5))))) (fun _ _ _ _ _ => (de_var (pv 16))))) da_nil)) (da_cons (de_tupOf rfl T.no_tuple (da_cons (de_fz (dn_comp (own := [(".0", 15), ("pair", 16)]) rfl sc__law_slices_held.nd (di_val (de_var (pv 2))) (blkOk_by (N := N__law_slices_held) (sc := defScope s__law_slices_held) (by decide +kernel)) (fun _ _ _ _ _ => (dgc_name (pg_name (i := 16) sc__law_slices_held.nd rfl (Or.inl rfl)) (by decide))) (fun _ _ _ _ _ => (dts_one (dt_in (hu_of hr) (de_ix (hu_of hr) (de_var (pv 16)) de_int) (de_var (pv 5))))) (fun _ _ _ _ _ => (de_var (pv 16))))) da_nil)) da_nil)) rfl) (dss_cons (ds_asg (de_call h__law_run (hr.mono (by decide)) rfl (da_cons (de_var (pv 0)) (da_cons (de_var (pv 1)) (da_cons (de_var (pv 3)) da_nil)))) (dg_tup (n := 2) rfl (dgs_cons (dg_name (pg_name (i := 6) sc__law_slices_held.nd rfl (Or.inl rfl))) (dgs_cons (dg_name (pg_name (i := 7) sc__law_slices_held.nd rfl (Or.inl rfl))) dgs_nil)))) (dss_cons (ds_for PassesOwn.never rfl (di_val (de_var (pv 4))) (dg_name (pg_name (i := 8) sc__law_slices_held.nd rfl (Or.inr rfl))) (dss_cons (ds_asg (de_call h__law_cut_at (hr.mono (by decide)) rfl (da_cons (de_var (pv 0)) (da_cons (de_var (pv 3)) (da_cons (de_var (pv 8)) da_nil)))) (dg_tup (n := 3) rfl (dgs_cons (dg_name (pg_name (i := 9) sc__law_slices_held.nd rfl (Or.inl rfl))) (dgs_cons (dg_name (pg_name (i := 10) sc__law_slices_held.nd rfl (Or.inl rfl))) (dgs_cons (dg_name (pg_name (i := 11) sc__law_slices_held.nd rfl (Or.inl rfl))) dgs_nil))))) (dss_cons (ds_par (i := 12) (j := 13) rfl sc__law_slices_held.nd rfl rfl (by decide) rfl rfl (da_cons (de_call h__law_at (hr.mono (by decide)) rfl (da_cons (de_var (pv 1)) (da_cons (de_var (pv 8)) da_nil))) (da_cons (de_call h__law_at (hr.mono (by decide)) rfl (da_cons (de_var (pv 2)) (da_cons (de_var (pv 8)) da_nil))) da_nil)) rfl) (dss_cons (ds_set' (ps_set (i := 14) sc__law_slices_held.nd rfl (Or.inl rfl) (de_call h__law_count (hr.mono (by decide)) rfl (da_cons (de_var (pv 0)) (da_cons (de_var (pv 10)) (da_cons (de_var (pv 11)) (da_cons (de_var (pv 12)) da_nil))))))) (dss_cons (ds_if (dt_w (dw_or (dt_ne (hr.units) (de_ix (hu_of hr) (de_var (pv 14)) de_int) (de_tupOf rfl T.no_tuple (da_cons (de_fz (dn_comp (own := [(".0", 15), ("thing", 17)]) rfl sc__law_slices_held.nd (di_val (de_var (pv 6))) (blkOk_by (N := N__law_slices_held) (sc := defScope s__law_slices_held) (by decide +kernel)) (fun _ _ _ _ _ => (dgc_name (pg_name (i := 17) sc__law_slices_held.nd rfl (Or.inl rfl)) (by decide))) (fun _ _ _ _ _ => dts_nil) (fun _ _ _ _ _ => (de_ite (dt_w (dw_and (dt_notN (de_var (pv 17)) de_non) (dw_and1 (dt_le (de_var (pv 17)) (de_var (pv 8)))))) de_int de_int)))) da_nil))) (dw_or1 (dt_ne (hr.units) (de_ix (hu_of hr) (de_var (pv 14)) de_int) (de_call h__law_at (hr.mono (by decide)) rfl (da_cons (de_var (pv 7)) (da_cons (de_var (pv 8)) da_nil))))))) (dss_one (ds_ret de_bl)) dss_nil) (dss_cons (ds_if (dt_w (dw_or (dt_not (dt_val (de_call h__law_same (hr.mono (by decide)) rfl (da_cons (de_call h_cut_at (hr.mono (by decide)) rfl (da_cons (de_tup (da_cons (de_var (pv 0)) da_nil)) (da_cons (de_var (pv 3)) (da_cons (de_var (pv 8)) da_nil)))) (da_cons (de_var (pv 9)) da_nil))))) (dw_or1 (dt_not (dt_val (de_call h__law_same (hr.mono (by decide)) rfl (da_cons (de_call h_run_counts (hr.mono (by decide)) rfl (da_cons (de_tup (da_cons (de_var (pv 0)) da_nil)) (da_cons (de_var (pv 9)) (da_cons (de_var (pv 0)) (da_cons (de_var (pv 12)) da_nil))))) (da_cons (de_var (pv 14)) da_nil)))))))) (dss_one (ds_ret de_bl)) dss_nil) (dss_one (ds_if (dt_not (dt_val (de_call h__law_same (hr.mono (by decide)) rfl (da_cons (de_call h_more_is_more (hr.mono (by decide)) rfl (da_cons (de_var (pv 0)) (da_cons (de_var (pv 9)) (da_cons (de_var (pv 12)) (da_cons (de_var (pv 13)) da_nil))))) (da_cons de_bl da_nil))))) (dss_one (ds_ret de_bl)) dss_nil)))))))) (dss_one (ds_ret de_bl))))))) ?_
  intro ds M Q hn h
  obtain ⟨r, c, d, v, ts, ns, rfl, G, hc, hd, hb, hts, q⟩ := h
  have hz := sizeLine_eq
  have hrl := G.rl
  have n3 := G.n3
  have hcl := hc.len
  have hdl := hd.len
  have vl := G.vl
  refine seq_step fun D0 hn0 hr0 => ?_
  simp
  refine ⟨r, rfl, by omega, ?_⟩
  rw [onVal_lst]
  refine hn0 _ (seq_step fun D1 hn1 hr1 => ?_)
  rw [dC_enc, dC_enc]
  simp [wComp, wipeD]
  have elem : ∀ (p : Str × List Int) (M : Mh) (Q1 : Dat → Mh → Prop) (Q2 : Mh → Prop), (decide (p.1 ∈ sortS (binsL r)) = true → Q1 (encP p) M) → (decide (p.1 ∈ sortS (binsL r)) = false → Q2 M) → (∃ b, inFlat (.str p.1) ((sortS (binsL r)).map .str) = some b ∧ if b = true then Q1 (encP p) M else Q2 M) := fun p M Q1 Q2 h1 h2 => by
    refine ⟨_, inFlat_str, ?_⟩
    by_cases hin : p.1 ∈ sortS (binsL r)
    · rw [if_pos (by simpa using hin)]
      exact h1 (by simpa using hin)
    · rw [if_neg (by simpa using hin)]
      exact h2 (by simpa using hin)
  refine ⟨by omega, compL_pure (fun p : Str × List Int => decide (p.1 ∈ sortS (binsL r))) encP c [] (fun p hp Q1 Q2 h1 h2 => ?_) ?_⟩
  · simp only [encP, gN_e, e_wTest, e_wBin, wVar_e, List.set, List.getElem?_cons_succ, List.getElem?_cons_zero, e_fIx, e_wC, ixOf_tup, pyIx_0, Option.some.injEq, exists_eq_left', e_fIn, inOf_fl, onB_blE]
    exact elem p M Q1 Q2 h1 h2
  refine ⟨by omega, compL_pure (fun p : Str × List Int => decide (p.1 ∈ sortS (binsL r))) encP d [] (fun p hp Q1 Q2 h1 h2 => ?_) ?_⟩
  · simp only [encP, gN_e, e_wTest, e_wBin, wVar_e, List.set, List.getElem?_cons_succ, List.getElem?_cons_zero, e_fIx, e_wC, ixOf_tup, pyIx_0, Option.some.injEq, exists_eq_left', e_fIn, inOf_fl, onB_blE]
    exact elem p M Q1 Q2 h1 h2
  rw [List.nil_append, List.nil_append]
  have hc' := hc.filter fun a => decide (a ∈ sortS (binsL r))
  have hd' := hd.filter fun a => decide (a ∈ sortS (binsL r))
  have hb' := below_filter (p := fun a => decide (a ∈ sortS (binsL r))) (hc.nm.trans hd.nm.symm) hb
  have G' := G.filter
  clear hc hd hb hcl hdl n3 G elem
  generalize (c.filter fun p => decide (p.1 ∈ sortS (binsL r))) = cf at hc' hb' ⊢
  generalize (d.filter fun p => decide (p.1 ∈ sortS (binsL r))) = df at hd' hb' ⊢
  generalize (ns.filter fun a => decide (a ∈ sortS (binsL r))) = nf at hc' hd' G'
  have n3 := G'.n3
  have hcl := hc'.len
  have hdl := hd'.len
  have rc := G'.run hc' (by omega)
  have enm : nms cf = nms df := hc'.nm.trans hd'.nm.symm
  have nmc : NmOk (nms cf) := hc'.nm.symm ▸ G'.nm
  have hbi : ∀ cm ∈ r, BinsIn (nms cf) cm := fun cm h => by rw [hc'.nm]; exact (G'.ok cm h).bins
  have hge := (below_geN hc'.sr hd'.sr enm nmc.1).mp hb'
  have hsl := fun t => slice (v := v) t nmc.1 hc'.sr hbi
  have rcl := run_cont (v := v) rc.ok rc.cont
  have hl20 := putsN_len r
  have hlp := puts_len r
  refine hn1 _ (seq_step fun D2 hn2 hr2 => ?_)
  simp
  refine ⟨r, cf, v, rfl, rc, hc'.sr, nmc, G'.vn, by omega, ?_⟩
  simp
  refine hn2 _ ?_
  simp [wFor]
  refine forL_ind (I := fun l S => ∃ (e8 e9 e10 e11 e12 e13 e14 e15 e16 e17 : Option Dat), S = ⟨[some (dR r), some (.tup (cf.map encP)), some (.tup (df.map encP)), some (dVs v), some (.fl (ts.map .int)), some (.fl ((sortS (binsL r)).map .str)), some (dT (Lk.run v r cf).1), some (dC (Lk.run v r cf).2), e8, e9, e10, e11, e12, e13, e14, e15, e16, e17], M⟩) ?_ ?_ ts _ ⟨none, none, none, none, none, none, none, none, none, none, rfl⟩
  · rintro S ⟨e8, e9, e10, e11, e12, e13, e14, e15, e16, e17, rfl⟩
    exact ends q
  · rintro t l S ⟨e8, e9, e10, e11, e12, e13, e14, e15, e16, e17, rfl⟩ N hN
    have kc : ContOk cf 10000 := hc'.cont G'.nm n3 (by omega)
    have kd : ContOk df 10000 := hd'.cont G'.nm n3 (by omega)
    have kl : ContOk (Lk.run v r cf).2 10000 := rcl.1.mono (by omega)
    have nmcc : NmOk (nms (cntC cf t)) := by rw [cntC_names]; exact nmc
    have hnn : NnN (cntC cf t) := fun a => by rw [getn_cntC]; exact cnt_nonneg _ _
    have hbc : ∀ cm ∈ r, BinsIn (nms (cntC cf t)) cm := by rw [cntC_names]; exact hbi
    have hbd : ∀ cm ∈ r, BinsIn (nms (cntC df t)) cm := by rw [cntC_names, ← enm]; exact hbi
    have hcl2 : (cntC cf t).length ≤ 1000 := by simp [cntC]; omega
    have hdl2 : (cntC df t).length ≤ 1000 := by simp [cntC]; omega
    have hlot : (lotAt v t).length ≤ 1000 := by
      have := List.length_filter_le (fun p : Str × Int => decide (p.2 ≤ t)) v
      simp [lotAt]; omega
    have edue : crn (lawSm (likeAt r t) (lotAt v t)) r (cntC cf t) = ((Lk.run v r cf).1.map (bit t), cntC (Lk.run v r cf).2 t) := by
      rw [crn_sm (lawSm_eq G'.vn G'.ok G'.pp), (hsl t).1]
    have erun : crun r (smallIn ((sset (puts r)).take (smallNs r t).length) (lotAt v t)) (cntC cf t) = ((Lk.run v r cf).1.map (bit t), cntC (Lk.run v r cf).2 t) := by
      rw [crun_eq nmcc.1 hbc, crn_sm (small_eq G'.vn G'.ok), (hsl t).1]
    rw [gN_e]
    refine seq_step fun D3 hn3 hr3 => ?_
    simp
    refine ⟨r, dVs v, v, t, rfl, rfl, by omega, by omega, ?_⟩
    simp
    refine hn3 _ (seq_step fun D4 hn4 hr4 => ?_)
    simp
    refine ⟨cf, t, 10000, rfl, kc, by omega, ?_⟩
    simp
    refine ⟨df, t, 10000, rfl, kd, by omega, ?_⟩
    simp
    refine hn4 _ (seq_step fun D5 hn5 hr5 => ?_)
    simp
    refine ⟨r, likeAt r t, lotAt v t, cntC cf t, rfl, nmcc, hcl2, hnn, hbc, by omega, hlot, ?_⟩
    rw [edue]
    simp
    refine hn5 _ (seq_step fun D6 hn6 hr6 => ?_)
    have hbit : ((Lk.run v r cf).1.map fun o => Dat.int (bit t o)) = ((Lk.run v r cf).1.map (bit t)).map .int := by rw [List.map_map]; rfl
    simp [wComp, wipeD, dT]
    refine ⟨by omega, compL_map (fun o => .int (bit t o)) (Lk.run v r cf).1 (fun o ho Q1 q1 => ?_) ?_⟩
    · cases o with
      | none => simpa [dO, bit] using q1
      | some x =>
        by_cases e : x ≤ t
        · simpa [dO, bit, e] using q1
        · simpa [dO, bit, e] using q1
    rw [hbit]
    have sh1 := sh_ints ((Lk.run v r cf).1.map (bit t))
    have hso : ∀ x ∈ nms (cntC (Lk.run v r cf).2 t), PyData.strOk x = true := by
      rw [cntC_names, show nms (Lk.run v r cf).2 = nms cf from rcl.2.1, hc'.nm]
      exact G'.so
    have sh2 := sh_dV hso
    refine ⟨.inr ⟨sh1, sh1⟩, ?_⟩
    have ev1 : eqv (dI ((Lk.run v r cf).1.map (bit t))) (.tup (((Lk.run v r cf).1.map (bit t)).map .int)) = true := SeqAt.eqv_refl _ (lay_of sh1)
    rw [if_pos ev1]
    refine ⟨(Lk.run v r cf).2, t, 10000, rfl, kl, by omega, ?_⟩
    rw [onVal_val]
    refine ⟨.inr ⟨sh2, sh2⟩, ?_⟩
    have ev2 : eqv (dV (cntC (Lk.run v r cf).2 t)) (.stp ((cntC (Lk.run v r cf).2 t).map fun p => .tup [.str p.1, .int p.2])) = true := SeqAt.eqv_refl _ (lay_of sh2)
    rw [if_pos ev2]
    refine hn6 _ (seq_step fun D7 hn7 hr7 => ?_)
    have hbl : ((Lk.run v r cf).1.map (bit t)).length ≤ 1000 := by have := rcl.2.2; simp; omega
    have hll : (cntC (Lk.run v r cf).2 t).length ≤ 1000 := by have := kl.ln; simp [cntC]; exact this
    have s1 := szD_dI ((Lk.run v r cf).1.map (bit t))
    have s2 := szD_dV (cntC (Lk.run v r cf).2 t)
    have s3 := szD_strs (lotAt v t)
    simp
    refine ⟨r, dVs v, v, t, rfl, rfl, by omega, by omega, ?_⟩
    rw [onVal_val]
    have ecut : (Dat.tup [.int (((sset (puts r)).filter fun x => decide (x ≤ t)).length : Nat), .tup ((v.filter fun p => decide (p.2 ≤ t)).map fun p => .str p.1)]) = .tup [.int ((smallNs r t).length : Nat), .tup ((lotAt v t).map .str)] := by
      unfold smallNs lotAt
      rw [List.map_map]; rfl
    rw [ecut]
    refine u__law_same (plD_tup2 rfl (plD_strs _)) (by rw [szD_tup2]; simp only [szD] at s3 ⊢; omega) ?_
    simp
    refine u_run_counts (c := cntC cf t) rfl nmcc.1 hcl2 hbc (by omega) hlot ?_
    rw [erun, onVal_val]
    refine u__law_same (plD_tup2 (plD_dI _) (plD_dV _)) (by rw [szD_tup2]; dsimp only; omega) ?_
    simp
    refine hn7 _ ?_
    simp
    refine ⟨r, _, lotAt v t, cntC cf t, cntC df t, _, _, rfl, rfl, rfl, nmcc.1, by rw [show (cntC df t).map (·.1) = nms (cntC df t) from rfl, cntC_names, ← enm]; exact nmc.1, hcl2, hdl2, hbc, hbd, by omega, hlot, ?_⟩
    rw [moreIs_of nmcc.1 (by rw [cntC_names, cntC_names, enm]) (hge t) hbc, onVal_val]
    refine u__law_same rfl (by simp [szD]) ?_
    simp
    exact nxt (hN _ ⟨_, _, _, _, _, _, _, _, _, _, rfl⟩)
end
end Law

namespace Law
open PySem PySem.Spec L2 Lk
section
variable {P : Program} {w : World} {K : PySem.W.Frag} {mg : Str → Option Value} {base : Heap}
abbrev s_law : Stmt := top 70
abbrev N_law : List Str := ["script", "pool", "wide", "numbers", "names", "bins", "recipe", "values", "high", "one", "other", "low", "told", "least", "most", "name", "things", "more", "under", "upper", "thing", "at", "long", "late", "batch", "limits", ".0", "own", "row"]
theorem sc_law : FnScope N_law ["script"] (defScope s_law) := ⟨rfl, rfl, rfl, by decide +kernel, rfl, by decide +kernel, by decide +kernel⟩
theorem fn_mk {x qual : Str} {st : Stmt} {f : Addr} {fd : FuncData} {N ps : List Str} {k : Nat} (n : Nat) {wf : WF} {wb : WS} (F : Fun K x qual st f fd) (sc : FnScope N ps (defScope st)) (hn : ps.length = n)
    (body : ∀ (cdv : Value) (A : Around) (outer : List Env) (s : Shared) (H : Hp) (E : XK), Room k (A.deeper (PyProof.Rows.envOfC qual (defScope st) s.heap.objs.size f cdv)) → DSs (cxOf CX0 P w K mg base N qual (defScope st) f cdv A outer s H E).nox (defBody st) wb)
    (law : ∀ (ds : List Dat) (M : Mh) (Q : Res → Mh → Prop), ds.length = n → wf ds M Q → wb ⟨startD (N.length - n) ds, M⟩ (bodyEnds Q)) : FnOk P w K mg base CX0 (k + 1) f fd ps (LF K n wf) := by
  refine F.ok sc (fun vs H Q E h => h.1.trans hn.symm) fun cdv A outer s H vs Q E hr h => ?_
  obtain ⟨hl, Fo, ds, M, Qd, m, r, q, z⟩ := h
  refine ⟨_, body cdv A outer s H E hr, Fo, ⟨_, M⟩, bodyEnds Qd, start_rel m r, ?_, ?_⟩
  · rw [hl]
    exact law ds M Qd (r.length.trans hl) q
  · exact ⟨fun S' σ' H' g rs ⟨M0, l, q⟩ => z (.val .non) M0 .non H' ⟨g.trans (.le l), rs.mem.le l, .non⟩ q, fun r M' v H' ok ⟨M0, l, q⟩ => z r M0 v H' (ok.le l) q, fun _ _ _ _ _ h => h.elim, fun _ _ _ _ _ h => h.elim⟩
theorem fn_law {f : Addr} {fd : FuncData} (F : Fun K "law" "law" s_law f fd) (T : Txt mg) (h__law_below : Has P w K mg base "_law_below" 1 2 wf__law_below) (h__law_bins : Has P w K mg base "_law_bins" 2 2 wf__law_bins) (h__law_both : Has P w K mg base "_law_both" 1 3 wf__law_both) (h__law_draws : Has P w K mg base "_law_draws" 1 3 wf__law_draws) (h__law_held : Has P w K mg base "_law_held" 3 4 wf__law_held) (h__law_lower : Has P w K mg base "_law_lower" 3 3 wf__law_lower) (h__law_numbers : Has P w K mg base "_law_numbers" 2 1 wf__law_numbers) (h__law_pair_held : Has P w K mg base "_law_pair_held" 6 4 wf__law_pair_held) (h__law_pick : Has P w K mg base "_law_pick" 1 2 wf__law_pick) (h__law_recipe : Has P w K mg base "_law_recipe" 2 5 wf__law_recipe) (h__law_same : Has P w K mg base "_law_same" 1 2 wf__law_same) (h__law_slices_held : Has P w K mg base "_law_slices_held" 7 5 wf__law_slices_held) (h__law_thing : Has P w K mg base "_law_thing" 2 2 wf__law_thing) (h__law_values : Has P w K mg base "_law_values" 3 3 wf__law_values) (h_between : Has P w K mg base "between" 3 3 wf_between) (h_lower_contents : Has P w K mg base "lower_contents" 2 2 wf_lower_contents) (h_order_kept : Has P w K mg base "order_kept" 6 3 wf_order_kept) (h_upper_contents : Has P w K mg base "upper_contents" 2 2 wf_upper_contents) : FnOk P w K mg base CX0 8 f fd ["script"] (LF K 1 wf_law) := by
  refine fn_mk 1 F sc_law rfl (fun cdv A outer s H E hr => (dss_cons (ds_setNew' (ps_set (i := 1) sc_law.nd rfl (Or.inl rfl) (dn_call h__law_draws (hr.mono (by decide)) rfl (da_cons (de_var (pv 0)) (da_cons de_int (da_cons de_int da_nil)))))) (dss_cons (ds_set' (ps_set (i := 2) sc_law.nd rfl (Or.inl rfl) (de_eq (hr.units) (de_call h__law_pick (hr.mono (by decide)) rfl (da_cons (de_var (pv 1)) (da_cons de_int da_nil))) de_int))) (dss_cons (ds_par (i := 3) (j := 4) rfl sc_law.nd rfl rfl (by decide) rfl rfl (da_cons (de_call h__law_numbers (hr.mono (by decide)) rfl (da_cons (de_var (pv 1)) da_nil)) (da_cons (de_fz (dn_slice (de_fz (dn_lst (da_cons de_str (da_cons de_str da_nil)))) do_none (do_some (de_call h__law_pick (hr.mono (by decide)) rfl (da_cons (de_var (pv 1)) (da_cons de_int da_nil)))))) da_nil)) rfl) (dss_cons (ds_set' (ps_set (i := 5) sc_law.nd rfl (Or.inl rfl) (de_call h__law_bins (hr.mono (by decide)) rfl (da_cons (de_var (pv 1)) (da_cons (de_add de_int (de_call h__law_pick (hr.mono (by decide)) rfl (da_cons (de_var (pv 1)) (da_cons de_int da_nil)))) da_nil))))) (dss_cons (ds_set' (ps_set (i := 6) sc_law.nd rfl (Or.inl rfl) (de_call h__law_recipe (hr.mono (by decide)) rfl (da_cons (de_var (pv 1)) (da_cons (de_var (pv 5)) (da_cons (de_var (pv 3)) (da_cons (de_var (pv 4)) (da_cons (de_ite (dt_val (de_var (pv 2))) de_int (de_add de_int (de_call h__law_pick (hr.mono (by decide)) rfl (da_cons (de_var (pv 1)) (da_cons de_int da_nil))))) da_nil)))))))) (dss_cons (ds_set' (ps_set (i := 7) sc_law.nd rfl (Or.inl rfl) (de_call h__law_values (hr.mono (by decide)) rfl (da_cons (de_var (pv 1)) (da_cons (de_var (pv 6)) (da_cons (de_var (pv 3)) da_nil)))))) (dss_cons (ds_set' (ps_set (i := 8) sc_law.nd rfl (Or.inl rfl) (de_call h__law_held (hr.mono (by decide)) rfl (da_cons (de_var (pv 1)) (da_cons (de_var (pv 5)) (da_cons (de_var (pv 3)) (da_cons (de_ite (dt_val (de_var (pv 2))) de_int de_int) da_nil))))))) (dss_cons (ds_par (i := 9) (j := 10) rfl sc_law.nd rfl rfl (by decide) rfl rfl (da_cons (de_call h__law_lower (hr.mono (by decide)) rfl (da_cons (de_var (pv 1)) (da_cons (de_var (pv 8)) (da_cons (de_var (pv 3)) da_nil)))) (da_cons (de_call h__law_held (hr.mono (by decide)) rfl (da_cons (de_var (pv 1)) (da_cons (de_var (pv 5)) (da_cons (de_var (pv 3)) (da_cons de_int da_nil))))) da_nil)) rfl) (dss_cons (ds_set' (ps_set (i := 11) sc_law.nd rfl (Or.inl rfl) (de_call h__law_lower (hr.mono (by decide)) rfl (da_cons (de_var (pv 1)) (da_cons (de_var (pv 9)) (da_cons (de_var (pv 3)) da_nil)))))) (dss_cons (ds_set' (ps_set (i := 12) sc_law.nd rfl (Or.inl rfl) (de_fz (dn_lst (da_cons (de_call h__law_pair_held (hr.mono (by decide)) rfl (da_cons (de_var (pv 6)) (da_cons (de_var (pv 9)) (da_cons (de_var (pv 8)) (da_cons (de_var (pv 7)) da_nil))))) (da_cons (de_call h__law_pair_held (hr.mono (by decide)) rfl (da_cons (de_var (pv 6)) (da_cons (de_var (pv 11)) (da_cons (de_var (pv 8)) (da_cons (de_var (pv 7)) da_nil))))) (da_cons (de_call h__law_pair_held (hr.mono (by decide)) rfl (da_cons (de_var (pv 6)) (da_cons (de_var (pv 8)) (da_cons (de_var (pv 9)) (da_cons (de_var (pv 7)) da_nil))))) da_nil))))))) (dss_cons (ds_set' (ps_set (i := 12) sc_law.nd rfl (Or.inl rfl) (de_fz (dn_catL (de_var (pv 12)) (de_fz (dn_lst (da_cons (de_call h__law_pair_held (hr.mono (by decide)) rfl (da_cons (de_var (pv 6)) (da_cons (de_var (pv 9)) (da_cons (de_var (pv 10)) (da_cons (de_var (pv 7)) da_nil))))) (da_cons (de_call h__law_pair_held (hr.mono (by decide)) rfl (da_cons (de_var (pv 6)) (da_cons (de_var (pv 10)) (da_cons (de_var (pv 8)) (da_cons (de_var (pv 7)) da_nil))))) da_nil)))))))) (dss_cons (ds_par (i := 13) (j := 14) rfl sc_law.nd rfl rfl (by decide) rfl rfl (da_cons (de_call h__law_both (hr.mono (by decide)) rfl (da_cons (de_var (pv 9)) (da_cons (de_var (pv 10)) (da_cons de_bl da_nil)))) (da_cons (de_call h__law_both (hr.mono (by decide)) rfl (da_cons (de_var (pv 9)) (da_cons (de_var (pv 10)) (da_cons de_bl da_nil)))) da_nil)) rfl) (dss_cons (ds_if (dt_w (dw_or (dt_not (dt_val (de_call h__law_same (hr.mono (by decide)) rfl (da_cons (de_call h_lower_contents (hr.mono (by decide)) rfl (da_cons (de_var (pv 9)) (da_cons (de_var (pv 10)) da_nil))) (da_cons (de_var (pv 13)) da_nil))))) (dw_or1 (dt_not (dt_val (de_call h__law_same (hr.mono (by decide)) rfl (da_cons (de_call h_upper_contents (hr.mono (by decide)) rfl (da_cons (de_var (pv 9)) (da_cons (de_var (pv 10)) da_nil))) (da_cons (de_var (pv 14)) da_nil)))))))) (dss_one (ds_ret de_bl)) dss_nil) (dss_cons (ds_set' (ps_set (i := 12) sc_law.nd rfl (Or.inl rfl) (de_fz (dn_catL (de_var (pv 12)) (de_fz (dn_lst (da_cons (de_call h__law_pair_held (hr.mono (by decide)) rfl (da_cons (de_var (pv 6)) (da_cons (de_var (pv 13)) (da_cons (de_var (pv 10)) (da_cons (de_var (pv 7)) da_nil))))) (da_cons (de_call h__law_pair_held (hr.mono (by decide)) rfl (da_cons (de_var (pv 6)) (da_cons (de_var (pv 10)) (da_cons (de_var (pv 14)) (da_cons (de_var (pv 7)) da_nil))))) (da_cons (de_call h__law_pair_held (hr.mono (by decide)) rfl (da_cons (de_var (pv 6)) (da_cons (de_var (pv 13)) (da_cons (de_var (pv 14)) (da_cons (de_var (pv 7)) da_nil))))) da_nil))))))))) (dss_cons (ds_asg (de_ix (hu_of hr) (de_var (pv 8)) (de_call h__law_pick (hr.mono (by decide)) rfl (da_cons (de_var (pv 1)) (da_cons (de_len rfl T.no_len (da_cons (de_var (pv 8)) da_nil)) da_nil)))) (dg_tup (n := 2) rfl (dgs_cons (dg_name (pg_name (i := 15) sc_law.nd rfl (Or.inr rfl))) (dgs_cons (dg_name (pg_name (i := 16) sc_law.nd rfl (Or.inl rfl))) dgs_nil)))) (dss_cons (ds_set' (ps_set (i := 17) sc_law.nd rfl (Or.inl rfl) (de_tupOf rfl T.no_tuple (da_cons (de_fz (dn_comp (own := [(".0", 26), ("own", 27), ("row", 28)]) rfl sc_law.nd (di_val (de_var (pv 8))) (blkOk_by (N := N_law) (sc := defScope s_law) (by decide +kernel)) (fun _ _ _ _ _ => (dgc_tup (n := 2) rfl (dgsc_cons (dgc_name (pg_name (i := 27) sc_law.nd rfl (Or.inl rfl)) (by decide)) (dgsc_cons (dgc_name (pg_name (i := 28) sc_law.nd rfl (Or.inl rfl)) (by decide)) dgsc_nil)))) (fun _ _ _ _ _ => dts_nil) (fun _ _ _ _ _ => (de_tup (da_cons (de_var (pv 27)) (da_cons (de_tupOf rfl T.no_tuple (da_cons (de_fz (dn_sorted (w := w) rfl (hu66 hr) rfl T.no_sorted (da_cons (de_add (de_var (pv 28)) (de_ite (dt_eq (hr.units) (de_var (pv 27)) (de_var (pv 15))) (de_tup (da_cons de_int da_nil)) (de_tup da_nil))) da_nil))) da_nil)) da_nil)))))) da_nil)))) (dss_cons (ds_set' (ps_set (i := 12) sc_law.nd rfl (Or.inl rfl) (de_fz (dn_catL (de_var (pv 12)) (de_fz (dn_lst (da_cons (de_call h__law_pair_held (hr.mono (by decide)) rfl (da_cons (de_var (pv 6)) (da_cons (de_var (pv 8)) (da_cons (de_var (pv 17)) (da_cons (de_var (pv 7)) da_nil))))) (da_cons (de_call h__law_pair_held (hr.mono (by decide)) rfl (da_cons (de_var (pv 6)) (da_cons (de_var (pv 17)) (da_cons (de_var (pv 8)) (da_cons (de_var (pv 7)) da_nil))))) da_nil)))))))) (dss_cons (ds_if (dt_w (dw_or (dt_ne (hr.units) (de_ix (hu_of hr) (de_var (pv 12)) de_int) de_int) (dw_or (dt_ne (hr.units) (de_ix (hu_of hr) (de_var (pv 12)) de_int) de_int) (dw_or (dt_ne (hr.units) (de_ix (hu_of hr) (de_var (pv 12)) de_int) de_int) (dw_or (dt_ne (hr.units) (de_ix (hu_of hr) (de_var (pv 12)) de_int) de_int) (dw_or (dt_ne (hr.units) (de_ix (hu_of hr) (de_var (pv 12)) de_int) de_int) (dw_or (dt_ne (hr.units) (de_ix (hu_of hr) (de_var (pv 12)) de_int) de_int) (dw_or (dt_ne (hr.units) (de_ix (hu_of hr) (de_var (pv 12)) de_int) de_int) (dw_or1 (dt_in (hu_of hr) de_int (de_var (pv 12)))))))))))) (dss_one (ds_ret de_bl)) dss_nil) (dss_cons (ds_if (dt_not (dt_val (de_call h__law_same (hr.mono (by decide)) rfl (da_cons (de_call h_between (hr.mono (by decide)) rfl (da_cons (de_var (pv 11)) (da_cons (de_var (pv 9)) (da_cons (de_var (pv 8)) da_nil)))) (da_cons de_bl da_nil))))) (dss_one (ds_ret de_bl)) dss_nil) (dss_cons (ds_for PassesOwn.never rfl (di_val (de_fz (dn_lst (da_cons (de_tup (da_cons (de_var (pv 8)) (da_cons (de_var (pv 17)) da_nil))) (da_cons (de_tup (da_cons (de_var (pv 11)) (da_cons (de_var (pv 10)) da_nil))) (da_cons (de_tup (da_cons (de_var (pv 10)) (da_cons (de_var (pv 8)) da_nil))) (da_cons (de_tup (da_cons (de_var (pv 13)) (da_cons (de_var (pv 11)) da_nil))) da_nil))))))) (dg_tup (n := 2) rfl (dgs_cons (dg_name (pg_name (i := 18) sc_law.nd rfl (Or.inl rfl))) (dgs_cons (dg_name (pg_name (i := 19) sc_law.nd rfl (Or.inl rfl))) dgs_nil))) (dss_one (ds_if (dt_not (dt_val (de_call h__law_same (hr.mono (by decide)) rfl (da_cons (de_call h_between (hr.mono (by decide)) rfl (da_cons (de_var (pv 18)) (da_cons (de_var (pv 9)) (da_cons (de_var (pv 19)) da_nil)))) (da_cons (de_and (de_call h__law_below (hr.mono (by decide)) rfl (da_cons (de_var (pv 18)) (da_cons (de_var (pv 9)) da_nil))) (de_one (de_call h__law_below (hr.mono (by decide)) rfl (da_cons (de_var (pv 9)) (da_cons (de_var (pv 19)) da_nil))))) da_nil))))) (dss_one (ds_ret de_bl)) dss_nil))) (dss_cons (ds_if (dt_val (de_var (pv 2))) (dss_cons (ds_asg (de_tup (da_cons (de_sub (de_ix (hu_of hr) (de_var (pv 3)) de_int) (de_call h__law_pick (hr.mono (by decide)) rfl (da_cons (de_var (pv 1)) (da_cons de_int da_nil)))) (da_cons (de_add de_int (de_call h__law_pick (hr.mono (by decide)) rfl (da_cons (de_var (pv 1)) (da_cons de_int da_nil)))) da_nil))) (dg_tup (n := 2) rfl (dgs_cons (dg_name (pg_name (i := 20) sc_law.nd rfl (Or.inr rfl))) (dgs_cons (dg_name (pg_name (i := 21) sc_law.nd rfl (Or.inr rfl))) dgs_nil)))) (dss_cons (ds_set' (ps_set (i := 22) sc_law.nd rfl (Or.inl rfl) (de_tupOf rfl T.no_tuple (da_cons (de_fz (dn_comp (own := [(".0", 26), ("own", 27)]) rfl sc_law.nd (di_val (de_var (pv 5))) (blkOk_by (N := N_law) (sc := defScope s_law) (by decide +kernel)) (fun _ _ _ _ _ => (dgc_name (pg_name (i := 27) sc_law.nd rfl (Or.inl rfl)) (by decide))) (fun _ _ _ _ _ => dts_nil) (fun _ _ _ _ _ => (de_tup (da_cons (de_var (pv 27)) (da_cons (de_ite (dt_eq (hr.units) (de_var (pv 27)) (de_var (pv 15))) (de_tupOf rfl T.no_tuple (da_cons (de_fz (dn_repL (de_fz (dn_lst (da_cons (de_var (pv 20)) da_nil))) de_int)) da_nil)) (de_tup da_nil)) da_nil)))))) da_nil)))) (dss_cons (ds_set' (ps_set (i := 23) sc_law.nd rfl (Or.inl rfl) (de_tupOf rfl T.no_tuple (da_cons (de_fz (dn_comp (own := [(".0", 26), ("own", 27)]) rfl sc_law.nd (di_val (de_var (pv 5))) (blkOk_by (N := N_law) (sc := defScope s_law) (by decide +kernel)) (fun _ _ _ _ _ => (dgc_name (pg_name (i := 27) sc_law.nd rfl (Or.inl rfl)) (by decide))) (fun _ _ _ _ _ => dts_nil) (fun _ _ _ _ _ => (de_tup (da_cons (de_var (pv 27)) (da_cons (de_ite (dt_eq (hr.units) (de_var (pv 27)) (de_var (pv 15))) (de_tupOf rfl T.no_tuple (da_cons (de_fz (dn_catL (de_fz (dn_repL (de_fz (dn_lst (da_cons (de_var (pv 20)) da_nil))) (de_var (pv 21)))) (de_fz (dn_repL (de_fz (dn_lst (da_cons (de_add (de_var (pv 20)) de_int) da_nil))) (de_sub de_int (de_var (pv 21))))))) da_nil)) (de_tup da_nil)) da_nil)))))) da_nil)))) (dss_one (ds_if (dt_w (dw_or (dt_ne (hr.units) (de_call h__law_pair_held (hr.mono (by decide)) rfl (da_cons (de_var (pv 6)) (da_cons (de_var (pv 23)) (da_cons (de_var (pv 22)) (da_cons (de_var (pv 7)) da_nil))))) de_int) (dw_or1 (dt_ne (hr.units) (de_call h__law_pair_held (hr.mono (by decide)) rfl (da_cons (de_var (pv 6)) (da_cons (de_var (pv 22)) (da_cons (de_var (pv 23)) (da_cons (de_var (pv 7)) da_nil))))) de_int)))) (dss_one (ds_ret de_bl)) dss_nil))))) dss_nil) (dss_cons (ds_set' (ps_set (i := 24) sc_law.nd rfl (Or.inl rfl) (de_fz (dn_lst (da_cons (de_var (pv 11)) (da_cons (de_var (pv 9)) (da_cons (de_var (pv 8)) (da_cons (de_var (pv 10)) (da_cons (de_var (pv 13)) (da_cons (de_var (pv 14)) da_nil)))))))))) (dss_cons (ds_if (dt_not (dt_val (de_call h__law_same (hr.mono (by decide)) rfl (da_cons (de_call h_order_kept (hr.mono (by decide)) rfl (da_cons (de_var (pv 6)) (da_cons (de_tupOf rfl T.no_tuple (da_cons (de_fz (dn_slice (de_var (pv 24)) do_none (do_some (de_add de_int (de_call h__law_pick (hr.mono (by decide)) rfl (da_cons (de_var (pv 1)) (da_cons de_int da_nil))))))) da_nil)) (da_cons (de_var (pv 7)) da_nil)))) (da_cons de_bl da_nil))))) (dss_one (ds_ret de_bl)) dss_nil) (dss_cons (ds_set' (ps_set (i := 25) sc_law.nd rfl (Or.inl rfl) (de_fz (dn_lst (da_cons (de_ix (hu_of hr) (de_var (pv 3)) de_int) (da_cons (de_neg de_int) (da_cons (de_call h__law_thing (hr.mono (by decide)) rfl (da_cons (de_var (pv 1)) (da_cons (de_var (pv 3)) da_nil))) (da_cons de_int da_nil)))))))) (dss_one (ds_ret (de_and (de_call h__law_slices_held (hr.mono (by decide)) rfl (da_cons (de_var (pv 6)) (da_cons (de_var (pv 9)) (da_cons (de_var (pv 8)) (da_cons (de_var (pv 7)) (da_cons (de_var (pv 25)) da_nil)))))) (de_one (de_call h__law_slices_held (hr.mono (by decide)) rfl (da_cons (de_var (pv 6)) (da_cons (de_var (pv 13)) (da_cons (de_var (pv 10)) (da_cons (de_var (pv 7)) (da_cons (de_fz (dn_slice (de_var (pv 25)) do_none (do_some de_int))) da_nil))))))))))))))))))))))))))))))))))) ?_
  intro ds M Q hn h
  obtain ⟨xs, rfl, hl, rfl, q⟩ := h
  have hz := sizeLine_eq
  refine seq_step fun D0 hn0 hr0 => ?_
  simp [wSetNew]
  refine ⟨xs, rfl, hl, fun ys0 hy0 p hp => ?_⟩
  have hy0 : ys0.length ≤ 1200 := by omega
  generalize hM : (fun _ => none : Mh) = M0 at hp ⊢
  refine hn0 _ (seq_step fun D1 hn1 hr1 => ?_)
  simp
  refine u__law_pick (.upd hy0) (by decide) fun i ys1 hi hy1 => ?_
  simp [updM_updM]
  generalize (decide ((i : Int) = 4)) = wide
  refine hn1 _ (seq_step fun D2 hn2 hr2 => ?_)
  simp
  refine ⟨p, rfl, .upd hy1, fun nums ys2 hnums hy2 => ?_⟩
  simp [updM_updM]
  refine u__law_pick (.upd hy2) (by decide) fun i2 ys3 hi2 hy3 => ?_
  simp [updM_updM]
  have enames : ([Dat.str "X", Dat.str "YZ"] : List Dat).take i2 = ((["X", "YZ"] : List Str).take i2).map .str := by rw [List.map_take]; rfl
  rw [enames]
  have hnl : ((["X", "YZ"] : List Str).take i2).length ≤ 2 := by simp; omega
  generalize ((["X", "YZ"] : List Str).take i2) = names at hnl ⊢
  refine hn2 _ (seq_step fun D3 hn3 hr3 => ?_)
  simp
  refine u__law_pick (.upd hy3) (by decide) fun i3 ys4 hi3 hy4 => ?_
  simp [updM_updM]
  refine ⟨p, i3 + 1, by simp; omega, by omega, .upd hy4, fun ns ys5 hnsl hns hso hy5 => ?_⟩
  rw [onVal_lst, updM_updM]
  refine hn3 _ (seq_step fun D4 hn4 hr4 => ?_)
  have hns1 : 0 < ns.length := by omega
  have hns3 : ns.length ≤ 3 := by omega
  have hnl3 := hnums.2.1
  have key4 : ∀ (r : List Cmd) (ys : List Int), r.length ≤ 20 → RecOk ns nums names r → ys.length ≤ 1200 → D4.nx ⟨[some (.rd (xs.map .int)), some (.ref p), some (.bl wide), some (.fl (nums.map .int)), some (.fl (names.map .str)), some (.fl (ns.map .str)), some (dR r), none, none, none, none, none, none, none, none, none, none, none, none, none, none, none, none, none, none, none, none, none, none], updM M0 p (Pl ys)⟩ := fun r ys6 hrl hr hy6 => by
    refine hn4 _ (seq_step fun D5 hn5 hr5 => ?_)
    simp
    refine ⟨p, r, nums, rfl, by omega, hnums, .upd hy6, fun v ys7 hv hy7 => ?_⟩
    rw [onVal_val, updM_updM]
    have G : Good v r ns := good_of hns hns3 hr hrl hv hnums hso
    refine hn5 _ (seq_step fun D6 hn6 hr6 => ?_)
    have key6 : ∀ (high : Cont) (ys : List Int), CtOk ns 30 high → ys.length ≤ 1200 → D6.nx ⟨[some (.rd (xs.map .int)), some (.ref p), some (.bl wide), some (.fl (nums.map .int)), some (.fl (names.map .str)), some (.fl (ns.map .str)), some (dR r), some (dVs v), some (dC high), none, none, none, none, none, none, none, none, none, none, none, none, none, none, none, none, none, none, none, none], updM M0 p (Pl ys)⟩ := fun high ys8 hhigh hy8 => by
      refine hn6 _ (seq_step fun D7 hn7 hr7 => ?_)
      simp
      refine ⟨p, ns, 30, high, nums, rfl, hhigh, hns3, hnums, by omega, .upd hy8, fun one ys9 hone hb1 hy9 => ?_⟩
      rw [onVal_val, updM_updM]
      refine ⟨p, ns, nums, 5, rfl, hns3, hnums, by omega, .upd hy9, fun other ys10 hother hy10 => ?_⟩
      rw [onVal_val, updM_updM]
      refine hn7 _ (seq_step fun D8 hn8 hr8 => ?_)
      simp
      refine ⟨p, ns, 32, one, nums, rfl, hone, hns3, hnums, by omega, .upd hy10, fun low ys11 hlow hb2 hy11 => ?_⟩
      rw [onVal_val, updM_updM]
      refine hn8 _ (seq_step fun D9 hn9 hr9 => ?_)
      have k1 : CtOk ns 100 high := hhigh.mono (by omega)
      have k2 : CtOk ns 100 one := hone.mono (by omega)
      have k3 : CtOk ns 100 other := hother.mono (by omega)
      have k4 : CtOk ns 100 low := hlow.mono (by omega)
      have hb3 : below low high = true := below_trans (hone.len.trans hhigh.len.symm) hb2 hb1
      simp
      refine u__law_pair_held G k2 k1 ?_
      rw [onVal_val]
      refine u__law_pair_held G k4 k1 ?_
      rw [onVal_val]
      refine u__law_pair_held G k1 k2 ?_
      rw [onVal_val]
      refine hn9 _ (seq_step fun D10 hn10 hr10 => ?_)
      simp
      refine u__law_pair_held G k2 k3 ?_
      rw [onVal_val]
      refine u__law_pair_held G k3 k1 ?_
      simp
      refine ⟨by omega, ?_⟩
      refine hn10 _ (seq_step fun D11 hn11 hr11 => ?_)
      have c1 : ∀ {c : Cont}, CtOk ns 100 c → ContOk c 10000 := fun h => h.cont hns hns3 (by omega)
      have le : one.length = other.length := k2.len.trans k3.len.symm
      simp
      refine ⟨one, other, true, rfl, le, c1 k2, c1 k3, ?_⟩
      rw [onVal_val]
      refine ⟨one, other, false, rfl, le, c1 k2, c1 k3, ?_⟩
      rw [onVal_val]
      refine hn11 _ (seq_step fun D12 hn12 hr12 => ?_)
      have k5 : CtOk ns 100 (mixed true one other) := k2.mixed k3
      have k6 : CtOk ns 100 (mixed false one other) := k2.mixed k3
      have sz : ∀ {c : Cont}, CtOk ns 100 c → szD (dC c) ≤ 290000 := fun {c} h => by
        have h1 := szD_dC h.ln
        have h2 := h.len
        have h3 := Nat.mul_le_mul_right (100 + 3) (show c.length ≤ 3 by omega)
        omega
      have b4 : below (mixed true one other) other = true := mixed_lo2
      have b5 : below other (mixed false one other) = true := mixed_up2
      have b6 : below (mixed true one other) (mixed false one other) = true := below_trans (k3.len.trans k6.len.symm) b4 b5
      simp
      refine ⟨one, other, rfl, c1 k2, c1 k3, ?_⟩
      rw [onVal_val]
      refine u__law_same (plD_dC _) (sz k5) ?_
      simp
      refine ⟨one, other, rfl, c1 k2, c1 k3, ?_⟩
      rw [onVal_val]
      refine u__law_same (plD_dC _) (sz k6) ?_
      simp
      refine hn12 _ (seq_step fun D13 hn13 hr13 => ?_)
      generalize (mixed true one other) = least at k5 b4 b6 ⊢
      generalize (mixed false one other) = most at k6 b5 b6 ⊢
      simp
      refine u__law_pair_held G k5 k3 ?_
      rw [onVal_val]
      refine u__law_pair_held G k3 k6 ?_
      rw [onVal_val]
      refine u__law_pair_held G k5 k6 ?_
      simp
      refine ⟨by omega, ?_⟩
      refine hn13 _ (seq_step fun D14 hn14 hr14 => ?_)
      have hhl : high.length = ns.length := hhigh.len
      have hlenO : ∀ M, lenOf M (dC high) = some high.length := fun M => by simp [dC]
      simp [hlenO]
      refine u__law_pick (.upd hy11) (by omega) fun j ys12 hj hy12 => ?_
      simp [updM_updM]
      have hj2 : j < high.length := by omega
      have hje : high[j]? = some high[j] := List.getElem?_eq_getElem hj2
      have hjm : high[j] ∈ high := List.getElem_mem hj2
      generalize high[j] = hp at hje hjm
      obtain ⟨nm, things⟩ := hp
      have hnm : nm ∈ ns := by rw [← hhigh.nm]; exact List.mem_map.mpr ⟨_, hjm, rfl⟩
      have hix : ∀ M, ixOf M (dC high) (.int (j : Nat)) = some (.tup [.str nm, dI things]) := fun M => by
        rw [dC_enc]
        simp [hje, encP]
      simp [hix]
      refine hn14 _ (seq_step fun D15 hn15 hr15 => ?_)
      rw [show dC high = .tup (high.map encP) from rfl]
      simp [wComp, wipeD]
      refine ⟨by omega, compL_map (fun p => encP (p.1, isort (p.2 ++ if p.1 = nm then [1000] else []))) high (fun p hp Q1 q1 => ?_) ?_⟩
      · have := hhigh.ln p hp
        simp [encP, dI] at q1 ⊢
        by_cases e : p.1 = nm
        · simp [e] at q1 ⊢
          refine ⟨by omega, ?_⟩
          rw [show p.2.map Dat.int ++ [.int 1000] = (p.2 ++ [1000]).map .int by simp]
          exact f_sorted_tup ⟨_, rfl, q1⟩
        · simp [e] at q1 ⊢
          refine ⟨by omega, ?_⟩
          exact f_sorted_tup ⟨_, rfl, q1⟩
      have emore : high.map (fun p => encP (p.1, isort (p.2 ++ if p.1 = nm then [1000] else []))) = (moreC high nm).map encP := by
        unfold moreC
        rw [List.map_map]; rfl
      rw [emore]
      have k7 : CtOk ns 100 (moreC high nm) := (moreC_ok hhigh).mono (by omega)
      have b7 : below (moreC high nm) high = true := moreC_below hhigh.sr
      have b8 : below high (moreC high nm) = false := moreC_not hjm
      generalize (moreC high nm) = more at k7 b7 b8 ⊢
      refine hn15 _ (seq_step fun D16 hn16 hr16 => ?_)
      rw [show Dat.tup (more.map encP) = dC more from rfl, show Dat.tup (high.map encP) = dC high from rfl]
      simp
      refine u__law_pair_held G k1 k7 ?_
      rw [onVal_val]
      refine u__law_pair_held G k7 k1 ?_
      simp
      refine ⟨by omega, ?_⟩
      refine hn16 _ (seq_step fun D17 hn17 hr17 => ?_)
      simp [pv_t hb1, pv_t hb3, pv_t b4, pv_t b5, pv_t b6, pv_f b8, pv_t b7, pv_0]
      refine hn17 _ (seq_step fun D18 hn18 hr18 => ?_)
      simp
      refine u_between (c1 k4) (c1 k2) (c1 k1) ?_
      rw [hb2, hb1, onVal_val]
      refine u__law_same rfl (by simp [szD]) ?_
      simp
      refine hn18 _ (seq_step fun D19 hn19 hr19 => ?_)
      simp [wFor]
      have hlit : ([.tup [dC high, dC more], .tup [dC low, dC other], .tup [dC other, dC high], .tup [dC least, dC low]] : List Dat) = ([(high, more), (low, other), (other, high), (least, low)] : List (Cont × Cont)).map fun p => .tup [dC p.1, dC p.2] := rfl
      rw [hlit]
      have hall : ∀ q ∈ ([(high, more), (low, other), (other, high), (least, low)] : List (Cont × Cont)), CtOk ns 100 q.1 ∧ CtOk ns 100 q.2 := by
        simp
        exact ⟨⟨k1, k7⟩, ⟨k4, k3⟩, ⟨k3, k1⟩, k5, k4⟩
      generalize ([(high, more), (low, other), (other, high), (least, low)] : List (Cont × Cont)) = prs at hall ⊢
      refine forL_ind (I := fun l S => ∃ e18 e19 : Option Dat, S = ⟨[some (.rd (xs.map .int)), some (.ref p), some (.bl wide), some (.fl (nums.map .int)), some (.fl (names.map .str)), some (.fl (ns.map .str)), some (dR r), some (dVs v), some (dC high), some (dC one), some (dC other), some (dC low), some (.fl [.int 2, .int 2, .int (pv high one), .int (pv one other), .int (pv other high), .int 2, .int 2, .int 2, .int 1, .int 2]), some (dC least), some (dC most), some (.str nm), some (dI things), some (dC more), e18, e19, none, none, none, none, none, none, none, none, none], updM M0 p (Pl ys12)⟩ ∧ ∀ q ∈ l, CtOk ns 100 q.1 ∧ CtOk ns 100 q.2) ?_ ?_ prs _ ⟨none, none, rfl, hall⟩
      rotate_left
      · rintro ⟨u, o⟩ l S ⟨e18, e19, rfl, hq⟩ N hN
        obtain ⟨q1, q2⟩ := hq _ List.mem_cons_self
        have hl1 : u.length = one.length := q1.len.trans k2.len.symm
        have hl2 : one.length = o.length := k2.len.trans q2.len.symm
        have fin : ∃ S0, Imp ⟨[some (.rd (xs.map .int)), some (.ref p), some (.bl wide), some (.fl (nums.map .int)), some (.fl (names.map .str)), some (.fl (ns.map .str)), some (dR r), some (dVs v), some (dC high), some (dC one), some (dC other), some (dC low), some (.fl [.int 2, .int 2, .int (pv high one), .int (pv one other), .int (pv other high), .int 2, .int 2, .int 2, .int 1, .int 2]), some (dC least), some (dC most), some (.str nm), some (dI things), some (dC more), some (dC u), some (dC o), none, none, none, none, none, none, none, none, none], updM M0 p (Pl ys12)⟩ S0 ∧ N S0 := nxt (hN _ ⟨_, _, rfl, fun q hq2 => hq q (List.mem_cons_of_mem _ hq2)⟩)
        simp
        refine u_between (c1 q1) (c1 k2) (c1 q2) ?_
        rw [onVal_val]
        refine u__law_below hl1 (c1 q1) (c1 k2) ?_
        rw [onVal_val, onB_blE]
        cases e : below u one with
        | true =>
          rw [if_pos rfl]
          refine u__law_below hl2 (c1 k2) (c1 q2) ?_
          rw [onVal_val, Bool.true_and]
          refine u__law_same rfl (by simp [szD]) ?_
          simp
          exact fin
        | false =>
          rw [if_neg Bool.false_ne_true, Bool.false_and]
          refine u__law_same rfl (by simp [szD]) ?_
          simp
          exact fin
      rintro S ⟨e18, e19, rfl, _⟩
      refine hn19 _ (seq_step fun D20 hn20 hr20 => ?_)
      have hn0pos : 0 < nums.length := hnums.1
      have hn0' : nums[0]? = some nums[0] := List.getElem?_eq_getElem hn0pos
      have hn0b := hnums.2.2 _ (List.mem_of_getElem? hn0')
      generalize nums[0] = k0 at hn0' hn0b
      have key20 : ∀ (e20 e21 e22 e23 : Option Dat) (ys : List Int), ys.length ≤ 1200 → D20.nx ⟨[some (.rd (xs.map .int)), some (.ref p), some (.bl wide), some (.fl (nums.map .int)), some (.fl (names.map .str)), some (.fl (ns.map .str)), some (dR r), some (dVs v), some (dC high), some (dC one), some (dC other), some (dC low), some (.fl [.int 2, .int 2, .int (pv high one), .int (pv one other), .int (pv other high), .int 2, .int 2, .int 2, .int 1, .int 2]), some (dC least), some (dC most), some (.str nm), some (dI things), some (dC more), e18, e19, e20, e21, e22, e23, none, none, none, none, none], updM M0 p (Pl ys)⟩ := fun e20 e21 e22 e23 ys13 hy13 => by
        refine hn20 _ (seq_step fun D21 hn21 hr21 => ?_)
        simp
        refine hn21 _ (seq_step fun D22 hn22 hr22 => ?_)
        simp
        refine u__law_pick (.upd hy13) (by decide) fun m ys14 hm hy14 => ?_
        simp [updM_updM]
        have e3 : (3 : Int) + (m : Int) = ((3 + m : Nat) : Int) := by omega
        have etk : ([dC low, dC one, dC high, dC other, dC least, dC most] : List Dat).take (3 + m) = (([low, one, high, other, least, most] : List Cont).take (3 + m)).map dC := by rw [List.map_take]; rfl
        have hall6 : ∀ c ∈ ([low, one, high, other, least, most] : List Cont).take (3 + m), CtOk ns 100 c := fun c hc => by
          have := List.mem_of_mem_take hc
          simp at this
          rcases this with rfl | rfl | rfl | rfl | rfl | rfl <;> assumption
        rw [e3, cutD_hi, etk]
        refine u_order_kept (fun c hc => G.run (hall6 c hc) (by omega)) ?_
        rw [all_kept G hall6, onVal_val]
        refine u__law_same rfl (by simp [szD]) ?_
        simp
        refine hn22 _ (seq_step fun D23 hn23 hr23 => ?_)
        simp [hn0']
        refine u__law_thing hnums (.upd hy14) fun x ys15 hx1 hx2 hy15 => ?_
        simp [updM_updM]
        refine hn23 _ ?_
        simp
        refine u__law_slices_held (ts := [k0, -1, x, 1000]) G k2 k1 hb1 (by simp) ?_
        simp
        refine u__law_slices_held (ts := [k0, -1]) G k5 k3 b4 (by simp) ?_
        simp
        exact ends (q _)
      cases wide with
      | false =>
        simp
        exact key20 _ _ _ _ ys12 hy12
      | true =>
        simp [hn0']
        refine u__law_pick (.upd hy12) (by decide) fun i5 ys13 hi5 hy13 => ?_
        simp [updM_updM]
        refine u__law_pick (.upd hy13) (by decide) fun m ys14 hm hy14 => ?_
        have hk50 : ∃ k : Nat, 50 + (m : Int) = (k : Int) ∧ k < 60 ∧ (50 + (m : Int)).toNat = k ∧ (60 - (50 + (m : Int))).toNat = 60 - k := ⟨50 + m, by omega, by omega, by omega, by omega⟩
        obtain ⟨k, hk1, hk2, hk3, hk4⟩ := hk50
        have hti : -1000 ≤ k0 - (i5 : Int) ∧ k0 - (i5 : Int) ≤ 999 := by omega
        generalize k0 - (i5 : Int) = th at hti
        simp [wComp, wipeD]
        refine ⟨by omega, compL_map (fun a => encP (a, if a = nm then List.replicate 60 th else [])) ns (fun a ha Q1 q1 => ?_) ?_⟩
        · simp [encP, dI] at q1 ⊢
          by_cases e : a = nm
          · simp [e] at q1 ⊢
            exact f_rep1 (by omega) (by omega) ⟨_, rfl, q1⟩
          · simp [e] at q1 ⊢
            exact q1
        rw [show (ns.map fun a => encP (a, if a = nm then List.replicate 60 th else [])) = (onlyC ns nm (List.replicate 60 th)).map encP by unfold onlyC; rw [List.map_map]; rfl]
        refine ⟨by omega, compL_map (fun a => encP (a, if a = nm then lateL th k else [])) ns (fun a ha Q1 q1 => ?_) ?_⟩
        · simp [encP, dI] at q1 ⊢
          by_cases e : a = nm
          · simp [e] at q1 ⊢
            refine f_rep1 (by omega) (by omega) ⟨_, rfl, ?_⟩
            refine f_rep1 (by omega) (by omega) ⟨_, rfl, ?_⟩
            rw [hk3, hk4]
            refine ⟨by simp; omega, ?_⟩
            unfold lateL at q1
            rw [List.map_append] at q1
            exact q1
          · simp [e] at q1 ⊢
            exact q1
        rw [show (ns.map fun a => encP (a, if a = nm then lateL th k else [])) = (onlyC ns nm (lateL th k)).map encP by unfold onlyC; rw [List.map_map]; rfl]
        have hthb : ∀ k, ∀ x ∈ lateL th k, -1000 ≤ x ∧ x ≤ 1000 := fun k x hx => by
          obtain ⟨i, hi⟩ := List.mem_iff_getElem?.mp hx
          rcases late_get hi with ⟨_, e⟩ | ⟨_, e⟩ <;> omega
        have k8 : CtOk ns 100 (onlyC ns nm (lateL th k)) := (onlyC_ok late_sr (by rw [late_len (by omega)]; omega) (hthb k)).mono (by omega)
        have k9 : CtOk ns 100 (onlyC ns nm (List.replicate 60 th)) := (onlyC_ok long_sr (by simp) fun x hx => by
          have := List.eq_of_mem_replicate hx
          omega).mono (by omega)
        have b9 : below (onlyC ns nm (lateL th k)) (onlyC ns nm (List.replicate 60 th)) = false := onlyC_not hnm (late_not hk2)
        have b10 : below (onlyC ns nm (List.replicate 60 th)) (onlyC ns nm (lateL th k)) = true := onlyC_below (long_below (by omega))
        generalize (onlyC ns nm (List.replicate 60 th)) = lg at k9 b9 b10 ⊢
        generalize (onlyC ns nm (lateL th k)) = lt at k8 b9 b10 ⊢
        refine u__law_pair_held G k8 k9 ?_
        rw [pv_f b9]
        simp
        refine u__law_pair_held G k9 k8 ?_
        rw [pv_t b10]
        simp [updM_updM]
        exact key20 _ _ _ _ ys14 hy14
    cases wide with
    | false =>
      simp
      exact ⟨p, ns, nums, 5, rfl, hns3, hnums, by omega, .upd hy7, fun high ys8 hh hy8 => by
        rw [onVal_val, updM_updM]
        exact key6 high ys8 (hh.mono (by omega)) hy8⟩
    | true =>
      simp
      exact ⟨p, ns, nums, 30, rfl, hns3, hnums, by omega, .upd hy7, fun high ys8 hh hy8 => by
        rw [onVal_val, updM_updM]
        exact key6 high ys8 hh hy8⟩
  cases wide with
  | false =>
    simp
    refine u__law_pick (.upd hy5) (by decide) fun i4 ys6 hi4 hy6 => ?_
    simp [updM_updM]
    exact ⟨p, ns, nums, names, i4 + 1, by simp; omega, hns1, hns3, hns.1, hnums.1, hnums.2.1, hnl, by omega, .upd hy6, fun r ys7 hr1 hr2 hy7 => by
      rw [onVal_val, updM_updM]
      exact key4 r ys7 (by omega) hr2 hy7⟩
  | true =>
    simp
    exact ⟨p, ns, nums, names, 20, rfl, hns1, hns3, hns.1, hnums.1, hnums.2.1, hnl, by omega, .upd hy5, fun r ys7 hr1 hr2 hy7 => by
      rw [onVal_val, updM_updM]
      exact key4 r ys7 (by omega) hr2 hy7⟩
/-- all defs as the top leaves them -/
structure Defs (K : PySem.W.Frag) (mg : Str → Option Value) : Prop where
  D_is_number : Def K mg "is_number" s_is_number ["thing"]
  D_at_most : Def K mg "at_most" s_at_most ["one", "other"]
  D_least_of : Def K mg "least_of" s_least_of ["things"]
  D_put_in : Def K mg "put_in" s_put_in ["things", "one"]
  D_poured : Def K mg "poured" s_poured ["one", "other"]
  D_put_of : Def K mg "put_of" s_put_of ["command"]
  D_counts_at : Def K mg "counts_at" s_counts_at ["contents", "limit"]
  D__stepped : Def K mg "_stepped" s__stepped ["step", "row"]
  D_held_in : Def K mg "held_in" s_held_in ["contents", "name"]
  D_value_of : Def K mg "value_of" s_value_of ["values", "name"]
  D__row_below : Def K mg "_row_below" s__row_below ["one", "other"]
  D__mixed : Def K mg "_mixed" s__mixed ["one", "other", "lower"]
  D_limits_of : Def K mg "limits_of" s_limits_of ["one", "other"]
  D__law_draws : Def K mg "_law_draws" s__law_draws ["script", "salt", "many"]
  D__law_pick : Def K mg "_law_pick" s__law_pick ["pool", "many"]
  D__law_bins_of : Def K mg "_law_bins_of" s__law_bins_of ["recipe"]
  D__law_run : Def K mg "_law_run" s__law_run ["recipe", "contents", "values"]
  D__law_count : Def K mg "_law_count" s__law_count ["recipe", "limit", "lot", "counts"]
  D__law_puts : Def K mg "_law_puts" s__law_puts ["recipe"]
  D__law_same : Def K mg "_law_same" s__law_same ["told", "due"]
  D__law_below : Def K mg "_law_below" s__law_below ["one", "other"]
  D__law_told_below : Def K mg "_law_told_below" s__law_told_below ["one", "other"]
  D__law_both : Def K mg "_law_both" s__law_both ["one", "other", "lower"]
  D__law_at : Def K mg "_law_at" s__law_at ["contents", "limit"]
  D__law_limits : Def K mg "_law_limits" s__law_limits ["one", "other"]
  D_told_numbers : Def K mg "told_numbers" s_told_numbers ["recipe"]
  D_run_steps : Def K mg "run_steps" s_run_steps ["steps", "numbers"]
  D_with_held : Def K mg "with_held" s_with_held ["contents", "name", "things"]
  D_number_put : Def K mg "number_put" s_number_put ["command", "values"]
  D_is_below : Def K mg "is_below" s_is_below ["one", "other"]
  D_told_below : Def K mg "told_below" s_told_below ["one", "other"]
  D_lower_contents : Def K mg "lower_contents" s_lower_contents ["one", "other"]
  D_upper_contents : Def K mg "upper_contents" s_upper_contents ["one", "other"]
  D_counts_order : Def K mg "counts_order" s_counts_order ["one", "other", "limits"]
  D__law_bins : Def K mg "_law_bins" s__law_bins ["pool", "many"]
  D__law_numbers : Def K mg "_law_numbers" s__law_numbers ["pool"]
  D__law_recipe : Def K mg "_law_recipe" s__law_recipe ["pool", "bins", "numbers", "names", "many"]
  D__law_thing : Def K mg "_law_thing" s__law_thing ["pool", "numbers"]
  D__law_cut_at : Def K mg "_law_cut_at" s__law_cut_at ["recipe", "values", "limit"]
  D_numbers_of_all : Def K mg "numbers_of_all" s_numbers_of_all ["recipes"]
  D_done_command : Def K mg "done_command" s_done_command ["command", "contents", "values"]
  D_between : Def K mg "between" s_between ["low", "contents", "high"]
  D__law_held : Def K mg "_law_held" s__law_held ["pool", "bins", "numbers", "most"]
  D__law_values : Def K mg "_law_values" s__law_values ["pool", "recipe", "numbers"]
  D__law_lower : Def K mg "_law_lower" s__law_lower ["pool", "contents", "numbers"]
  D_steps_at : Def K mg "steps_at" s_steps_at ["recipes", "cut", "recipe", "names"]
  D_run_recipe : Def K mg "run_recipe" s_run_recipe ["recipe", "contents", "values"]
  D_cut_at : Def K mg "cut_at" s_cut_at ["recipes", "values", "limit"]
  D_run_counts : Def K mg "run_counts" s_run_counts ["recipes", "cut", "recipe", "counts"]
  D_keeps_order : Def K mg "keeps_order" s_keeps_order ["recipe", "one", "other", "values"]
  D_order_kept : Def K mg "order_kept" s_order_kept ["recipe", "batch", "values"]
  D_more_is_more : Def K mg "more_is_more" s_more_is_more ["recipe", "cut", "one", "other"]
  D__law_pair_held : Def K mg "_law_pair_held" s__law_pair_held ["recipe", "one", "other", "values"]
  D__law_slices_held : Def K mg "_law_slices_held" s__law_slices_held ["recipe", "one", "other", "values", "limits"]
theorem fn_all {f : Addr} {fd : FuncData} (D : Defs K mg) (T : Txt mg) (F : Fun K "law" "law" s_law f fd) : FnOk P w K mg base CX0 8 f fd ["script"] (LF K 1 wf_law) := by
  have h_is_number : Has P w K mg base "is_number" 1 1 wf_is_number := d_is_number D.D_is_number T 
  have h_at_most : Has P w K mg base "at_most" 1 2 wf_at_most := d_at_most D.D_at_most T 
  have h_least_of : Has P w K mg base "least_of" 1 1 wf_least_of := d_least_of D.D_least_of T 
  have h_put_in : Has P w K mg base "put_in" 1 2 wf_put_in := d_put_in D.D_put_in T 
  have h_poured : Has P w K mg base "poured" 1 2 wf_poured := d_poured D.D_poured T 
  have h_put_of : Has P w K mg base "put_of" 1 1 wf_put_of := d_put_of D.D_put_of T 
  have h_counts_at : Has P w K mg base "counts_at" 1 2 wf_counts_at := d_counts_at D.D_counts_at T 
  have h__stepped : Has P w K mg base "_stepped" 1 2 wf__stepped := d__stepped D.D__stepped T 
  have h_held_in : Has P w K mg base "held_in" 1 2 wf_held_in := d_held_in D.D_held_in T 
  have h_value_of : Has P w K mg base "value_of" 1 2 wf_value_of := d_value_of D.D_value_of T 
  have h__row_below : Has P w K mg base "_row_below" 1 2 wf__row_below := d__row_below D.D__row_below T 
  have h__mixed : Has P w K mg base "_mixed" 1 3 wf__mixed := d__mixed D.D__mixed T 
  have h_limits_of : Has P w K mg base "limits_of" 1 2 wf_limits_of := d_limits_of D.D_limits_of T 
  have h__law_draws : Has P w K mg base "_law_draws" 1 3 wf__law_draws := d__law_draws D.D__law_draws T 
  have h__law_pick : Has P w K mg base "_law_pick" 1 2 wf__law_pick := d__law_pick D.D__law_pick T 
  have h__law_bins_of : Has P w K mg base "_law_bins_of" 1 1 wf__law_bins_of := d__law_bins_of D.D__law_bins_of T 
  have h__law_run : Has P w K mg base "_law_run" 1 3 wf__law_run := d__law_run D.D__law_run T 
  have h__law_count : Has P w K mg base "_law_count" 1 4 wf__law_count := d__law_count D.D__law_count T 
  have h__law_puts : Has P w K mg base "_law_puts" 1 1 wf__law_puts := d__law_puts D.D__law_puts T 
  have h__law_same : Has P w K mg base "_law_same" 1 2 wf__law_same := d__law_same D.D__law_same T 
  have h__law_below : Has P w K mg base "_law_below" 1 2 wf__law_below := d__law_below D.D__law_below T 
  have h__law_told_below : Has P w K mg base "_law_told_below" 1 2 wf__law_told_below := d__law_told_below D.D__law_told_below T 
  have h__law_both : Has P w K mg base "_law_both" 1 3 wf__law_both := d__law_both D.D__law_both T 
  have h__law_at : Has P w K mg base "_law_at" 1 2 wf__law_at := d__law_at D.D__law_at T 
  have h__law_limits : Has P w K mg base "_law_limits" 1 2 wf__law_limits := d__law_limits D.D__law_limits T 
  have h_told_numbers : Has P w K mg base "told_numbers" 2 1 wf_told_numbers := d_told_numbers D.D_told_numbers T h_is_number h_put_of
  have h_run_steps : Has P w K mg base "run_steps" 2 2 wf_run_steps := d_run_steps D.D_run_steps T h__stepped
  have h_with_held : Has P w K mg base "with_held" 2 3 wf_with_held := d_with_held D.D_with_held T h_held_in
  have h_number_put : Has P w K mg base "number_put" 2 2 wf_number_put := d_number_put D.D_number_put T h_value_of
  have h_is_below : Has P w K mg base "is_below" 2 2 wf_is_below := d_is_below D.D_is_below T h__row_below
  have h_told_below : Has P w K mg base "told_below" 2 2 wf_told_below := d_told_below D.D_told_below T h_at_most
  have h_lower_contents : Has P w K mg base "lower_contents" 2 2 wf_lower_contents := d_lower_contents D.D_lower_contents T h__mixed
  have h_upper_contents : Has P w K mg base "upper_contents" 2 2 wf_upper_contents := d_upper_contents D.D_upper_contents T h__mixed
  have h_counts_order : Has P w K mg base "counts_order" 2 3 wf_counts_order := d_counts_order D.D_counts_order T h_counts_at
  have h__law_bins : Has P w K mg base "_law_bins" 2 2 wf__law_bins := d__law_bins D.D__law_bins T h__law_pick
  have h__law_numbers : Has P w K mg base "_law_numbers" 2 1 wf__law_numbers := d__law_numbers D.D__law_numbers T h__law_pick
  have h__law_recipe : Has P w K mg base "_law_recipe" 2 5 wf__law_recipe := d__law_recipe D.D__law_recipe T h__law_pick
  have h__law_thing : Has P w K mg base "_law_thing" 2 2 wf__law_thing := d__law_thing D.D__law_thing T h__law_pick
  have h__law_cut_at : Has P w K mg base "_law_cut_at" 2 3 wf__law_cut_at := d__law_cut_at D.D__law_cut_at T h__law_puts
  have h_numbers_of_all : Has P w K mg base "numbers_of_all" 3 1 wf_numbers_of_all := d_numbers_of_all D.D_numbers_of_all T h_told_numbers
  have h_done_command : Has P w K mg base "done_command" 3 3 wf_done_command := d_done_command D.D_done_command T h_held_in h_least_of h_number_put h_poured h_put_in h_with_held
  have h_between : Has P w K mg base "between" 3 3 wf_between := d_between D.D_between T h_is_below
  have h__law_held : Has P w K mg base "_law_held" 3 4 wf__law_held := d__law_held D.D__law_held T h__law_pick h__law_thing
  have h__law_values : Has P w K mg base "_law_values" 3 3 wf__law_values := d__law_values D.D__law_values T h__law_thing
  have h__law_lower : Has P w K mg base "_law_lower" 3 3 wf__law_lower := d__law_lower D.D__law_lower T h__law_pick h__law_thing
  have h_steps_at : Has P w K mg base "steps_at" 4 4 wf_steps_at := d_steps_at D.D_steps_at T h_numbers_of_all
  have h_run_recipe : Has P w K mg base "run_recipe" 4 3 wf_run_recipe := d_run_recipe D.D_run_recipe T h_done_command
  have h_cut_at : Has P w K mg base "cut_at" 4 3 wf_cut_at := d_cut_at D.D_cut_at T h_numbers_of_all
  have h_run_counts : Has P w K mg base "run_counts" 5 4 wf_run_counts := d_run_counts D.D_run_counts T h_run_steps h_steps_at
  have h_keeps_order : Has P w K mg base "keeps_order" 5 4 wf_keeps_order := d_keeps_order D.D_keeps_order T h_is_below h_run_recipe h_told_below
  have h_order_kept : Has P w K mg base "order_kept" 6 3 wf_order_kept := d_order_kept D.D_order_kept T h_is_below h_keeps_order
  have h_more_is_more : Has P w K mg base "more_is_more" 6 4 wf_more_is_more := d_more_is_more D.D_more_is_more T h_run_counts
  have h__law_pair_held : Has P w K mg base "_law_pair_held" 6 4 wf__law_pair_held := d__law_pair_held D.D__law_pair_held T h__law_below h__law_limits h__law_run h__law_same h__law_told_below h_counts_order h_is_below h_keeps_order h_limits_of h_told_below
  have h__law_slices_held : Has P w K mg base "_law_slices_held" 7 5 wf__law_slices_held := d__law_slices_held D.D__law_slices_held T h__law_at h__law_bins_of h__law_count h__law_cut_at h__law_run h__law_same h_cut_at h_more_is_more h_run_counts
  exact fn_law F T h__law_below h__law_bins h__law_both h__law_draws h__law_held h__law_lower h__law_numbers h__law_pair_held h__law_pick h__law_recipe h__law_same h__law_slices_held h__law_thing h__law_values h_between h_lower_contents h_order_kept h_upper_contents
theorem def_of {h : Heap} {x : Str} {st : Stmt} {ps : List Str} {f : Addr} {od an : Option Addr} {sl : Array (Option Value)} {oc kV dc pm cd ct : Value} (X : K.In h) (G : h.Ns mainGlobals mg)
    (a : PySem.W.nsIn K mainGlobals x = some (some (.ref f))) (l : K.lookup f = some ⟨oc, od, .func (PySem.W.fnOf x x (defArgs st) (defBody st) (defScope st) .none kV dc pm an cd ct), sl⟩) (c : PySem.W.codeIn K cd x = true) (k : PySem.W.keepIn K (.ref f) = true)
    (b : ∀ (kV doc pm : Value) (an : Option Addr) (cdv ct : Value) (us : List Value), us.length = ps.length → bindArgs (PySem.W.fnOf x x (defArgs st) (defBody st) (defScope st) .none kV doc pm an cdv ct) ⟨us, []⟩ = pure (ps.zip us)) : Def K mg x st ps := by
  have F := fun_mk (st := st) l c k
  exact ⟨f, _, F, PySem.W.mg_of X G a, F.binds b⟩
end
theorem law_sp {K : PySem.W.Frag} {H : Hp} {a : Addr} {ns : List Int} (hl : ns.length ≤ 63) (hS : SqL K H a (ns.map V.int)) : LF K 1 wf_law [.ref a] H (fun v _ => v = .bl true) fun _ _ _ => False := by
  refine ⟨rfl, fun _ => False, [.rd (ns.map .int)], fun _ => none, fun r _ => r = .val (.bl true), ⟨fun a mo e => (by cases e), fun a f => f.elim⟩, .cons (.rd (vs := ns.map V.int) ?_ (Reps.ofInts ns)) .nil, ⟨ns, rfl, by omega, rfl, fun M' => rfl⟩, fun r M' v H' ok e => ?_⟩
  · rcases hS with h | h
    · exact .inl ⟨rfl, fun f => f, h⟩
    · exact .inr h
  · subst e
    obtain ⟨_, _, rp⟩ := ok
    cases rp
    rfl
theorem walk {l : PySem.W.OpenLaw} {q : Program} {loose : List Str} {XP : (Str → Option Value) → Heap → Prop} {YP : World → Heap → Prop} {d : DefRec} {K : Params → PySem.W.Frag} (hn : l.most = some 63) (hdf : d.params.defaults = [])
    (hY : ∀ (w : World) (h : Heap), YP w h → (K w.params).In h)
    (F : ∀ (w : World) (mg : Str → Option Value) (fa : Addr) (h : Heap), (K w.params).In h → h.Ns mainGlobals mg → mg d.name = some (.ref fa) →
      ∃ fd : FuncData, (∀ (s : Shared) (u : Value), BindsTo s fd ⟨[u], []⟩ [("script", u)]) ∧ ∀ base : Heap, (K w.params).In base → base.Ns mainGlobals mg → FnOk l.prog w (K w.params) mg base CX0 8 fa fd ["script"] (LF (K w.params) 1 wf_law)) :
    PySem.W.WalkO q loose XP YP l.row.toRowW d [] (fun f vs => PySem.call f vs) :=
  L2.walk_of (n := 63) (k := 8) (x := "script") (CX := fun _ => CX0) (sp := fun w => LF (K w.params) 1 wf_law) hn (by decide) hdf ⟨rfl, by decide, by decide⟩ hY F (fun _ _ a ns hl _ hS => law_sp hl hS) fun _ _ _ _ _ z => z
end Law

theorem Law.end_of {P : PySem.Program} {w : PySem.World} {K : PySem.W.Frag} {h : PySem.Heap} {mg : PySem.Str → Option PySem.Value} {fa f : PySem.Addr} {od an : Option PySem.Addr} {sl : Array (Option PySem.Value)} {oc kV dc pm cd ct : PySem.Value} (X : K.In h) (G : h.Ns PySem.mainGlobals mg) (hfa : mg "law" = some (.ref fa)) (D : Law.Defs K mg) (T : Law.Txt mg)
    (a : PySem.W.nsIn K PySem.mainGlobals "law" = some (some (.ref f))) (l : K.lookup f = some ⟨oc, od, .func (PySem.W.fnOf "law" "law" (L2.defArgs Law.s_law) (L2.defBody Law.s_law) (L2.defScope Law.s_law) .none kV dc pm an cd ct), sl⟩) (c : PySem.W.codeIn K cd "law" = true) (k : PySem.W.keepIn K (.ref f) = true) :
    ∃ fd : PySem.FuncData, (∀ (s : PySem.Shared) (u : PySem.Value), PySem.BindsTo s fd ⟨[u], []⟩ [("script", u)]) ∧ ∀ base : PySem.Heap, K.In base → base.Ns PySem.mainGlobals mg → L2.FnOk P w K mg base L2.CX0 8 fa fd ["script"] (Lk.LF K 1 Lk.wf_law) := by
  have e := hfa.symm.trans (PySem.W.mg_of X G a)
  cases e
  exact ⟨_, fun s v => .of_eq rfl, fun base _ _ => Law.fn_all D T (L2.fun_mk (st := Law.s_law) l c k)⟩

open PySem PySem.W PyProof.Rows in
set_option maxRecDepth 100000 in
set_option maxHeartbeats 0 in
theorem PySem.Challenge.cw_likethings_k78_whole_order_kept_holds : PySem.Challenge.rw_likethings_k78_whole_order_kept.Holds := by
  w_on; o_law; k_head; (case hw => w_witness2)
  k_fill
  refine Law.walk (l := PySem.Challenge.rw_likethings_k78_whole_order_kept) rfl rfl (fun w h Y => PySem.W.kIn_of Y) ?F
  case F =>
    intro w mg fa h KX G hmg
    refine' Law.end_of KX G hmg ?D ?T ?za ?zl ?zc ?zk
    (case T =>
      refine' ⟨PySem.W.mg_none_of KX G ?n0, PySem.W.mg_none_of KX G ?n1, PySem.W.mg_none_of KX G ?n2, PySem.W.mg_none_of KX G ?n3, PySem.W.mg_none_of KX G ?n4, PySem.W.mg_none_of KX G ?n5, PySem.W.mg_none_of KX G ?n6, PySem.W.mg_none_of KX G ?n7, PySem.W.mg_none_of KX G ?n8, PySem.W.mg_none_of KX G ?n9, PySem.W.mg_none_of KX G ?n10, PySem.W.mg_none_of KX G ?n11, PySem.W.mg_none_of KX G ?n12, PySem.W.mg_none_of KX G ?n13, PySem.W.mg_none_of KX G ?n14, PySem.W.mg_none_of KX G ?n15⟩
      (case n0 => k_is)
      (case n1 => k_is)
      (case n2 => k_is)
      (case n3 => k_is)
      (case n4 => k_is)
      (case n5 => k_is)
      (case n6 => k_is)
      (case n7 => k_is)
      (case n8 => k_is)
      (case n9 => k_is)
      (case n10 => k_is)
      (case n11 => k_is)
      (case n12 => k_is)
      (case n13 => k_is)
      (case n14 => k_is)
      (case n15 => k_is))
    (case D =>
      refine' ⟨?d0, ?d1, ?d2, ?d3, ?d4, ?d5, ?d6, ?d7, ?d8, ?d9, ?d10, ?d11, ?d12, ?d13, ?d14, ?d15, ?d16, ?d17, ?d18, ?d19, ?d20, ?d21, ?d22, ?d23, ?d24, ?d25, ?d26, ?d27, ?d28, ?d29, ?d30, ?d31, ?d32, ?d33, ?d34, ?d35, ?d36, ?d37, ?d38, ?d39, ?d40, ?d41, ?d42, ?d43, ?d44, ?d45, ?d46, ?d47, ?d48, ?d49, ?d50, ?d51, ?d52, ?d53⟩
      (case d0 =>
        refine' Law.def_of KX G ?a0 ?l0 ?c0 ?k0 (fun _ _ _ _ _ _ us hl => match us, hl with | [_], _ => rfl)
        (case a0 => k_is)
        (case l0 => k_is)
        (case c0 => k_is)
        (case k0 => k_is))
      (case d1 =>
        refine' Law.def_of KX G ?a1 ?l1 ?c1 ?k1 (fun _ _ _ _ _ _ us hl => match us, hl with | [_, _], _ => rfl)
        (case a1 => k_is)
        (case l1 => k_is)
        (case c1 => k_is)
        (case k1 => k_is))
      (case d2 =>
        refine' Law.def_of KX G ?a2 ?l2 ?c2 ?k2 (fun _ _ _ _ _ _ us hl => match us, hl with | [_], _ => rfl)
        (case a2 => k_is)
        (case l2 => k_is)
        (case c2 => k_is)
        (case k2 => k_is))
      (case d3 =>
        refine' Law.def_of KX G ?a3 ?l3 ?c3 ?k3 (fun _ _ _ _ _ _ us hl => match us, hl with | [_, _], _ => rfl)
        (case a3 => k_is)
        (case l3 => k_is)
        (case c3 => k_is)
        (case k3 => k_is))
      (case d4 =>
        refine' Law.def_of KX G ?a4 ?l4 ?c4 ?k4 (fun _ _ _ _ _ _ us hl => match us, hl with | [_, _], _ => rfl)
        (case a4 => k_is)
        (case l4 => k_is)
        (case c4 => k_is)
        (case k4 => k_is))
      (case d5 =>
        refine' Law.def_of KX G ?a5 ?l5 ?c5 ?k5 (fun _ _ _ _ _ _ us hl => match us, hl with | [_], _ => rfl)
        (case a5 => k_is)
        (case l5 => k_is)
        (case c5 => k_is)
        (case k5 => k_is))
      (case d6 =>
        refine' Law.def_of KX G ?a6 ?l6 ?c6 ?k6 (fun _ _ _ _ _ _ us hl => match us, hl with | [_, _], _ => rfl)
        (case a6 => k_is)
        (case l6 => k_is)
        (case c6 => k_is)
        (case k6 => k_is))
      (case d7 =>
        refine' Law.def_of KX G ?a7 ?l7 ?c7 ?k7 (fun _ _ _ _ _ _ us hl => match us, hl with | [_, _], _ => rfl)
        (case a7 => k_is)
        (case l7 => k_is)
        (case c7 => k_is)
        (case k7 => k_is))
      (case d8 =>
        refine' Law.def_of KX G ?a8 ?l8 ?c8 ?k8 (fun _ _ _ _ _ _ us hl => match us, hl with | [_, _], _ => rfl)
        (case a8 => k_is)
        (case l8 => k_is)
        (case c8 => k_is)
        (case k8 => k_is))
      (case d9 =>
        refine' Law.def_of KX G ?a9 ?l9 ?c9 ?k9 (fun _ _ _ _ _ _ us hl => match us, hl with | [_, _], _ => rfl)
        (case a9 => k_is)
        (case l9 => k_is)
        (case c9 => k_is)
        (case k9 => k_is))
      (case d10 =>
        refine' Law.def_of KX G ?a10 ?l10 ?c10 ?k10 (fun _ _ _ _ _ _ us hl => match us, hl with | [_, _], _ => rfl)
        (case a10 => k_is)
        (case l10 => k_is)
        (case c10 => k_is)
        (case k10 => k_is))
      (case d11 =>
        refine' Law.def_of KX G ?a11 ?l11 ?c11 ?k11 (fun _ _ _ _ _ _ us hl => match us, hl with | [_, _, _], _ => rfl)
        (case a11 => k_is)
        (case l11 => k_is)
        (case c11 => k_is)
        (case k11 => k_is))
      (case d12 =>
        refine' Law.def_of KX G ?a12 ?l12 ?c12 ?k12 (fun _ _ _ _ _ _ us hl => match us, hl with | [_, _], _ => rfl)
        (case a12 => k_is)
        (case l12 => k_is)
        (case c12 => k_is)
        (case k12 => k_is))
      (case d13 =>
        refine' Law.def_of KX G ?a13 ?l13 ?c13 ?k13 (fun _ _ _ _ _ _ us hl => match us, hl with | [_, _, _], _ => rfl)
        (case a13 => k_is)
        (case l13 => k_is)
        (case c13 => k_is)
        (case k13 => k_is))
      (case d14 =>
        refine' Law.def_of KX G ?a14 ?l14 ?c14 ?k14 (fun _ _ _ _ _ _ us hl => match us, hl with | [_, _], _ => rfl)
        (case a14 => k_is)
        (case l14 => k_is)
        (case c14 => k_is)
        (case k14 => k_is))
      (case d15 =>
        refine' Law.def_of KX G ?a15 ?l15 ?c15 ?k15 (fun _ _ _ _ _ _ us hl => match us, hl with | [_], _ => rfl)
        (case a15 => k_is)
        (case l15 => k_is)
        (case c15 => k_is)
        (case k15 => k_is))
      (case d16 =>
        refine' Law.def_of KX G ?a16 ?l16 ?c16 ?k16 (fun _ _ _ _ _ _ us hl => match us, hl with | [_, _, _], _ => rfl)
        (case a16 => k_is)
        (case l16 => k_is)
        (case c16 => k_is)
        (case k16 => k_is))
      (case d17 =>
        refine' Law.def_of KX G ?a17 ?l17 ?c17 ?k17 (fun _ _ _ _ _ _ us hl => match us, hl with | [_, _, _, _], _ => rfl)
        (case a17 => k_is)
        (case l17 => k_is)
        (case c17 => k_is)
        (case k17 => k_is))
      (case d18 =>
        refine' Law.def_of KX G ?a18 ?l18 ?c18 ?k18 (fun _ _ _ _ _ _ us hl => match us, hl with | [_], _ => rfl)
        (case a18 => k_is)
        (case l18 => k_is)
        (case c18 => k_is)
        (case k18 => k_is))
      (case d19 =>
        refine' Law.def_of KX G ?a19 ?l19 ?c19 ?k19 (fun _ _ _ _ _ _ us hl => match us, hl with | [_, _], _ => rfl)
        (case a19 => k_is)
        (case l19 => k_is)
        (case c19 => k_is)
        (case k19 => k_is))
      (case d20 =>
        refine' Law.def_of KX G ?a20 ?l20 ?c20 ?k20 (fun _ _ _ _ _ _ us hl => match us, hl with | [_, _], _ => rfl)
        (case a20 => k_is)
        (case l20 => k_is)
        (case c20 => k_is)
        (case k20 => k_is))
      (case d21 =>
        refine' Law.def_of KX G ?a21 ?l21 ?c21 ?k21 (fun _ _ _ _ _ _ us hl => match us, hl with | [_, _], _ => rfl)
        (case a21 => k_is)
        (case l21 => k_is)
        (case c21 => k_is)
        (case k21 => k_is))
      (case d22 =>
        refine' Law.def_of KX G ?a22 ?l22 ?c22 ?k22 (fun _ _ _ _ _ _ us hl => match us, hl with | [_, _, _], _ => rfl)
        (case a22 => k_is)
        (case l22 => k_is)
        (case c22 => k_is)
        (case k22 => k_is))
      (case d23 =>
        refine' Law.def_of KX G ?a23 ?l23 ?c23 ?k23 (fun _ _ _ _ _ _ us hl => match us, hl with | [_, _], _ => rfl)
        (case a23 => k_is)
        (case l23 => k_is)
        (case c23 => k_is)
        (case k23 => k_is))
      (case d24 =>
        refine' Law.def_of KX G ?a24 ?l24 ?c24 ?k24 (fun _ _ _ _ _ _ us hl => match us, hl with | [_, _], _ => rfl)
        (case a24 => k_is)
        (case l24 => k_is)
        (case c24 => k_is)
        (case k24 => k_is))
      (case d25 =>
        refine' Law.def_of KX G ?a25 ?l25 ?c25 ?k25 (fun _ _ _ _ _ _ us hl => match us, hl with | [_], _ => rfl)
        (case a25 => k_is)
        (case l25 => k_is)
        (case c25 => k_is)
        (case k25 => k_is))
      (case d26 =>
        refine' Law.def_of KX G ?a26 ?l26 ?c26 ?k26 (fun _ _ _ _ _ _ us hl => match us, hl with | [_, _], _ => rfl)
        (case a26 => k_is)
        (case l26 => k_is)
        (case c26 => k_is)
        (case k26 => k_is))
      (case d27 =>
        refine' Law.def_of KX G ?a27 ?l27 ?c27 ?k27 (fun _ _ _ _ _ _ us hl => match us, hl with | [_, _, _], _ => rfl)
        (case a27 => k_is)
        (case l27 => k_is)
        (case c27 => k_is)
        (case k27 => k_is))
      (case d28 =>
        refine' Law.def_of KX G ?a28 ?l28 ?c28 ?k28 (fun _ _ _ _ _ _ us hl => match us, hl with | [_, _], _ => rfl)
        (case a28 => k_is)
        (case l28 => k_is)
        (case c28 => k_is)
        (case k28 => k_is))
      (case d29 =>
        refine' Law.def_of KX G ?a29 ?l29 ?c29 ?k29 (fun _ _ _ _ _ _ us hl => match us, hl with | [_, _], _ => rfl)
        (case a29 => k_is)
        (case l29 => k_is)
        (case c29 => k_is)
        (case k29 => k_is))
      (case d30 =>
        refine' Law.def_of KX G ?a30 ?l30 ?c30 ?k30 (fun _ _ _ _ _ _ us hl => match us, hl with | [_, _], _ => rfl)
        (case a30 => k_is)
        (case l30 => k_is)
        (case c30 => k_is)
        (case k30 => k_is))
      (case d31 =>
        refine' Law.def_of KX G ?a31 ?l31 ?c31 ?k31 (fun _ _ _ _ _ _ us hl => match us, hl with | [_, _], _ => rfl)
        (case a31 => k_is)
        (case l31 => k_is)
        (case c31 => k_is)
        (case k31 => k_is))
      (case d32 =>
        refine' Law.def_of KX G ?a32 ?l32 ?c32 ?k32 (fun _ _ _ _ _ _ us hl => match us, hl with | [_, _], _ => rfl)
        (case a32 => k_is)
        (case l32 => k_is)
        (case c32 => k_is)
        (case k32 => k_is))
      (case d33 =>
        refine' Law.def_of KX G ?a33 ?l33 ?c33 ?k33 (fun _ _ _ _ _ _ us hl => match us, hl with | [_, _, _], _ => rfl)
        (case a33 => k_is)
        (case l33 => k_is)
        (case c33 => k_is)
        (case k33 => k_is))
      (case d34 =>
        refine' Law.def_of KX G ?a34 ?l34 ?c34 ?k34 (fun _ _ _ _ _ _ us hl => match us, hl with | [_, _], _ => rfl)
        (case a34 => k_is)
        (case l34 => k_is)
        (case c34 => k_is)
        (case k34 => k_is))
      (case d35 =>
        refine' Law.def_of KX G ?a35 ?l35 ?c35 ?k35 (fun _ _ _ _ _ _ us hl => match us, hl with | [_], _ => rfl)
        (case a35 => k_is)
        (case l35 => k_is)
        (case c35 => k_is)
        (case k35 => k_is))
      (case d36 =>
        refine' Law.def_of KX G ?a36 ?l36 ?c36 ?k36 (fun _ _ _ _ _ _ us hl => match us, hl with | [_, _, _, _, _], _ => rfl)
        (case a36 => k_is)
        (case l36 => k_is)
        (case c36 => k_is)
        (case k36 => k_is))
      (case d37 =>
        refine' Law.def_of KX G ?a37 ?l37 ?c37 ?k37 (fun _ _ _ _ _ _ us hl => match us, hl with | [_, _], _ => rfl)
        (case a37 => k_is)
        (case l37 => k_is)
        (case c37 => k_is)
        (case k37 => k_is))
      (case d38 =>
        refine' Law.def_of KX G ?a38 ?l38 ?c38 ?k38 (fun _ _ _ _ _ _ us hl => match us, hl with | [_, _, _], _ => rfl)
        (case a38 => k_is)
        (case l38 => k_is)
        (case c38 => k_is)
        (case k38 => k_is))
      (case d39 =>
        refine' Law.def_of KX G ?a39 ?l39 ?c39 ?k39 (fun _ _ _ _ _ _ us hl => match us, hl with | [_], _ => rfl)
        (case a39 => k_is)
        (case l39 => k_is)
        (case c39 => k_is)
        (case k39 => k_is))
      (case d40 =>
        refine' Law.def_of KX G ?a40 ?l40 ?c40 ?k40 (fun _ _ _ _ _ _ us hl => match us, hl with | [_, _, _], _ => rfl)
        (case a40 => k_is)
        (case l40 => k_is)
        (case c40 => k_is)
        (case k40 => k_is))
      (case d41 =>
        refine' Law.def_of KX G ?a41 ?l41 ?c41 ?k41 (fun _ _ _ _ _ _ us hl => match us, hl with | [_, _, _], _ => rfl)
        (case a41 => k_is)
        (case l41 => k_is)
        (case c41 => k_is)
        (case k41 => k_is))
      (case d42 =>
        refine' Law.def_of KX G ?a42 ?l42 ?c42 ?k42 (fun _ _ _ _ _ _ us hl => match us, hl with | [_, _, _, _], _ => rfl)
        (case a42 => k_is)
        (case l42 => k_is)
        (case c42 => k_is)
        (case k42 => k_is))
      (case d43 =>
        refine' Law.def_of KX G ?a43 ?l43 ?c43 ?k43 (fun _ _ _ _ _ _ us hl => match us, hl with | [_, _, _], _ => rfl)
        (case a43 => k_is)
        (case l43 => k_is)
        (case c43 => k_is)
        (case k43 => k_is))
      (case d44 =>
        refine' Law.def_of KX G ?a44 ?l44 ?c44 ?k44 (fun _ _ _ _ _ _ us hl => match us, hl with | [_, _, _], _ => rfl)
        (case a44 => k_is)
        (case l44 => k_is)
        (case c44 => k_is)
        (case k44 => k_is))
      (case d45 =>
        refine' Law.def_of KX G ?a45 ?l45 ?c45 ?k45 (fun _ _ _ _ _ _ us hl => match us, hl with | [_, _, _, _], _ => rfl)
        (case a45 => k_is)
        (case l45 => k_is)
        (case c45 => k_is)
        (case k45 => k_is))
      (case d46 =>
        refine' Law.def_of KX G ?a46 ?l46 ?c46 ?k46 (fun _ _ _ _ _ _ us hl => match us, hl with | [_, _, _], _ => rfl)
        (case a46 => k_is)
        (case l46 => k_is)
        (case c46 => k_is)
        (case k46 => k_is))
      (case d47 =>
        refine' Law.def_of KX G ?a47 ?l47 ?c47 ?k47 (fun _ _ _ _ _ _ us hl => match us, hl with | [_, _, _], _ => rfl)
        (case a47 => k_is)
        (case l47 => k_is)
        (case c47 => k_is)
        (case k47 => k_is))
      (case d48 =>
        refine' Law.def_of KX G ?a48 ?l48 ?c48 ?k48 (fun _ _ _ _ _ _ us hl => match us, hl with | [_, _, _, _], _ => rfl)
        (case a48 => k_is)
        (case l48 => k_is)
        (case c48 => k_is)
        (case k48 => k_is))
      (case d49 =>
        refine' Law.def_of KX G ?a49 ?l49 ?c49 ?k49 (fun _ _ _ _ _ _ us hl => match us, hl with | [_, _, _, _], _ => rfl)
        (case a49 => k_is)
        (case l49 => k_is)
        (case c49 => k_is)
        (case k49 => k_is))
      (case d50 =>
        refine' Law.def_of KX G ?a50 ?l50 ?c50 ?k50 (fun _ _ _ _ _ _ us hl => match us, hl with | [_, _, _], _ => rfl)
        (case a50 => k_is)
        (case l50 => k_is)
        (case c50 => k_is)
        (case k50 => k_is))
      (case d51 =>
        refine' Law.def_of KX G ?a51 ?l51 ?c51 ?k51 (fun _ _ _ _ _ _ us hl => match us, hl with | [_, _, _, _], _ => rfl)
        (case a51 => k_is)
        (case l51 => k_is)
        (case c51 => k_is)
        (case k51 => k_is))
      (case d52 =>
        refine' Law.def_of KX G ?a52 ?l52 ?c52 ?k52 (fun _ _ _ _ _ _ us hl => match us, hl with | [_, _, _, _], _ => rfl)
        (case a52 => k_is)
        (case l52 => k_is)
        (case c52 => k_is)
        (case k52 => k_is))
      (case d53 =>
        refine' Law.def_of KX G ?a53 ?l53 ?c53 ?k53 (fun _ _ _ _ _ _ us hl => match us, hl with | [_, _, _, _, _], _ => rfl)
        (case a53 => k_is)
        (case l53 => k_is)
        (case c53 => k_is)
        (case k53 => k_is)))
    (case za => k_is)
    (case zl => k_is)
    (case zc => k_is)
    (case zk => k_is)
