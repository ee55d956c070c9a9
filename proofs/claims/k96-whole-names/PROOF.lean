import PyProof.Rows.All
import Wide.All
import OpenK.AllK
import Wide.FinOn
import HandS.ForMost
import HandS.More
import HandS.DictComp
import KE.KMathG
import HandS.DeepEq
import HandS.Star
import HandS.Walk
import HandS.IsInst
import HandS.Wide
import HandS.Gcd
import HandS.Style
import HandS.Remove
import HandS.Flow
import PyProof.P3Eq
import PyProof.EqLayable
import HandS.SetFor
import HandS.TupAny
import HandS.Text
import PySem.Challenge.RW_ballmoves_k96_whole_names_and_values
set_option Elab.async false
set_option linter.all false
set_option maxRecDepth 100000
set_option maxHeartbeats 4000000
namespace Gap
open PySem PySem.Spec PyProof.Rows L2

section
variable {prog : Program} {w : World} {A : Around} {E : Value → Shared → Prop} {s : Shared}

theorem dictPut_pairs {d : Addr} {kvs : List (Key × Value)} {k : Key} {key v : Value} {Q : Unit → Shared → Prop} (hkey : (mixKind prog w).is k key = true) (hm : s.heap.DictOf (mixKind prog w) d kvs)
    (hQ : ∀ h', h'.DictOf (mixKind prog w) d (stored kvs k v) → Heap.SameBut d s.heap h' → Q () { s with heap := h' })
    (hsz : kvs.length ≤ sizeLine) :
    wpAny (model prog w) A (dictPut d ((mixKind prog w).hash k) key v) Q E s := by
  obtain ⟨o, es, ep, ho, hc, hd, hk, hp, hn⟩ := hm
  have hes : es.size ≤ sizeLine := by
    have e1 := hp.length
    have e2 : es.toList.length = es.size := by simp
    omega
  unfold dictPut
  refine wpAny_bind (wpAny_dictFind_of hkey ho hd hk ?_)
  have hidx : (es.findIdx? fun e => (mixKind prog w).is k e.key) = kvs.findIdx? fun kv => decide (kv.1 = k) := by
    rw [← hp.findIdx k]; obtain ⟨l⟩ := es; simp
  cases hi : es.findIdx? fun e => (mixKind prog w).is k e.key with
  | some i =>
    refine wpAny_updateDict ho hd (hQ _ ⟨_, _, ep, Heap.get?_update_self _ ho (Obj.isFreed_of_dict (Obj.data_mapDict hd _)),
      hc.mapDict _, Obj.data_mapDict hd _, hk.modify _ _, ?_, ?_⟩ (Heap.SameBut.update ..))
    · rw [stored, if_pos (any_of_findIdx_some (hidx ▸ hi))]
      have hl : (es.toList.findIdx? fun e => (mixKind prog w).is k e.key) = some i := by rw [← hi]; obtain ⟨l⟩ := es; simp
      have := hp.modify hn hl v
      obtain ⟨l⟩ := es
      simpa using this
    · rw [stored, if_pos (any_of_findIdx_some (hidx ▸ hi)), keys_map_store]; exact hn
  | none =>
    have hnot : k ∉ kvs.map (·.1) := not_mem_of_findIdx_none (hidx ▸ hi)
    have hany : ¬ (kvs.any fun kv => decide (kv.1 = k)) = true := by
      rw [List.any_eq_true]; rintro ⟨kv, hkv, he⟩
      exact hnot (List.mem_map.mpr ⟨kv, hkv, of_decide_eq_true he⟩)
    refine wpAny_updateDictKeys (hz := hes) ho hd (hQ _ ⟨_, _, ep + 1, Heap.get?_update_self _ ho (Obj.isFreed_of_dict (Obj.data_mapDictKeys hd _)),
      hc.mapDictKeys _, Obj.data_mapDictKeys hd _, hk.push hkey _, ?_, ?_⟩ (Heap.SameBut.update ..))
    · rw [stored, if_neg hany]
      have := hp.append hkey ((mixKind prog w).hash k) v
      obtain ⟨l⟩ := es
      simpa using this
    · rw [stored, if_neg hany, List.map_append, List.nodup_append]
      refine ⟨hn, by simp, ?_⟩
      intro a ha b hb
      simp only [List.map_cons, List.map_nil, List.mem_singleton] at hb
      subst hb
      exact fun e => hnot (e ▸ ha)

theorem mergeMapping_dict {d o : Addr} {kvs more : List (Key × Value)} {Q : Unit → Shared → Prop} (hdo : d ≠ o) (hoS : (o == sysModules) = false)
    (hd : s.heap.DictOf (mixKind prog w) d kvs) (ho : s.heap.DictOf (mixKind prog w) o more)
    (hQ : ∀ h', h'.DictOf (mixKind prog w) d (merged kvs more) → Heap.SameBut d s.heap h' → Q () { s with heap := h' })
    (hsz : kvs.length + more.length ≤ sizeLine) :
    wpAny (model prog w) A (mergeMapping d (.ref o) false) Q E s := by
  obtain ⟨od, esd, epd, hod, hcd, hdd, hkd, hpd, hnd⟩ := id hd
  obtain ⟨oo, eso, epo, hoo, hco, hdo', hko, hpo, hno⟩ := id ho
  have hlen : more.length = eso.size := by rw [← hpo.length]; simp
  have loop : ∀ (size : Nat) (hsz0 : size = eso.size), wpAny (model prog w) A (do
      let epoch ← dictEpoch o
      forIn (List.range size) PUnit.unit fun i (_ : PUnit) => (do
          let l' ← dictEntries o
          match l'[i]? with
            | some e => do
              holding [e.key, e.val] (dictPut d e.hash e.key e.val)
              let ep' ← dictEpoch o
              if (ep' != epoch) = true then do
                  (unsupported "dict.changed-during-merge" : Sem PUnit)
                  pure (ForInStep.yield PUnit.unit)
                else pure (ForInStep.yield PUnit.unit)
            | _ => do
              (unsupported "dict.changed-during-merge" : Sem PUnit)
              pure (ForInStep.yield PUnit.unit) : Sem (ForInStep PUnit))
      pure ()) Q E s := by
    rintro size rfl
    refine wpAny_bind (wpAny_dictEpoch hoo hdo' ?_)
    refine wpAny_bind ?_
    refine wpAny_forIn_list _
      (fun rest _ s' => ∃ h' i, s' = { s with heap := h' } ∧ rest = List.range' i (eso.size - i) ∧ i ≤ eso.size ∧ h'.DictOf (mixKind prog w) d (merged kvs (more.take i)) ∧ h'.get? o = some oo ∧ Heap.SameBut d s.heap h')
      _ ?_ ?_ _ _ ⟨s.heap, 0, rfl, by simp [List.range_eq_range'], Nat.zero_le _, by simpa [merged] using hd, hoo, Heap.SameBut.refl _ _⟩
    · rintro x rest b s' ⟨h', i, rfl, hr, hi, hd', hoo', hs'⟩
      have hlt : i < eso.size := by
        rcases Nat.lt_or_ge i eso.size with h | h
        · exact h
        · rw [Nat.sub_eq_zero_of_le h] at hr; simp at hr
      obtain ⟨rfl, hrest⟩ : x = i ∧ rest = List.range' (i + 1) (eso.size - (i + 1)) := by
        have e : eso.size - i = (eso.size - (i + 1)) + 1 := by omega
        rw [e, List.range'_succ] at hr
        injection hr with h1 h2
        exact ⟨h1, h2⟩
      refine wpAny_bind (wpAny_dictEntries hoo' hdo' ?_)
      rw [Array.getElem?_eq_getElem hlt]
      obtain ⟨kv, hkv⟩ : ∃ kv, more[x]? = some kv := ⟨more[x]'(by rw [hlen]; exact hlt), List.getElem?_eq_getElem _⟩
      obtain ⟨k, v⟩ := kv
      obtain ⟨hkey, hval⟩ := hpo.get? (e := eso[x]) (by simp [hlt]) hkv
      obtain ⟨k', hkey', hhash⟩ := hko eso[x] (Array.getElem_mem hlt)
      obtain rfl : k' = k := (mixKind prog w).inj _ _ _ hkey' hkey
      show wpAny _ _ (holding [eso[x].key, eso[x].val] (dictPut d eso[x].hash eso[x].key eso[x].val) >>= _) _ _ _
      rw [hhash, hval]
      have hmx : (merged kvs (more.take x)).length ≤ sizeLine := by
        have e1 := merged_length_le kvs (more.take x)
        have e2 : (more.take x).length ≤ more.length := by rw [List.length_take]; omega
        omega
      refine wpAny_bind (wpAny_holding (dictPut_pairs (hsz := hmx) hkey hd' fun h'' hd'' hs'' => ?_))
      have hoo'' : h''.get? o = some oo := (hs''.2 o (Ne.symm hdo)).trans hoo'
      refine wpAny_bind (wpAny_dictEpoch hoo'' hdo' ?_)
      rw [if_neg (by simp)]
      exact wpAny_pure ⟨h'', x + 1, rfl, hrest, hlt, by rw [merged_take_succ kvs more x (k', v) hkv]; exact hd'', hoo'', hs'.trans hs''⟩
    · rintro b s' ⟨h', i, rfl, hr, hi, hd', hoo', hs'⟩
      have hin : i = eso.size := by
        rcases Nat.lt_or_ge i eso.size with h | h
        · have e : eso.size - i = (eso.size - (i + 1)) + 1 := by omega
          rw [e, List.range'_succ] at hr; exact nomatch hr
        · exact Nat.le_antisymm hi h
      refine wpAny_pure (hQ h' ?_ hs')
      rw [hin, ← hlen, List.take_length] at hd'; exact hd'
  have keys : ∀ (f : DictEntry → PUnit → Sem (ForInStep PUnit)), (∀ e ∈ eso, ∀ c, f e c = pure (.yield c)) → forIn eso PUnit.unit f = pure PUnit.unit := fun f hf => by
    rw [← Array.forIn_toList]
    exact forIn_yield_id _ fun e he c => hf e (Array.mem_toList_iff.mp he) c
  unfold mergeMapping
  refine wpAny_bind (wpAny_isInstance ho.typeIs isSubtype_dict_dict ?_)
  simp only [if_true]
  refine wpAny_bind (wpAny_specialOf ho.typeIs F.slot_dict_iter.lookup (wpAny_bind (wpAny_pure ?_)))
  simp only [beq_self_eq_true]
  rw [if_neg (by rw [hoS]; exact Bool.false_ne_true)]
  refine wpAny_bind (wpAny_dictEntries hod hdd ?_)
  split
  · refine wpAny_bind (wpAny_dictEntries hoo hdo' ?_)
    rw [keys _ fun e he c => by
      obtain ⟨k, hkey, _⟩ := hko e he
      rcases keyIs_shape hkey with ⟨i, t, _, ek⟩ | ⟨x, t, _, ek⟩ <;> rw [ek]]
    refine wpAny_bind (wpAny_pure ?_)
    refine wpAny_bind (wpAny_dictEntries hoo hdo' ?_)
    exact loop _ rfl
  · refine wpAny_bind (wpAny_dictEntries hoo hdo' ?_)
    exact loop _ rfl
end

/-! ### {**a, **b}, {**a, k: v} -/
section
variable {X : Cx} {pins : List (Addr × Obj)} {σ : L2.St} {H : Hp} {s : Shared}
theorem merge_ok {E : Value → Shared → Prop} {p a : Addr} {kvs ks : List (Key × V)} {Q : Unit → Shared → Prop} (I : Inv X pins σ H s) (hp : H p = some (.dK kvs)) (ha : Rd H a (.dK ks)) (hne : p ≠ a) (hl : kvs.length + ks.length ≤ sizeLine)
    (h : ∀ s', Inv X pins σ (upd H p (.dK (mergeK kvs ks))) s' → Q () s') : wpAny (model X.prog X.w) X.A (mergeMapping p (.ref a) false) Q E s := by
  obtain ⟨z, hd, vs, rel, dd⟩ := dk_of I.hok hp
  obtain ⟨z', hd', vs', rel', dd'⟩ := dk_rd I.hok ha
  refine mergeMapping_dict hne hd' dd dd' (fun h' d2 hs => h _ ?_) (by rw [← rel.length, ← rel'.length]; exact hl)
  have hz : (mergeK kvs ks).length ≤ sizeLine := Nat.le_trans (length_mergeK ks kvs) hl
  have he : ∃ q, h'.get? p = some q := let ⟨q, _, _, hq, _⟩ := d2; ⟨q, hq⟩
  exact d_write (t' := s.toks) I (by rw [hp]; exact True.intro) hs he (dk_new hz hd (rel'.merge rel) d2)
/-- the new dict laid -/
theorem alloc_ok {E : Value → Shared → Prop} {Q : Addr → Shared → Prop} (I : Inv X pins σ H s) (h : ∀ p s', H p = none → Inv X pins σ (upd H p (.dK [])) s' → Q p s') :
    wpAny (model X.prog X.w) X.A (alloc { cls := .type "dict", data := .dict #[] }) Q E s := by
  refine wpAny_alloc (h _ _ (I.hok.fresh (Nat.le_refl _)) ?_)
  exact I.laid (a := s.heap.objs.size) (o := .dK []) (t' := s.toks) (fun _ _ q => Heap.get?_push_of_some _ q) (Nat.le_refl _) (dk_empty s.heap I.big)

def tMg2 (ta tb : TE) : TE := fun σ H Q => ∀ p, H p = none → ta σ (upd H p (.dK [])) fun x H1 => ∃ a ks, x = .ref a ∧ p ≠ a ∧ H1 p = some (.dK []) ∧ Rd H1 a (.dK ks) ∧
  tb σ (upd H1 p (.dK (mergeK [] ks))) fun y H2 => ∃ b ls, y = .ref b ∧ p ≠ b ∧ H2 p = some (.dK (mergeK [] ks)) ∧ Rd H2 b (.dK ls) ∧ ks.length + ls.length ≤ sizeLine ∧ Q (.ref p) (upd H2 p (.dK (mergeK (mergeK [] ks) ls)))
def tMg3 (ta tb tc : TE) : TE := fun σ H Q => ∀ p, H p = none → ta σ (upd H p (.dK [])) fun x H1 => ∃ a ks, x = .ref a ∧ p ≠ a ∧ H1 p = some (.dK []) ∧ Rd H1 a (.dK ks) ∧
  tb σ (upd H1 p (.dK (mergeK [] ks))) fun y H2 => ∃ b ls, y = .ref b ∧ p ≠ b ∧ H2 p = some (.dK (mergeK [] ks)) ∧ Rd H2 b (.dK ls) ∧ ks.length + ls.length ≤ sizeLine ∧
  tc σ (upd H2 p (.dK (mergeK (mergeK [] ks) ls))) fun z H3 => ∃ c ms, z = .ref c ∧ p ≠ c ∧ H3 p = some (.dK (mergeK (mergeK [] ks) ls)) ∧ Rd H3 c (.dK ms) ∧ ks.length + ls.length + ms.length ≤ sizeLine ∧
  Q (.ref p) (upd H3 p (.dK (mergeK (mergeK (mergeK [] ks) ls) ms)))
def tMgK (ta tk tv : TE) : TE := fun σ H Q => ∀ p, H p = none → ta σ (upd H p (.dK [])) fun x H1 => ∃ a ks, x = .ref a ∧ p ≠ a ∧ H1 p = some (.dK []) ∧ Rd H1 a (.dK ks) ∧ ks.length < sizeLine ∧
  ∀ q, q ≠ p → H1 q = none → tk σ (upd (upd H1 p (.dK (mergeK [] ks))) q (.dK [])) fun y H2 => tv σ H2 fun z H3 => ∃ k, y = kV k ∧ H3 p = some (.dK (mergeK [] ks)) ∧ H3 q = some (.dK []) ∧
    Q (.ref p) (upd (upd H3 q (.dK [(k, z)])) p (.dK (putK (mergeK [] ks) k z)))
variable {ea eb ec : Expr} {ta tb tc : TE} {pos : Pos}
theorem mg_len {ks : List (Key × V)} {n : Nat} (h : ks.length + n ≤ sizeLine) : ([] : List (Key × V)).length + ks.length ≤ sizeLine := by
  rw [List.length_nil]; omega
theorem mg_len2 {ks ls : List (Key × V)} {n : Nat} (h : ks.length + ls.length + n ≤ sizeLine) : (mergeK [] ks).length + ls.length ≤ sizeLine := by
  have := length_mergeK ks []
  rw [List.length_nil] at this; omega
/-- one operand of a star, and its merge -/
theorem star_step {e : Expr} {t : TE} {p : Addr} {kvs : List (Key × V)} {f1 : Value → Value → Sem Unit} {f2 : Value → Value → Sem Unit} {f3 : Value → Value → Sem Unit} {Q0 : VK} {pos : Pos} {β : Type} {k : Sem β} {R : β → Shared → Prop} (he : PE X e t) (I : Inv X pins σ H s) (h : t σ H Q0)
    (hq : ∀ x H1, Q0 x H1 → ∃ a ks, x = .ref a ∧ p ≠ a ∧ H1 p = some (.dK kvs) ∧ Rd H1 a (.dK ks) ∧ (kvs = [] ∨ kvs.length + ks.length ≤ sizeLine) ∧ ∀ s', Inv X pins σ (upd H1 p (.dK (mergeK kvs ks))) s' → wpAny (model X.prog X.w) X.A k R X.xe s') :
    wpAny (model X.prog X.w) X.A ((holding [Value.ref p] (do let x ← eval e X.env; standAt pos; pure x)) >>= fun m => (Sem.onRaise (Sem.tryCatch (Sem.onRaise (holding [Value.ref p, m] (mergeMapping p m false)) (f1 m)) (f2 m)) (f3 m)) >>= fun _ => k) R X.xe s := by
  refine wpAny_bind (wpAny_holding (wpAny_bind (thn (he.run pins s σ H _ I h) fun v s1 ⟨x, H1, I1, r1, q1⟩ => ?_)))
  obtain ⟨a, ks, ex, hne, hp, ha, hl, q⟩ := hq x H1 q1
  subst ex
  cases r1
  refine wpAny_bind (wpAny_standAt (wpAny_pure ?_))
  have hl' : kvs.length + ks.length ≤ sizeLine := by
    rcases hl with rfl | hl
    · have := (dk_rd I1.hok ha).1
      rw [List.length_nil]; omega
    · exact hl
  refine wpAny_bind (wpAny_onRaise (wpAny_tryCatch (wpAny_onRaise (wpAny_holding (merge_ok I1 hp ha hne hl' fun s' I' => ?_)))))
  exact q s' I'
theorem pe_mg2 (ha : PE X ea ta) (hb : PE X eb tb) : PE X (.Dict [none, none] [ea, eb] pos) (tMg2 ta tb) := by
  refine ⟨fun pins s σ H Q I h => ?_⟩
  rw [arm_eval_Dict]
  refine wpAny_bind (wpAny_standAt ?_)
  have hz : (evalEachOpt [none, none] X.env).zip ((evalEach [ea, eb] X.env).map fun v => do let x ← v; standAt pos; pure x) =
    [(none, do let x ← eval ea X.env; standAt pos; pure x), (none, do let x ← eval eb X.env; standAt pos; pure x)] := rfl
  rw [hz]
  unfold dictDisplay
  simp only [List.forIn_cons, List.forIn_nil, List.isEmpty_nil, if_true, pure_bind, bind_assoc]
  refine wpAny_bind (alloc_ok I fun p s1 hp I1 => ?_)
  refine star_step ha I1 (h p hp) fun x H1 ⟨a, ks, ex, hne, hp1, ha1, q1⟩ => ⟨a, ks, ex, hne, hp1, ha1, .inl rfl, fun s2 I2 => ?_⟩
  refine star_step hb I2 q1 fun x H2 ⟨b, ls, ex, hne, hp1, ha1, hl, q2⟩ => ⟨b, ls, ex, hne, hp1, ha1, .inr (mg_len2 (n := 0) hl), fun s3 I3 => ?_⟩
  exact wpAny_pure ⟨.ref p, _, I3, rfl, q2⟩
theorem pe_mg3 (ha : PE X ea ta) (hb : PE X eb tb) (hc : PE X ec tc) : PE X (.Dict [none, none, none] [ea, eb, ec] pos) (tMg3 ta tb tc) := by
  refine ⟨fun pins s σ H Q I h => ?_⟩
  rw [arm_eval_Dict]
  refine wpAny_bind (wpAny_standAt ?_)
  have hz : (evalEachOpt [none, none, none] X.env).zip ((evalEach [ea, eb, ec] X.env).map fun v => do let x ← v; standAt pos; pure x) =
    [(none, do let x ← eval ea X.env; standAt pos; pure x), (none, do let x ← eval eb X.env; standAt pos; pure x), (none, do let x ← eval ec X.env; standAt pos; pure x)] := rfl
  rw [hz]
  unfold dictDisplay
  simp only [List.forIn_cons, List.forIn_nil, List.isEmpty_nil, if_true, pure_bind, bind_assoc]
  refine wpAny_bind (alloc_ok I fun p s1 hp I1 => ?_)
  refine star_step ha I1 (h p hp) fun x H1 ⟨a, ks, ex, hne, hp1, ha1, q1⟩ => ⟨a, ks, ex, hne, hp1, ha1, .inl rfl, fun s2 I2 => ?_⟩
  refine star_step hb I2 q1 fun x H2 ⟨b, ls, ex, hne, hp1, ha1, hl, q2⟩ => ⟨b, ls, ex, hne, hp1, ha1, .inr (mg_len2 (n := 0) hl), fun s3 I3 => ?_⟩
  refine star_step hc I3 q2 fun x H3 ⟨c, ms, ex, hne, hp1, ha1, hl, q3⟩ => ⟨c, ms, ex, hne, hp1, ha1, .inr ?_, fun s4 I4 => ?_⟩
  · have h1 := length_mergeK ls (mergeK [] ks)
    have h2 := length_mergeK ks []
    rw [List.length_nil] at h2; omega
  exact wpAny_pure ⟨.ref p, _, I4, rfl, q3⟩
theorem pe_mgK {ek ev : Expr} {tk tv : TE} (ha : PE X ea ta) (hk : PE X ek tk) (hv : PE X ev tv) : PE X (.Dict [none, some ek] [ea, ev] pos) (tMgK ta tk tv) := by
  refine ⟨fun pins s σ H Q I h => ?_⟩
  rw [arm_eval_Dict]
  refine wpAny_bind (wpAny_standAt ?_)
  have hz : (evalEachOpt [none, some ek] X.env).zip ((evalEach [ea, ev] X.env).map fun v => do let x ← v; standAt pos; pure x) =
    [(none, do let x ← eval ea X.env; standAt pos; pure x), (some (eval ek X.env), do let x ← eval ev X.env; standAt pos; pure x)] := rfl
  rw [hz]
  unfold dictDisplay
  simp only [List.forIn_cons, List.forIn_nil, List.isEmpty_nil, if_true, pure_bind, bind_assoc, List.nil_append, List.length_cons, List.length_nil, Nat.reduceAdd, Nat.reduceBEq, Bool.false_eq_true, if_false, List.isEmpty_cons]
  refine wpAny_bind (alloc_ok I fun p s1 hp I1 => ?_)
  refine star_step ha I1 (h p hp) fun x H1 ⟨a, ks, ex, hne, hp1, ha1, hl, q1⟩ => ⟨a, ks, ex, hne, hp1, ha1, .inl rfl, fun s2 I2 => ?_⟩
  have hn2 : (upd H1 p (HO.dK (mergeK [] ks))) s2.heap.objs.size = none := I2.hok.fresh (Nat.le_refl _)
  have hqp : s2.heap.objs.size ≠ p := fun z => by rw [z, upd_same] at hn2; cases hn2
  have hn1 : H1 s2.heap.objs.size = none := by rw [upd_ne hqp] at hn2; exact hn2
  have q2 := q1 s2.heap.objs.size hqp hn1
  have I3 := I2.laid (a := s2.heap.objs.size) (o := .dK []) (h' := s2.heap.push { cls := .type "dict", data := .dict #[] }) (t' := s2.toks) (fun _ _ q => Heap.get?_push_of_some _ q) (Nat.le_refl _) (dk_empty s2.heap I2.big)
  refine wpAny_bind (wpAny_holding (wpAny_subDict (knd := mixKind X.prog X.w) (pairs := [(eval ek X.env, do let x ← eval ev X.env; standAt pos; pure x)]) (by show 1 ≤ 15; decide) (evalPairs_cons ?_)))
  refine thn (hk.run pins _ σ _ _ I3 q2) fun kv s4 ⟨y, H4, I4, r4, q4⟩ => ?_
  refine wpAny_bind (thn (hv.run pins _ σ _ _ I4 q4) fun vv s5 ⟨z, H5, I5, r5, k, ey, hp5, hq5, q5⟩ => wpAny_bind (wpAny_standAt (wpAny_pure ?_)))
  subst ey
  refine evalPairs_nil ?_
  obtain ⟨z6, hd6, vs6, rel6, dd6⟩ := dk_of I5.hok hq5
  cases rel6
  refine ⟨[(k, vv)], ⟨kV_is r4, rfl, True.intro⟩, dd6, fun h' dd' hs => ?_⟩
  have I6 : Inv X pins σ (upd H5 s2.heap.objs.size (.dK [(k, z)])) { s5 with heap := h', toks := s5.toks + 1 } := by
    refine d_write I5 (by rw [hq5]; exact True.intro) hs (let ⟨q, _, _, hq, _⟩ := dd'; ⟨q, hq⟩) (dk_new (vs := [(k, vv)]) (by show 1 ≤ sizeLine; decide) hd6 (.cons ⟨rfl, r5⟩ .nil) dd')
  refine wpAny_bind (wpAny_onRaise (wpAny_holding (merge_ok (ks := [(k, z)]) I6 (by rw [upd_ne hqp.symm]; exact hp5) (.inl upd_same) hqp.symm ?_ fun s7 I7 => ?_)))
  · have h2 := length_mergeK ks []
    rw [List.length_nil] at h2
    show (mergeK [] ks).length + 1 ≤ sizeLine
    omega
  exact wpAny_pure ⟨.ref p, _, I7, rfl, q5⟩
end
end Gap
set_option Elab.async false
set_option linter.all false
set_option maxRecDepth 100000
set_option maxHeartbeats 4000000
namespace Gap
open PySem PySem.Spec PyProof.Rows L2

/-! ### gcd of four -/
theorem args_gcd4 (a b c d : Value) : argsOk "math.gcd" ⟨[a, b, c, d], []⟩ := by unfold argsOk; kernel_rfl
theorem run_gcd4 (a : Int) (t : Tok) (b : Int) (u : Tok) (c : Int) (v : Tok) (d : Int) (w : Tok) :
    Gives (Builtin.«math.gcd» ⟨[.int a t, .int b u, .int c v, .int d w], []⟩) (.int ((((((Nat.gcd 0 a.natAbs).gcd b.natAbs).gcd c.natAbs).gcd d.natAbs : Nat) : Int))) :=
  .of_wp fun M A E s Q h => by obtain ⟨hp, g, d, tk, os⟩ := s; wp_walk; exact ⟨_, rfl, h⟩
section
variable {X : Cx}
def gcd4 (a b c d : Int) : Nat := ((a.natAbs.gcd b.natAbs).gcd c.natAbs).gcd d.natAbs
def rGcd4 : List V → Hp → VK → Prop := fun vs H Q => ∃ a b c d : Int, vs = [.int a, .int b, .int c, .int d] ∧ Q (.int ((gcd4 a b c d : Nat) : Int)) H
theorem cr_gcd4 : CallR X (.builtin "math.gcd") rGcd4 := by
  intro pins s σ H vs us Q I r h
  obtain ⟨a, b, c, d, rfl, q⟩ := h
  cases r with | cons r1 r => cases r with | cons r2 r => cases r with | cons r3 r => cases r with | cons r4 r =>
  cases r
  obtain ⟨t1, rfl⟩ := r1
  obtain ⟨t2, rfl⟩ := r2
  obtain ⟨t3, rfl⟩ := r3
  obtain ⟨t4, rfl⟩ := r4
  have g := run_gcd4 a t1 b t2 c t3 d t4
  rw [Nat.gcd_zero_left] at g
  exact call_function_meets PySem.W.MGF.kind_gcd PySem.W.MGF.plain_gcd PySem.W.MGF.entry_gcd (args_gcd4 _ _ _ _) g.meets ⟨.int _, H, I.tok _, ⟨_, rfl⟩, q⟩
/-! ### // by a great divisor of any sign -/
def CDivZ (_ j : Int) : Prop := j ≠ 0 ∧ j.natAbs.log2 < 9000
theorem op_fdivZ : OpR X (binaryOp .FloorDiv) (rI CDivZ fun i j => .int (i.fdiv j)) := opI fun i j _ _ _ _ _ hc q => by
  exact floordiv_int hc.1 q (.inl (PyProof.noPylong_of_log2 hc.2))
/-! ### a made thing is known for good -/
def tFrz (t : TE) : TE := fun σ H Q => t σ H fun x H1 => ∃ d u, x = .ref d ∧ H1 d = some u ∧ Mut (some u) ∧ ∀ od, Q x (upd H1 d (.frz od u))
theorem pe_frz {e : Expr} {t : TE} (h : PE X e t) : PE X e (tFrz t) := by
  refine ⟨fun pins s σ H Q I hw => ?_⟩
  refine thn (h.run pins s σ H _ I hw) fun v s1 ⟨x, H1, I1, r, d, u, ex, hd, mu, q⟩ => ?_
  obtain ⟨od, I2⟩ := I1.lock hd mu
  exact ⟨x, _, I2, r, q od⟩
/-! ### dicts of nested data, equal -/
def rEqDD (K : PySem.W.Frag) (b : Bool) : R2 := fun x y H Q => ∃ a c ks ls, x = .ref a ∧ y = .ref c ∧ Rd H a (.dK ks) ∧ Rd H c (.dK ls) ∧ ks.length = ls.length ∧
  (∀ p ∈ ks, ∃ u d, valV ls p.1 = some u ∧ Dp K H p.2 d ∧ Dp K H u d ∧ SeqAt.shaped d = true) ∧ Q (.bl b) H
theorem eqP_dp {pins : List (Addr × Obj)} {σ : L2.St} {H : Hp} {s : Shared} (I : Inv X pins σ H s) {A : Around} (hu : A.units + 64 < cLine) {x y : V} {v u : Value} {d : PyData} (hx : Dp X.K H x d) (hy : Dp X.K H y d) (sd : SeqAt.shaped d = true) (rx : RelV x v) (ry : RelV y u) :
    SeqAt.EqP X.prog X.w A s v u true := by
  obtain ⟨as, r1⟩ := Dp.reads I d x v hx rx
  obtain ⟨bs, r2⟩ := Dp.reads I d y u hy ry
  have e := SeqAt.eqAt_reads d d A s v u as bs r1 r2 (SeqAt.canLay_of_shaped sd) (SeqAt.canLay_of_shaped sd) (SeqAt.room_of_shaped sd hu)
  rw [SeqAt.eqv_refl d (SeqAt.canLay_of_shaped sd)] at e
  exact fun E Q q => e _ _ E Q q
theorem hits_dd {pins : List (Addr × Obj)} {σ : L2.St} {H : Hp} {s : Shared} (I : Inv X pins σ H s) {A : Around} (hu : A.units + 64 < cLine) {ls : List (Key × V)} {vb : List (Key × Value)} (rb : KV ls vb) {ks : List (Key × V)} {va : List (Key × Value)} (ra : KV ks va) :
    (∀ p ∈ ks, ∃ u d, valV ls p.1 = some u ∧ Dp X.K H p.2 d ∧ Dp X.K H u d ∧ SeqAt.shaped d = true) → PySem.W.KeqHitsP X.prog X.w A s vb va true := by
  intro hp
  unfold KV at ra
  induction ra with
  | nil => exact .nil
  | @cons p q ps qs h t k =>
    obtain ⟨h1, h2⟩ := h
    obtain ⟨u, d, e, f1, f2, f3⟩ := hp p List.mem_cons_self
    have rr : RelO (some u) (valueAt vb p.1) := by rw [← e]; exact rb.val p.1
    obtain ⟨y, hy, ry⟩ := rr.some_of
    obtain ⟨key, v⟩ := q
    have h1' : p.1 = key := h1
    rw [h1'] at hy
    show PySem.W.KeqHitsP X.prog X.w A s vb ((key, v) :: qs) (true && true)
    exact .hit hy (eqP_dp I hu f1 f2 f3 h2 ry) (k fun p' hm => hp p' (List.mem_cons_of_mem _ hm))
theorem op_eqDD (hu : X.A.units + 65 < cLine) : OpR X (compareOp .Eq) (rEqDD X.K true) := by
  intro pins s σ H x y v u Q I rx ry h
  obtain ⟨a, b, ks, ls, rfl, rfl, ea, eb, hlen, hp, q⟩ := h
  obtain rfl : v = Value.ref a := rx
  obtain rfl : u = Value.ref b := ry
  obtain ⟨_, ya, va, ra, da⟩ := dk_rd I.hok ea
  obtain ⟨_, yb, vb, rb, db⟩ := dk_rd I.hok eb
  have hl : va.length = vb.length := by rw [← ra.length, ← rb.length]; exact hlen
  refine PySem.W.rcP_dicts (knd := mixKind X.prog X.w) (r := true) ya yb da db (by omega) (fun _ => hits_dd I (by show X.A.units + 1 + 64 < cLine; omega) rb ra hp) _ _ ?_
  exact fin_bl I q (by simp [hl])
theorem op_neDD (hu : X.A.units + 65 < cLine) : OpR X (compareOp .NotEq) (rEqDD X.K false) := by
  intro pins s σ H x y v u Q I rx ry h
  obtain ⟨a, b, ks, ls, rfl, rfl, ea, eb, hlen, hp, q⟩ := h
  obtain rfl : v = Value.ref a := rx
  obtain rfl : u = Value.ref b := ry
  obtain ⟨_, ya, va, ra, da⟩ := dk_rd I.hok ea
  obtain ⟨_, yb, vb, rb, db⟩ := dk_rd I.hok eb
  have hl : va.length = vb.length := by rw [← ra.length, ← rb.length]; exact hlen
  refine wpAny_richCompare_same_room (op := .NotEq) da.typeIs db.typeIs PySem.F.slot_dict_ne (wpAny_call_entry PySem.F.slot_dict_ne da.typeIs PySem.F.entry_dict_ne ?_ (PySem.F.args_dict_ne_2 _ _)) (by omega)
  show wpAny _ _ (Builtin.Dict.dictSlotArgs "__ne__" ⟨[.ref a, .ref b], []⟩ >>= _) _ _ s
  refine wpAny_bind ?_
  unfold Builtin.Dict.dictSlotArgs
  refine wpAny_bind (wpAny_notOrdered_dict da.typeIs ?_)
  show wpAny _ _ (pure (Value.ref a, Value.ref b)) _ _ s
  refine wpAny_pure ?_
  refine wpAny_bind (wpAny_isInstance (T := "dict") db.typeIs PySem.F.sub_dict_dict ?_)
  simp only [Bool.not_true, Bool.false_eq_true, if_false]
  refine wpAny_bind (wpAny_pure (wpAny_bind (wpAny_pure ?_)))
  refine wpAny_bind (PySem.W.samePairsP (r := true) ya yb da db (fun _ => hits_dd I (by show X.A.units + 1 + 64 < cLine; omega) rb ra hp) ?_)
  refine wpAny_pure ⟨_, rfl, ?_, ?_⟩
  · exact fun x => nomatch x
  · exact fin_bl I q (by simp [hl])
end
end Gap
set_option Elab.async false
set_option linter.all false
set_option maxRecDepth 100000
set_option maxHeartbeats 4000000
namespace Gap
open PySem PySem.Spec PyProof.Rows L2
theorem erase_mapS : ∀ (l : List Str) (j : Nat), (l.map V.str).eraseIdx j = (l.eraseIdx j).map V.str
  | [], j => by simp
  | a :: r, 0 => by simp
  | a :: r, j + 1 => by
    have ih := erase_mapS r j
    simp [ih]
theorem str_ne {x y : Str} (h : x ≠ y) : (x == y) = false := by
  cases e : (x == y) with
  | false => rfl
  | true => exact absurd (eq_of_beq e) h
section
variable {X : Cx}
/-- xs.remove(k) of a list of texts, k its j-th and no earlier one -/
def rRemS : V → List V → Hp → VK → Prop := fun x xs H Q => ∃ (l : Addr) (ns : List Str) (k : Str) (j : Nat), x = .ref l ∧ xs = [.str k] ∧ H l = some (.lst (ns.map V.str)) ∧ ns[j]? = some k ∧ (∀ m : Nat, m < j → ns[m]? ≠ some k) ∧ Q .non (upd H l (.lst ((ns.eraseIdx j).map V.str)))
theorem mt_removeS : MtM X "list.remove" rRemS := by
  intro pins s σ H x xs v us Q I rx rxs h
  obtain ⟨l, ns, k, j, rfl, rfl, hH, hj, hno, q⟩ := h
  cases rx
  obtain ⟨u, rfl, ru⟩ := rxs.one
  obtain ⟨t, rfl⟩ := ru
  obtain ⟨z, its, n, r, hl, e⟩ := I.lstM hH
  have hi := strs_of_vals r
  rw [List.length_map] at hl z
  have hjn : j < ns.length := (List.getElem?_eq_some_iff.mp hj).1
  have hjl : j < its.toArray.size := by rw [List.size_toArray]; omega
  refine call_meets PySem.F.slot_list_remove ⟨_, e, rfl⟩ PySem.F.entry_list_remove (PySem.F.args_list_remove_2 _ _)
    (MeetsSeq.list_remove l its.toArray n (.str k t) (isStrOf k) (fun y hy => eq_isStrOf k t hi y (by simpa using hy)) j hjl ?_ ?_ (by rw [List.size_toArray]; omega)) ⟨e, ?_⟩
  · obtain ⟨tj, hjt⟩ := hi.get j k hj
    obtain ⟨h1, h2⟩ := List.getElem?_eq_some_iff.mp hjt
    have e1 : its.toArray[j] = .str k tj := by simpa using h2
    rw [e1]
    exact beq_self_eq_true k
  · intro m hm hmj
    have hmn : m < ns.length := by omega
    obtain ⟨tm, hmt⟩ := hi.get m _ (List.getElem?_eq_getElem hmn)
    obtain ⟨h1, h2⟩ := List.getElem?_eq_some_iff.mp hmt
    have e1 : its.toArray[m] = .str ns[m] tm := by simpa using h2
    rw [e1]
    refine str_ne fun e2 => hno m hmj ?_
    rw [List.getElem?_eq_getElem hmn, e2]
  · have rr := r.eraseIdx j
    rw [erase_mapS] at rr
    refine ⟨.non, _, I.lset (its' := its.eraseIdx j) (t' := s.toks) hH e ?_ rr ?_, rfl, q⟩
    · show its.toArray.eraseIdxIfInBounds j = (its.eraseIdx j).toArray
      rw [List.eraseIdxIfInBounds_toArray]
    · have z2 := len_erase ns j
      rw [List.length_map]
      omega
/-- name = {k: v for ..} on one line, the name a local -/
theorem ps_setDc {i : Nat} {y : Str} {py : Pos} {kx vx tg iter : Expr} {ifs : List Expr} {scope : Scope} {own : List (Str × Nat)} {pos spos : Pos} {wi : TI} {g : TG} {tt : TT} {tk tv : TE} (hc : X.calm = true) (hN : X.N.Nodup) (hy : X.N[i]? = some y) (hyl : X.env.scope.names.lookup y = some .local)
    (hsw : swapsWith (.DictComp kx vx [⟨tg, iter, ifs, 0⟩] scope pos) (some (.Name y py)) spos.line X.env = pure true) (hi : PI X tg iter wi) (ok : BlkOk X.N X.env.scope scope own)
    (hg : ∀ (s : Shared) (H : Hp) (C : Addr) (cl : List (Str × Addr)) (fp : List Addr), PG (X.blk s H scope (compEnvC scope cl C X.env) fp) tg g) (ht : ∀ (s : Shared) (H : Hp) (C : Addr) (cl : List (Str × Addr)) (fp : List Addr), PTs (X.blk s H scope (compEnvC scope cl C X.env) fp) ifs tt)
    (hk : ∀ (s : Shared) (H : Hp) (C : Addr) (cl : List (Str × Addr)) (fp : List Addr), PE (X.blk s H scope (compEnvC scope cl C X.env) fp) kx tk)
    (he : ∀ (s : Shared) (H : Hp) (C : Addr) (cl : List (Str × Addr)) (fp : List Addr), PE (X.blk s H scope (compEnvC scope cl C X.env) fp) vx tv) (hs : ∀ x, foldedSetIterable iter X.env x = pure x := by intro _; rfl) :
    PS X (.Assign [.Name y py] (.DictComp kx vx [⟨tg, iter, ifs, 0⟩] scope pos) spos) (tAsg (tDc wi g tt tk tv (own.map (·.2))) (gName i)) := by
  refine ⟨fun pins s σ H D I h => ?_⟩
  rw [exec_Assign_Name_used _ _ _ _ hsw]
  refine wpAny_bind (wpAny_standAt (wpAny_bind ?_))
  show wpAny _ X.A (do let _ ← comprehension (.DictComp kx vx [⟨tg, iter, ifs, 0⟩] scope pos) scope X.env (firstIterPos [⟨tg, iter, ifs, 0⟩] pos) newDict false (eval iter X.env) (some (assign (.Name y py) X.env))) _ _ s
  have h : tDc wi g tt tk tv (own.map (·.2)) σ H (fun x H1 => gName i x σ H1 D.nx) := h
  refine wpAny_bind (thn (dc_core (Qf := fun _ s' => SP X pins D .next s') hc hN I hi ok hg ht hk he hs h fun L C s' m H' I' q hn f => ?_) fun _ s' hq => wpAny_pure (wpAny_pure hq))
  show wpAny _ _ (assign (.Name y py) X.env (.ref L)) _ _ _
  refine wpAny_assign_Name (store_ok2 (v := V.ref L) I' hN hy (.inl hyl) rfl (fun s2 I2 ⟨a, sb, ha⟩ => ?_) (.inr hyl))
  obtain ⟨f0, f1, f2, f3, f4, f5⟩ := f
  have haC : C ≠ a := by
    rcases ha with z | z
    · rw [z]; exact f1
    · exact fun e => f4 y a z e.symm
  refine ⟨m, hn.sameBut sb haC, fun h3 sb3 => ?_⟩
  exact ⟨_, H', I2.turned (t' := s2.toks) (fun b o hb e => (sb3.2 b hb).trans e) f0 f1 f3 f4 f5, q⟩
theorem sw_trueD {kx vx : Expr} {gs : List Comprehension} {scope : Scope} {pos py : Pos} {y : Str} {l : Nat} {env : Env} (hk : env.scope.kind = .function) (hy : env.scope.names.lookup y = some .local) (hl : (py.line == pos.line) = true)
    (ha : (scope.names.any fun (n, k) => n == y && (k == .local || k == .cell)) = false) : swapsWith (.DictComp kx vx gs scope pos) (some (.Name y py)) l env = pure true := by
  have ky : env.kindOf y = some .local := hy
  have hb : env.blockKind = .function := by unfold Env.blockKind; rw [hk]; rfl
  unfold swapsWith
  simp only [hb, ky, ha, Expr.pos, hl]
  rfl
/-- behind a statement, the thing in slot i is known for good -/
def tFrzS (i : Nat) (t : TS) : TS := fun D σ H => t { D with nx := fun σ' H' => ∃ d u, σ'[i]? = some (some (V.ref d)) ∧ H' d = some u ∧ Mut (some u) ∧ ∀ od, D.nx σ' (upd H' d (.frz od u)) } σ H
theorem ps_frz (i : Nat) {st : Stmt} {t : TS} (h : PS X st t) : PS X st (tFrzS i t) := by
  refine ⟨fun pins s σ H D I hw => ?_⟩
  refine thn (h.run pins s σ H _ I hw) fun f s1 q => ?_
  cases f with
  | next =>
    obtain ⟨σ', H', I', d, u, _, hd, mu, q⟩ := q
    obtain ⟨od, I2⟩ := I'.lock hd mu
    exact ⟨σ', _, I2, q od⟩
  | brk => exact q
  | cont => exact q
  | ret v => exact q

/-! ### a def of the module, called -/
end
structure Df (P : Program) (w : World) (K : PySem.W.Frag) (mg : Str → Option Value) (base : Heap) (k : Nat) (x : Str) (ps : List Str) (sp : Sp) : Prop where
  ex : ∃ (f : Addr) (fd : FuncData), FnOk P w K mg base CX0 k f fd ps sp ∧ PySem.W.keepIn K (.ref f) = true ∧ Binds K fd ps [] ∧ mg x = some (.ref f)
/-- a call's reading -/
def tDf (sp : Sp) (t : TA) : TE := fun σ H Q => t σ H fun vs H1 => sp vs H1 Q E0
section
variable {X : Cx}
theorem pe_df {k : Nat} {x : Str} {ps : List Str} {sp : Sp} {e : Expr} {es : List Expr} {t : TA} {p pos : Pos} (D : Df X.prog X.w X.K X.mg X.base k x ps sp) (hr : Room k X.A) (ha : PA X (e :: es) t) (hg : Gl X x := by rfl) (hdb : (x == ("__debug__" : Str)) = false := by decide)
    (he : starEach (e :: es) X.env = (false, eval e X.env) :: starEach es X.env := by rfl) (hpl : (backTo pos (starEach es X.env)).any (·.1) = false := by rfl) : PE X (.Call (.Name x p) (e :: es) [] pos) (tDf sp t) := by
  obtain ⟨f, fd, F, kp, b, m⟩ := D.ex
  have h := pe_call (ds := []) (dvs := []) (E := E0) F hr hg m kp b .nil pass0 ha hdb he hpl (p := p) (pos := pos)
  refine ⟨fun pins s σ H Q I hw => h.run pins s σ H Q I ?_⟩
  have e : tCall sp [] E0 t σ H Q = tDf sp t σ H Q := by
    unfold tCall tDf
    simp only [List.append_nil]
  rw [e]
  exact hw
/-- a method of the class at C -/
structure Md (P : Program) (w : World) (K : PySem.W.Frag) (mg : Str → Option Value) (base : Heap) (C : Addr) (k : Nat) (m : Str) (ps : List Str) (sp : Sp) : Prop where
  ex : ∃ (f : Addr) (fd : FuncData), FnOk P w K mg base CX0 k f fd ps sp ∧ Binds K fd ps [] ∧ Meth K C m f
def tMd (C : Addr) (m : Str) (sp : Sp) (ta : TE) (t : TA) : TE := fun σ H Q => ta σ H fun x H1 => ∃ a dx fs, x = .ref a ∧ H1 a = some (.ins C dx fs) ∧ fs.lookup m = none ∧ t σ H1 fun vs H2 => sp (x :: vs) H2 Q E0
variable {C : Addr} {k : Nat} {m : Str} {ps : List Str} {sp : Sp} {o e : Expr} {es : List Expr} {ta : TE} {t : TA} {apos pos : Pos}
theorem pe_md {pl : Sem Bool} (D : Md X.prog X.w X.K X.mg X.base C k m ps sp) (c : Cls X.K C) (hr : Room k X.A) (he : PE X o ta) (ha : PA X (e :: es) t)
    (hst : starEach (e :: es) X.env = (false, eval e X.env) :: starEach es X.env := by rfl) (hpl : (backTo pos (starEach es X.env)).any (·.1) = false := by rfl)
    (ht : eval (.Call (.Attribute o m apos) (e :: es) [] pos) X.env = (do
      let ov ← eval o X.env
      standAt apos.atName
      let (f, first) ← holding [ov] (getMethod ov m pl)
      callWith pos f first (backTo pos (starEach (e :: es) X.env)) (backToKw pos (keywordEach [] X.env))) := by rfl) :
    PE X (.Call (.Attribute o m apos) (e :: es) [] pos) (tMd C m sp ta t) := by
  obtain ⟨f, fd, F, b, M⟩ := D.ex
  have h := pe_meth (ds := []) (dvs := []) (E := E0) he c M F hr b .nil pass0 ha hst hpl ht
  refine ⟨fun pins s σ H Q I hw => h.run pins s σ H Q I ?_⟩
  have e : tMeth C m sp [] E0 ta t σ H Q = tMd C m sp ta t σ H Q := by
    unfold tMeth tMd
    simp only [List.append_nil]
  rw [e]
  exact hw
theorem pe_md0 {pl : Sem Bool} (D : Md X.prog X.w X.K X.mg X.base C k m ps sp) (c : Cls X.K C) (hr : Room k X.A) (he : PE X o ta)
    (ht : eval (.Call (.Attribute o m apos) [] [] pos) X.env = (do
      let ov ← eval o X.env
      standAt apos.atName
      let (f, first) ← holding [ov] (getMethod ov m pl)
      callWith pos f first (backTo pos (starEach [] X.env)) (backToKw pos (keywordEach [] X.env))) := by rfl) :
    PE X (.Call (.Attribute o m apos) [] [] pos) (tMd C m sp ta tNil) := by
  obtain ⟨f, fd, F, b, M⟩ := D.ex
  have h := pe_meth0 (ds := []) (dvs := []) (E := E0) he c M F hr b .nil pass0 ht
  refine ⟨fun pins s σ H Q I hw => h.run pins s σ H Q I ?_⟩
  have e : tMeth C m sp [] E0 ta tNil σ H Q = tMd C m sp ta tNil σ H Q := by
    unfold tMeth tMd
    simp only [List.append_nil]
  rw [e]
  exact hw
end
theorem Df.mono {P : Program} {w : World} {K : PySem.W.Frag} {mg : Str → Option Value} {base : Heap} {k : Nat} {x : Str} {ps : List Str} {sp sp' : Sp} (D : Df P w K mg base k x ps sp) : Df P w K mg base k x ps sp := D
end Gap
set_option Elab.async false
set_option linter.all false
set_option maxRecDepth 100000
set_option maxHeartbeats 4000000
namespace Bk
open PySem PySem.Spec PyProof.Rows L2 Gap

/-! ### what stands still -/
def isFix : HO → Bool
  | .tup _ => true
  | .frz _ _ => true
  | _ => false
/-- tuples and known things stay -/
def Keep (H H' : Hp) : Prop := ∀ b o, H b = some o → isFix o = true → H' b = some o
theorem Keep.refl (H : Hp) : Keep H H := fun _ _ h _ => h
theorem Keep.trans {H H1 H2 : Hp} (a : Keep H H1) (b : Keep H1 H2) : Keep H H2 := fun c o h f => b c o (a c o h f) f
theorem Keep.of {H H' : Hp} (e : Same H H') : Keep H H' := fun b o h _ => e b o h
theorem Keep.new {H : Hp} {p : Addr} {o : HO} (h : H p = none) : Keep H (upd H p o) := fun a u e _ => by rw [upd_ne (ne_of_none e h)]; exact e
/-- a list, a dict, an instance changed -/
theorem Keep.mut {H : Hp} {p : Addr} {o u : HO} (h : H p = some u) (f : isFix u = false) : Keep H (upd H p o) := fun a v e g => by
  have : a ≠ p := by
    intro z; subst z; rw [h] at e; cases e; rw [f] at g; cases g
  rw [upd_ne this]; exact e
theorem Same.new {H : Hp} {p : Addr} {o : HO} (h : H p = none) : Same H (upd H p o) := fun a u e => by rw [upd_ne (ne_of_none e h)]; exact e
/-- a thing that H does not know may change -/
theorem Same.mut {H H' : Hp} {p : Addr} {o : HO} (e : Same H H') (h : H p = none) : Same H (upd H' p o) := fun a u ha => by
  rw [upd_ne (ne_of_none ha h)]; exact e a u ha

/-! ### data without lists -/
mutual
def still : PyData → Bool
  | .none => true
  | .bool _ => true
  | .int _ => true
  | .str _ => true
  | .tuple ds => stillAll ds
  | .list _ => false
  | .dict _ => false
def stillAll : List PyData → Bool
  | [] => true
  | d :: ds => still d && stillAll ds
end
variable {K : PySem.W.Frag} {H H' : Hp}
theorem SqT_keep {a : Addr} {xs : List V} (e : Keep H H') (h : SqT K H a xs) : SqT K H' a xs := by
  rcases h with (h | ⟨o, h⟩) | h
  · exact .inl (.inl (e _ _ h rfl))
  · exact .inl (.inr ⟨o, e _ _ h rfl⟩)
  · exact .inr h
theorem SqT_same {a : Addr} {xs : List V} (e : Same H H') (h : SqT K H a xs) : SqT K H' a xs := SqT_keep (Keep.of e) h
mutual
theorem Dp_keep (e : Keep H H') : ∀ (d : PyData) {v : V}, still d = true → Dp K H v d → Dp K H' v d
  | .none, _, _, h => by cases h; exact .non
  | .bool _, _, _, h => by cases h; exact .bl _
  | .int _, _, _, h => by cases h; exact .int _
  | .str _, _, _, h => by cases h; exact .str _
  | .tuple ds, _, s, h => by
    cases h with
    | tup q r => exact .tup (SqT_keep e q) (DpAll_keep e ds s r)
  | .list _, _, s, _ => by cases s
  | .dict _, _, s, _ => by cases s
theorem DpAll_keep (e : Keep H H') : ∀ (ds : List PyData) {vs : List V}, stillAll ds = true → DpAll K H vs ds → DpAll K H' vs ds
  | [], _, _, h => by cases h; exact .nil
  | d :: ds, _, s, h => by
    have s' : still d = true ∧ stillAll ds = true := by
      unfold stillAll at s
      exact Bool.and_eq_true_iff.mp s
    cases h with
    | cons a b => exact .cons (Dp_keep e d s'.1 a) (DpAll_keep e ds s'.2 b)
end
mutual
theorem Dp_same (e : Same H H') : ∀ (d : PyData) {v : V}, Dp K H v d → Dp K H' v d
  | .none, _, h => by cases h; exact .non
  | .bool _, _, h => by cases h; exact .bl _
  | .int _, _, h => by cases h; exact .int _
  | .str _, _, h => by cases h; exact .str _
  | .tuple ds, _, h => by
    cases h with
    | tup q r => exact .tup (SqT_same e q) (DpAll_same e ds r)
  | .list ds, _, h => by
    cases h with
    | lst q r => exact .lst (e.seq q) (DpAll_same e ds r)
  | .dict _, _, h => by cases h
theorem DpAll_same (e : Same H H') : ∀ (ds : List PyData) {vs : List V}, DpAll K H vs ds → DpAll K H' vs ds
  | [], _, h => by cases h; exact .nil
  | d :: ds, _, h => by
    cases h with
    | cons a b => exact .cons (Dp_same e d a) (DpAll_same e ds b)
end
theorem _root_.L2.DpAll.length {vs : List V} {ds : List PyData} (h : DpAll K H vs ds) : vs.length = ds.length := by
  induction ds generalizing vs with
  | nil => cases h; rfl
  | cons d ds ih => cases h with | cons a b => rw [List.length_cons, List.length_cons, ih b]
theorem _root_.L2.DpAll.append {vs ws : List V} {ds es : List PyData} (h : DpAll K H vs ds) (h' : DpAll K H ws es) : DpAll K H (vs ++ ws) (ds ++ es) := by
  induction ds generalizing vs with
  | nil => cases h; exact h'
  | cons d ds ih => cases h with | cons a b => exact .cons a (ih b)
theorem stillAll_append : ∀ (ds es : List PyData), stillAll (ds ++ es) = (stillAll ds && stillAll es)
  | [], _ => by simp [stillAll]
  | d :: ds, es => by simp [stillAll, stillAll_append ds es, Bool.and_assoc]
theorem stillAll_map {α : Type} (f : α → PyData) (h : ∀ a, still (f a) = true) : ∀ l : List α, stillAll (l.map f) = true
  | [] => rfl
  | a :: l => by
    show (still (f a) && stillAll (l.map f)) = true
    rw [h a, stillAll_map f h l]
    rfl
/-! ### reading off data -/
theorem _root_.L2.Dp.str_eq {v : V} {x : Str} (h : Dp K H v (.str x)) : v = .str x := by cases h; rfl
theorem _root_.L2.Dp.int_eq {v : V} {i : Int} (h : Dp K H v (.int i)) : v = .int i := by cases h; rfl
theorem _root_.L2.Dp.bl_eq {v : V} {b : Bool} (h : Dp K H v (.bool b)) : v = .bl b := by cases h; rfl
theorem _root_.L2.Dp.non_eq {v : V} (h : Dp K H v .none) : v = .non := by cases h; rfl
theorem _root_.L2.Dp.tup_of {v : V} {ds : List PyData} (h : Dp K H v (.tuple ds)) : ∃ a xs, v = .ref a ∧ SqT K H a xs ∧ DpAll K H xs ds := by
  cases h with | tup q r => exact ⟨_, _, rfl, q, r⟩
theorem _root_.L2.DpAll.map_ints {vs : List V} {ns : List Int} (h : DpAll K H vs (ns.map PyData.int)) : vs = ns.map V.int := by
  induction ns generalizing vs with
  | nil => cases h; rfl
  | cons n ns ih => cases h with | cons a b => rw [a.int_eq, ih b]; rfl
theorem _root_.L2.DpAll.map_strs {vs : List V} {ns : List Str} (h : DpAll K H vs (ns.map PyData.str)) : vs = ns.map V.str := by
  induction ns generalizing vs with
  | nil => cases h; rfl
  | cons n ns ih => cases h with | cons a b => rw [a.str_eq, ih b]; rfl
theorem _root_.L2.DpAll.map_bools {vs : List V} {ns : List Bool} (h : DpAll K H vs (ns.map PyData.bool)) : vs = ns.map V.bl := by
  induction ns generalizing vs with
  | nil => cases h; rfl
  | cons n ns ih => cases h with | cons a b => rw [a.bl_eq, ih b]; rfl
theorem _root_.L2.DpAll.of_ints (ns : List Int) : DpAll K H (ns.map V.int) (ns.map PyData.int) := by
  induction ns with
  | nil => exact .nil
  | cons n ns ih => exact .cons (.int _) ih
theorem _root_.L2.DpAll.of_strs (ns : List Str) : DpAll K H (ns.map V.str) (ns.map PyData.str) := by
  induction ns with
  | nil => exact .nil
  | cons n ns ih => exact .cons (.str _) ih
theorem _root_.L2.DpAll.paired {α : Type} {f : α → PyData} {vs : List V} {ls : List α} (h : DpAll K H vs (ls.map f)) : Paired (fun v l => Dp K H v (f l)) vs ls := by
  induction ls generalizing vs with
  | nil => cases h; exact .nil
  | cons n ns ih => cases h with | cons a b => exact .cons a (ih b)
theorem _root_.L2.DpAll.of_paired {α : Type} {f : α → PyData} {vs : List V} {ls : List α} (h : Paired (fun v l => Dp K H v (f l)) vs ls) : DpAll K H vs (ls.map f) := by
  induction h with
  | nil => exact .nil
  | cons a _ ih => exact .cons a ih

/-! ### moves, what names stand for, states -/
structure Mv where
  a : Int
  b : Int
  c : Int
  d : Int
  deriving DecidableEq
inductive Told where
  | mv (m : Mv)
  | wd (ls : List (Str × Int))
def mvD (m : Mv) : PyData := .tuple [.int m.a, .int m.b, .int m.c, .int m.d]
def letD (l : Str × Int) : PyData := .tuple [.str l.1, .int l.2]
def toldD : Told → PyData
  | .mv m => .tuple [.str "move", mvD m]
  | .wd ls => .tuple [.str "word", .tuple (ls.map letD)]
abbrev Stt := List (Str × Told)
theorem still_mv (m : Mv) : still (mvD m) = true := rfl
theorem still_let (l : Str × Int) : still (letD l) = true := rfl
theorem still_told (t : Told) : still (toldD t) = true := by
  cases t with
  | mv m => rfl
  | wd ls =>
    show (true && (stillAll (ls.map letD) && true)) = true
    rw [stillAll_map letD still_let]
    rfl
theorem dp_mv {v : V} {m : Mv} (h : Dp K H v (mvD m)) : ∃ a, v = .ref a ∧ SqT K H a [.int m.a, .int m.b, .int m.c, .int m.d] := by
  cases h with | tup q r => cases r with | cons r1 r => cases r with | cons r2 r => cases r with | cons r3 r => cases r with | cons r4 r =>
    cases r; rw [r1.int_eq, r2.int_eq, r3.int_eq, r4.int_eq] at q; exact ⟨_, rfl, q⟩
theorem mk_mv {a : Addr} {m : Mv} (h : SqT K H a [.int m.a, .int m.b, .int m.c, .int m.d]) : Dp K H (.ref a) (mvD m) := .tup h (.cons (.int _) (.cons (.int _) (.cons (.int _) (.cons (.int _) .nil))))
theorem dp_let {v : V} {l : Str × Int} (h : Dp K H v (letD l)) : ∃ a, v = .ref a ∧ SqT K H a [.str l.1, .int l.2] := by
  cases h with | tup q r => cases r with | cons r1 r => cases r with | cons r2 r => cases r; rw [r1.str_eq, r2.int_eq] at q; exact ⟨_, rfl, q⟩
theorem mk_let {a : Addr} {l : Str × Int} (h : SqT K H a [.str l.1, .int l.2]) : Dp K H (.ref a) (letD l) := .tup h (.cons (.str _) (.cons (.int _) .nil))
theorem dp_tmv {v : V} {m : Mv} (h : Dp K H v (toldD (.mv m))) : ∃ a y, v = .ref a ∧ SqT K H a [.str "move", y] ∧ Dp K H y (mvD m) := by
  cases h with | tup q r => cases r with | cons r1 r => cases r with | cons r2 r => cases r; rw [r1.str_eq] at q; exact ⟨_, _, rfl, q, r2⟩
theorem mk_tmv {a : Addr} {y : V} {m : Mv} (h : SqT K H a [.str "move", y]) (hy : Dp K H y (mvD m)) : Dp K H (.ref a) (toldD (.mv m)) := .tup h (.cons (.str _) (.cons hy .nil))
theorem dp_twd {v : V} {ls : List (Str × Int)} (h : Dp K H v (toldD (.wd ls))) : ∃ a b xs, v = .ref a ∧ SqT K H a [.str "word", .ref b] ∧ SqT K H b xs ∧ DpAll K H xs (ls.map letD) := by
  cases h with | tup q r => cases r with | cons r1 r => cases r with | cons r2 r =>
    cases r; rw [r1.str_eq] at q
    obtain ⟨b, xs, e, q2, q3⟩ := r2.tup_of
    subst e
    exact ⟨_, b, xs, rfl, q, q2, q3⟩
theorem mk_twd {a : Addr} {y : V} {ls : List (Str × Int)} (h : SqT K H a [.str "word", y]) (hy : Dp K H y (.tuple (ls.map letD))) : Dp K H (.ref a) (toldD (.wd ls)) := .tup h (.cons (.str _) (.cons hy .nil))
def wordOf : Told → Str
  | .mv _ => "move"
  | .wd _ => "word"
def partD : Told → PyData
  | .mv m => mvD m
  | .wd ls => .tuple (ls.map letD)
/-- a told thing, of either kind -/
theorem dp_told {v : V} {t : Told} (h : Dp K H v (toldD t)) : ∃ a y, v = .ref a ∧ SqT K H a [.str (wordOf t), y] ∧ Dp K H y (partD t) := by
  cases t with
  | mv m => exact dp_tmv h
  | wd ls =>
    obtain ⟨a, b, xs, e, q, q2, q3⟩ := dp_twd h
    exact ⟨a, _, e, q, .tup q2 q3⟩
theorem mk_told {a : Addr} {y : V} {t : Told} (h : SqT K H a [.str (wordOf t), y]) (hy : Dp K H y (partD t)) : Dp K H (.ref a) (toldD t) := by
  cases t with
  | mv m => exact mk_tmv h hy
  | wd ls => exact mk_twd h hy

/-! ### dicts of data, known for good -/
def KVD (K : PySem.W.Frag) (H : Hp) (kvs : List (Key × V)) (ds : List (Str × PyData)) : Prop := Paired (fun (p : Key × V) (q : Str × PyData) => p.1 = Sum.inr q.1 ∧ Dp K H p.2 q.2) kvs ds
def DcAt (K : PySem.W.Frag) (H : Hp) (v : V) (ds : List (Str × PyData)) : Prop := ∃ d od kvs, v = .ref d ∧ H d = some (.frz od (.dK kvs)) ∧ KVD K H kvs ds
def stillKV (ds : List (Str × PyData)) : Prop := ∀ q ∈ ds, still q.2 = true
theorem KVD_same (e : Same H H') {kvs : List (Key × V)} {ds : List (Str × PyData)} (h : KVD K H kvs ds) : KVD K H' kvs ds := by
  unfold KVD at h ⊢
  exact Paired.mapP h fun p q z => ⟨z.1, Dp_same e _ z.2⟩
theorem KVD_keep (e : Keep H H') {kvs : List (Key × V)} {ds : List (Str × PyData)} (s : stillKV ds) (h : KVD K H kvs ds) : KVD K H' kvs ds := by
  unfold KVD at h ⊢
  induction h with
  | nil => exact .nil
  | cons a _ ih => exact .cons ⟨a.1, Dp_keep e _ (s _ List.mem_cons_self) a.2⟩ (ih fun q hq => s q (List.mem_cons_of_mem _ hq))
theorem DcAt_same (e : Same H H') {v : V} {ds : List (Str × PyData)} (h : DcAt K H v ds) : DcAt K H' v ds := by
  obtain ⟨d, od, kvs, rfl, hd, r⟩ := h
  exact ⟨d, od, kvs, rfl, e _ _ hd, KVD_same e r⟩
theorem DcAt_keep (e : Keep H H') {v : V} {ds : List (Str × PyData)} (s : stillKV ds) (h : DcAt K H v ds) : DcAt K H' v ds := by
  obtain ⟨d, od, kvs, rfl, hd, r⟩ := h
  exact ⟨d, od, kvs, rfl, e _ _ hd rfl, KVD_keep e s r⟩
theorem KVD.keys {kvs : List (Key × V)} {ds : List (Str × PyData)} (h : KVD K H kvs ds) : kvs.map (·.1) = (ds.map (·.1)).map Sum.inr := by
  unfold KVD at h
  induction h with
  | nil => rfl
  | cons a _ ih => simp only [List.map_cons]; rw [ih, a.1]
theorem KVD.length {kvs : List (Key × V)} {ds : List (Str × PyData)} (h : KVD K H kvs ds) : kvs.length = ds.length := Paired.length h
theorem KVD.get {kvs : List (Key × V)} {ds : List (Str × PyData)} (h : KVD K H kvs ds) (n : Str) : (ds.lookup n = none ∧ valV kvs (Sum.inr n) = none) ∨ ∃ d v, ds.lookup n = some d ∧ valV kvs (Sum.inr n) = some v ∧ Dp K H v d := by
  unfold KVD at h
  induction h with
  | nil => exact .inl ⟨rfl, rfl⟩
  | @cons p q ps qs a _ ih =>
    by_cases e : n = q.1
    · have e2 : p.1 = Sum.inr n := by rw [e]; exact a.1
      refine .inr ⟨q.2, p.2, ?_, valV_pos e2, a.2⟩
      obtain ⟨q1, q2⟩ := q
      simp only at e
      rw [List.lookup_cons, e]
      simp
    · have e2 : ¬ p.1 = Sum.inr n := fun z => e (Sum.inr.inj (z.symm.trans a.1))
      have e3 : (q :: qs).lookup n = qs.lookup n := by
        obtain ⟨q1, q2⟩ := q
        rw [List.lookup_cons]
        have : (n == q1) = false := str_ne e
        rw [this]
      rw [e3, valV_neg e2]
      exact ih
theorem DGet_rd {a : Addr} {kvs : List (Key × V)} {k : Key} (e : Rd H a (.dK kvs)) : DGet H a (kV k) (valV kvs k) := .inl ⟨kvs, k, e, rfl, rfl⟩
theorem DcAt.get {v : V} {ds : List (Str × PyData)} {n : Str} {x : PyData} (h : DcAt K H v ds) (l : ds.lookup n = some x) : ∃ a u, v = .ref a ∧ DGet H a (.str n) (some u) ∧ Dp K H u x := by
  obtain ⟨d, od, kvs, rfl, hd, r⟩ := h
  rcases r.get n with ⟨z, _⟩ | ⟨d', u, l', e, q⟩
  · rw [l] at z; cases z
  · rw [l] at l'; cases l'
    have g := DGet_rd (k := Sum.inr n) (.inr ⟨od, hd⟩)
    rw [e] at g
    exact ⟨d, u, rfl, g, q⟩
theorem DcAt.none {v : V} {ds : List (Str × PyData)} {n : Str} (h : DcAt K H v ds) (l : ds.lookup n = none) : ∃ a, v = .ref a ∧ DGet H a (.str n) none := by
  obtain ⟨d, od, kvs, rfl, hd, r⟩ := h
  rcases r.get n with ⟨_, e⟩ | ⟨d', u, l', e, q⟩
  · have g := DGet_rd (k := Sum.inr n) (.inr ⟨od, hd⟩)
    rw [e] at g
    exact ⟨d, rfl, g⟩
  · rw [l] at l'; cases l'
theorem DcAt.isD {v : V} {ds : List (Str × PyData)} (h : DcAt K H v ds) : ∃ a, v = .ref a ∧ IsD H a := by
  obtain ⟨d, od, kvs, rfl, hd, r⟩ := h
  exact ⟨d, rfl, .inl ⟨kvs, .inr ⟨od, hd⟩⟩⟩
/-- a state stands at v -/
def stD (st : Stt) : List (Str × PyData) := st.map fun p => (p.1, toldD p.2)
def StAt (K : PySem.W.Frag) (H : Hp) (v : V) (st : Stt) : Prop := DcAt K H v (stD st)
theorem still_st (st : Stt) : stillKV (stD st) := fun q hq => by
  obtain ⟨p, _, rfl⟩ := List.mem_map.mp hq
  exact still_told p.2
theorem stD_lookup (st : Stt) (n : Str) : (stD st).lookup n = (st.lookup n).map toldD := by
  induction st with
  | nil => rfl
  | cons p r ih =>
    obtain ⟨p1, p2⟩ := p
    show ((p1, toldD p2) :: stD r).lookup n = _
    rw [List.lookup_cons, List.lookup_cons]
    cases e : n == p1 with
    | true => rfl
    | false => exact ih
theorem stD_keys (st : Stt) : (stD st).map (·.1) = st.map (·.1) := by
  unfold stD
  rw [List.map_map]
  rfl
theorem StAt.get {v : V} {st : Stt} {n : Str} {t : Told} (h : StAt K H v st) (l : st.lookup n = some t) : ∃ a u, v = .ref a ∧ DGet H a (.str n) (some u) ∧ Dp K H u (toldD t) :=
  DcAt.get h (by rw [stD_lookup, l]; rfl)
theorem StAt.none {v : V} {st : Stt} {n : Str} (h : StAt K H v st) (l : st.lookup n = none) : ∃ a, v = .ref a ∧ DGet H a (.str n) none :=
  DcAt.none h (by rw [stD_lookup, l]; rfl)
theorem lookup_mem {α β : Type} [BEq α] [LawfulBEq α] {l : List (α × β)} {a : α} {b : β} (h : l.lookup a = some b) : (a, b) ∈ l := by
  induction l with
  | nil => cases h
  | cons p r ih =>
    obtain ⟨p1, p2⟩ := p
    rw [List.lookup_cons] at h
    cases e : a == p1 with
    | true => rw [e] at h; cases h; rw [eq_of_beq e]; exact List.mem_cons_self
    | false => rw [e] at h; exact List.mem_cons_of_mem _ (ih h)
theorem lookup_key {α β : Type} [BEq α] [LawfulBEq α] {l : List (α × β)} {a : α} (h : a ∈ l.map (·.1)) : ∃ b, l.lookup a = some b := by
  induction l with
  | nil => cases h
  | cons p r ih =>
    obtain ⟨p1, p2⟩ := p
    rw [List.lookup_cons]
    cases e : a == p1 with
    | true => exact ⟨_, rfl⟩
    | false =>
      rcases List.mem_cons.mp h with z | z
      · have z' : a = p1 := z
        rw [z'] at e; rw [beq_self_eq_true] at e; cases e
      · exact ih z
theorem lookup_none {α β : Type} [BEq α] [LawfulBEq α] {l : List (α × β)} {a : α} (h : a ∉ l.map (·.1)) : l.lookup a = none := by
  cases e : l.lookup a with
  | none => rfl
  | some b => exact absurd (List.mem_map.mpr ⟨(a, b), lookup_mem e, rfl⟩) h
theorem lookup_of_mem {α β : Type} [BEq α] [LawfulBEq α] {l : List (α × β)} {a : α} {b : β} (nd : (l.map (·.1)).Nodup) (h : (a, b) ∈ l) : l.lookup a = some b := by
  induction l with
  | nil => cases h
  | cons p r ih =>
    obtain ⟨p1, p2⟩ := p
    rw [List.map_cons, List.nodup_cons] at nd
    rw [List.lookup_cons]
    rcases List.mem_cons.mp h with z | z
    · cases z; rw [beq_self_eq_true]
    · have : (a == p1) = false := by
        cases e : a == p1 with
        | false => rfl
        | true =>
          have e' := eq_of_beq e
          exact absurd (List.mem_map.mpr ⟨(a, b), z, e'⟩) nd.1
      rw [this]
      exact ih nd.2 z
end Bk
set_option Elab.async false
set_option linter.all false
set_option maxRecDepth 100000
set_option maxHeartbeats 4000000
namespace Bk
open PySem PySem.Spec PyProof.Rows L2 Gap
/-- the i-th statement of the top -/
def topS (i : Nat) : Stmt := PySem.Challenge.pw_ballmoves_k96_whole_names_and_values.main.body.getD i (.Pass ⟨0, 0, 0, 0⟩)
theorem _root_.L2.Room.units64 {k : Nat} {A : Around} (r : Room k A) : A.units + 64 < cLine := by have := r.un; omega
theorem _root_.L2.Room.units65 {k : Nat} {A : Around} (r : Room k A) : A.units + 65 < cLine := by have := r.un; omega
/-- what the top has left under its names -/
structure Gs (K : PySem.W.Frag) (mg : Str → Option Value) : Prop where
  IDLE : ∃ a, mg "IDLE" = some (.ref a) ∧ ∀ H, SqT K H a [.int 1, .int 0, .int 0, .int 1]
  LETTERS : ∃ u, mg "LETTERS" = some u ∧ RelV (.str "abcdefghijklmnopqrstuvwxyz") u
  MOST_SIGNS : ∃ u, mg "MOST_SIGNS" = some u ∧ RelV (.int 8) u
  MOST_LETTERS : ∃ u, mg "MOST_LETTERS" = some u ∧ RelV (.int 12) u
  MOST_NAMES : ∃ u, mg "MOST_NAMES" = some u ∧ RelV (.int 12) u
  MOST_LENGTH : ∃ u, mg "MOST_LENGTH" = some u ∧ RelV (.int 500) u
  MAIN : ∃ u, mg "MAIN" = some u ∧ RelV (.str "main") u
  MOST_MOMENTS : ∃ u, mg "MOST_MOMENTS" = some u ∧ RelV (.int 200) u
  MOST_BRANCHES : ∃ u, mg "MOST_BRANCHES" = some u ∧ RelV (.int 6) u
  gcd : mg "gcd" = some (.builtin "math.gcd")
  len : mg "len" = none
  isinstance : mg "isinstance" = none
  sorted : mg "sorted" = none
  b_all : mg "all" = none
  b_any : mg "any" = none
  sum : mg "sum" = none
  max : mg "max" = none
  abs : mg "abs" = none
  range : mg "range" = none
  b_int : mg "int" = none
  b_bool : mg "bool" = none
  b_str : mg "str" = none
  b_tuple : mg "tuple" = none
  b_list : mg "list" = none
  b_dict : mg "dict" = none
section
variable {X : Cx}
theorem pe_globE {x : Str} {v : V} {pos : Pos} (hg : Gl X x) (hm : ∃ u, X.mg x = some u ∧ RelV v u) (hd : (x == ("__debug__" : Str)) = false := by decide) : PE X (.Name x pos) (tC v) := by
  obtain ⟨u, h1, h2⟩ := hm
  exact pe_glob hg h1 h2 hd
def tIdle (K : PySem.W.Frag) : TE := fun _ H Q => ∀ a, (∀ H, SqT K H a [.int 1, .int 0, .int 0, .int 1]) → Q (.ref a) H
theorem pe_idle {pos : Pos} (hg : Gl X "IDLE") (hm : ∃ a, X.mg "IDLE" = some (.ref a) ∧ ∀ H, SqT X.K H a [.int 1, .int 0, .int 0, .int 1]) : PE X (.Name "IDLE" pos) (tIdle X.K) := by
  obtain ⟨a, h1, h2⟩ := hm
  exact ⟨fun _ _ _ H _ I h => ld_glob I hg h1 ⟨.ref a, H, I, rfl, h a h2⟩ (by decide)⟩
end
/-- how a def of the module is had from its body -/
theorem mk_df {P : Program} {w : World} {K : PySem.W.Frag} {mg : Str → Option Value} {base : Heap} {x : Str} {st : Stmt} {f : Addr} {fd : FuncData} {ps : List Str} {k : Nat} {sp : Sp} (F : Fun K x x st f fd) (m : mg x = some (.ref f)) (b : Binds K fd ps [])
    (G : FnOk P w K mg base CX0 k f fd ps sp) : Df P w K mg base k x ps sp := ⟨f, fd, G, F.kp, b, m⟩
/-- where a def of the module stands -/
structure At (K : PySem.W.Frag) (mg : Str → Option Value) (x : Str) (st : Stmt) (ps : List Str) : Prop where
  ex : ∃ (f : Addr) (fd : FuncData), Fun K x x st f fd ∧ mg x = some (.ref f) ∧ Binds K fd ps []
/-- where a method of the class at C stands -/
structure AtM (K : PySem.W.Frag) (C : Addr) (m qual : Str) (st : Stmt) (ps : List Str) : Prop where
  ex : ∃ (f : Addr) (fd : FuncData), Fun K m qual st f fd ∧ Meth K C m f ∧ Binds K fd ps []
section
variable {P : Program} {w : World} {K : PySem.W.Frag} {mg : Str → Option Value} {base : Heap}
/-- THE RULE for a def of the module -/
theorem At.ok {x : Str} {st : Stmt} {N ps : List Str} {k : Nat} {sp : Sp} (F : At K mg x st ps) (S : FnScope N ps (defScope st)) (len : ∀ vs H Q E, sp vs H Q E → vs.length = ps.length)
    (hbody : ∀ (f : Addr) (cdv : Value) (A : Around) (outer : List Env) (s : Shared) (H : Hp) (vs : List V) (Q : VK) (E : XK), Room k (A.deeper (envOfC x (defScope st) s.heap.objs.size f cdv)) → sp vs H Q E →
      ∃ t, PSs (cxOf CX0 P w K mg base N x (defScope st) f cdv A outer s H E).nox (defBody st) t ∧ t { nx := fun _ H' => Q .non H', rt := Q } (start N vs) H) : Df P w K mg base (k + 1) x ps sp := by
  obtain ⟨f, fd, F, m, b⟩ := F.ex
  exact mk_df F m b (F.ok S len fun cdv A outer s H vs Q E => hbody f cdv A outer s H vs Q E)
theorem AtM.ok {C : Addr} {m qual : Str} {st : Stmt} {N ps : List Str} {k : Nat} {sp : Sp} (F : AtM K C m qual st ps) (S : FnScope N ps (defScope st)) (len : ∀ vs H Q E, sp vs H Q E → vs.length = ps.length)
    (hbody : ∀ (f : Addr) (cdv : Value) (A : Around) (outer : List Env) (s : Shared) (H : Hp) (vs : List V) (Q : VK) (E : XK), Room k (A.deeper (envOfC qual (defScope st) s.heap.objs.size f cdv)) → sp vs H Q E →
      ∃ t, PSs (cxOf CX0 P w K mg base N qual (defScope st) f cdv A outer s H E).nox (defBody st) t ∧ t { nx := fun _ H' => Q .non H', rt := Q } (start N vs) H) : Md P w K mg base C (k + 1) m ps sp := by
  obtain ⟨f, fd, F, M, b⟩ := F.ex
  exact ⟨f, fd, F.ok S len fun cdv A outer s H vs Q E => hbody f cdv A outer s H vs Q E, b, M⟩
end
end Bk
set_option Elab.async false
set_option linter.all false
set_option maxRecDepth 100000
set_option maxHeartbeats 4000000
namespace Bk
open PySem PySem.Spec PyProof.Rows L2 Gap
/-! ### the rules, the written part named -/
section
variable {X : Cx} {K : PySem.W.Frag}
theorem k_in_seq (h : X.K = K) : OpR X (compareOp .In) (rIn K false) := h ▸ op_in_seq
theorem k_notIn_seq (h : X.K = K) : OpR X (compareOp .NotIn) (rIn K true) := h ▸ op_notIn_seq
theorem k_eqD (h : X.K = K) (hu : X.A.units + 64 < cLine) : OpR X (compareOp .Eq) (rEqD K) := h ▸ op_eqD hu
theorem k_neD (h : X.K = K) (hu : X.A.units + 64 < cLine) : OpR X (compareOp .NotEq) (rNeD K) := h ▸ op_neD hu
theorem k_eqDD (h : X.K = K) (hu : X.A.units + 65 < cLine) : OpR X (compareOp .Eq) (rEqDD K true) := h ▸ op_eqDD hu
theorem k_neDD (h : X.K = K) (hu : X.A.units + 65 < cLine) : OpR X (compareOp .NotEq) (rEqDD K false) := h ▸ op_neDD hu
theorem k_ix_list (h : X.K = K) : IxR X (rIxL K) := h ▸ ix_list
theorem k_ix_tup (h : X.K = K) : IxR X (rIxT K) := h ▸ ix_tup
theorem k_sl_list (h : X.K = K) : SlR X (rSlL K) := h ▸ sl_list
theorem k_sl_tup (h : X.K = K) : SlR X (rSlA K) := h ▸ sl_tupA
theorem k_all (h : X.K = K) (hc : X.calm = true) : CallR X (.builtin "all") (rAll K) := h ▸ cr_all hc
theorem k_any (h : X.K = K) (hc : X.calm = true) : CallR X (.builtin "any") (rAny K) := h ▸ cr_any hc
theorem k_sum (h : X.K = K) (hc : X.calm = true) : CallR X (.builtin "sum") (rSum K) := h ▸ cr_sum hc
theorem k_max (h : X.K = K) (hc : X.calm = true) : CallR X (.builtin "max") (rMax K) := h ▸ cr_max hc
theorem k_sortedS (h : X.K = K) : CallR X (.builtin "sorted") (rSortedS K) := h ▸ cr_sortedS
theorem k_isi (h : X.K = K) : CallR X (.builtin "isinstance") (rIsi K) := h ▸ call_isi
def rLen (K : PySem.W.Frag) : List V → Hp → VK → Prop := fun xs H Q => ∃ x n, xs = [x] ∧ LenV K x H n ∧ Q (.int n) H
theorem k_len (h : X.K = K) : CallR X (.builtin "len") (rLen K) := by subst h; exact call_len
def rTupOf (K : PySem.W.Frag) : List V → Hp → VK → Prop := fun xs H Q => ∃ p ys, xs = [.ref p] ∧ ((SqL K H p ys ∧ ∀ l, H l = none → Q (.ref l) (upd H l (.tup ys))) ∨ (SqT K H p ys ∧ Q (.ref p) H))
theorem k_tuple_of (h : X.K = K) : CallR X (.type "tuple") (rTupOf K) := by subst h; exact call_tuple_of
def rLstOf (K : PySem.W.Frag) : List V → Hp → VK → Prop := fun xs H Q => ∃ p ys, xs = [.ref p] ∧ (SqL K H p ys ∨ SqT K H p ys) ∧ ∀ l, H l = none → Q (.ref l) (upd H l (.lst ys))
theorem k_list_of (h : X.K = K) : CallR X (.type "list") (rLstOf K) := by subst h; exact call_list_of
def rDicP (K : PySem.W.Frag) : List V → Hp → VK → Prop := fun xs H Q => ∃ (a : Addr) (ps : List Addr) (kvs : List (Key × V)), xs = [.ref a] ∧ SqL K H a (ps.map V.ref) ∧ Paired (fun p kv => SqT K H p [kV kv.1, kv.2]) ps kvs ∧ ∀ p, H p = none → Q (.ref p) (upd H p (.dK (mergeK [] kvs)))
theorem k_dictP (h : X.K = K) (hc : X.calm = true) : CallR X (.type "dict") (rDicP K) := by subst h; exact call_dictP hc
def rSortD : List V → Hp → VK → Prop := fun xs H Q => ∃ (a : Addr) (kvs : List (Key × V)) (ks : List Str), xs = [.ref a] ∧ Rd H a (.dK kvs) ∧ kvs.map (·.1) = ks.map Sum.inr ∧ ks.length < 64 ∧
    ∀ ys p, ys.Perm ks → sortedS ys = true → H p = none → Q (.ref p) (upd H p (.lst (ys.map V.str)))
theorem k_sortedD (hc : X.calm = true) : CallR X (.builtin "sorted") rSortD := call_sortedD hc
variable {tg l : Expr} {tl : TE}
theorem k_pi_list (h : X.K = K) (hl : PE X l tl) : PI X tg l (iList K tl) := h ▸ pi_list hl
theorem k_pi_tup (h : X.K = K) (hl : PE X l tl) : PI X tg l (iTup K tl) := h ▸ pi_tup hl
theorem k_pg_tup {es : List Expr} {k : Nat} {t : TGs} {n : Nat} {pos : Pos} (h : X.K = K) (hc : X.calm = true) (hg : PGs X es t) (hn : (assignEach es X.env).length = n := by rfl) (hst : (assignEach es X.env).findIdx? (·.1) = none := by rfl) : PG X (.Tuple es k pos) (gTup K n t) := h ▸ pg_tup hc hg hn hst
theorem k_star {e : Expr} {es : List Expr} {te : TE} {t : TA} {p : Pos} (h : X.K = K) (he : PE X e te) (hr : PA X es t) (hs : starEach (.Starred e p :: es) X.env = (true, eval e X.env) :: starEach es X.env := by rfl) : PA X (.Starred e p :: es) (StX.tStar K te t) := h ▸ StX.pa_star he hr hs
theorem k_revL {e : Expr} {te : TE} {k : Nat} {p1 p2 p3 pos : Pos} (h : X.K = K) (he : PE X e te) : PE X (.Subscript e (.Slice none none (some (.UnaryOp .USub (.Constant (.int 1) k p1) p2)) p3) pos) (tRevL K te) := h ▸ pe_revL he
theorem k_idle {pos : Pos} (h : X.K = K) (hg : Gl X "IDLE") (hm : ∃ a, X.mg "IDLE" = some (.ref a) ∧ ∀ H, SqT K H a [.int 1, .int 0, .int 0, .int 1]) : PE X (.Name "IDLE" pos) (tIdle K) := by
  subst h
  exact pe_idle hg hm
theorem k_bm0 {o : Expr} {to : TE} {name : Str} {apos cpos : Pos} {T id : String} {r : V → List V → Hp → VK → Prop} (h : X.K = K) (pa : PlainAttrs T) (slot : Slot T name id) (hty : typeOf (.builtin id) = pure (.type "method_descriptor")) (hm : MtR X id r) (ho : PE X o to)
    (hbase : attributeBase o name X.env (eval o X.env) = eval o X.env := by rfl) (hline : (apos.endLine == cpos.line) = true := by rfl) : PE X (.Call (.Attribute o name apos) [] [] cpos) (tBM0 K T r to) := h ▸ pe_bm0 pa slot hty hm ho hbase hline
theorem k_bm {o e : Expr} {es : List Expr} {to : TE} {t : TA} {name : Str} {apos cpos : Pos} {T id : String} {r : V → List V → Hp → VK → Prop} (h : X.K = K) (pa : PlainAttrs T) (slot : Slot T name id) (hty : typeOf (.builtin id) = pure (.type "method_descriptor")) (hm : MtR X id r) (ho : PE X o to) (ha : PA X (e :: es) t)
    (hbase : attributeBase o name X.env (eval o X.env) = eval o X.env := by rfl)
    (hfew : ((backTo cpos (starEach (e :: es) X.env)).all (fun x => !x.1) && (backToKw cpos (keywordEach [] X.env)).all (fun x => x.1.isSome)
      && decide ((e :: es).length + ([] : List Keyword).length + (if ([] : List Keyword).isEmpty then 0 else 1) < 30)) = true := by rfl)
    (hline : (apos.endLine == cpos.line) = true := by rfl) (hs : starEach (e :: es) X.env = (false, eval e X.env) :: starEach es X.env := by rfl) (hplain : (backTo cpos (starEach es X.env)).any (·.1) = false := by rfl) :
    PE X (.Call (.Attribute o name apos) (e :: es) [] cpos) (tBM K T r to t) := h ▸ pe_bm pa slot hty hm ho ha hbase hfew hline hs hplain
theorem k_fld {o : Expr} {ta : TE} {f : Str} {pos : Pos} (h : X.K = K) (ha : PE X o ta) (hb : attributeBase o f X.env (eval o X.env) = eval o X.env) : PE X (.Attribute o f pos) (tFld K ta f) := h ▸ pe_fld ha hb
end
end Bk
set_option Elab.async false
set_option linter.all false
set_option maxRecDepth 100000
set_option maxHeartbeats 4000000
namespace Bk
open PySem PySem.Spec PyProof.Rows L2 Gap
/-- a walk over what stands for the items its -/
abbrev Wk {α : Type} (J : It) (its : List α) (G : Hp → Prop) (R : V → α → Prop) : Prop := Walk J its.length G (fun i H x H' => H' = H ∧ ∃ a, its[i]? = some a ∧ R x a)
theorem paired_get {α : Type} {R : V → α → Prop} : ∀ {xs : List V} {its : List α} {i : Nat} {x : V}, Paired R xs its → xs[i]? = some x → ∃ a, its[i]? = some a ∧ R x a
  | _, _, _, _, .nil, e => by simp at e
  | _, _, 0, _, .cons r _, e => by simp at e; subst e; exact ⟨_, rfl, r⟩
  | _, _, i + 1, x, .cons _ t, e => by
    obtain ⟨u, h1, h2⟩ := paired_get (i := i) (x := x) t (by simpa using e)
    exact ⟨u, by simpa using h1, h2⟩
theorem pair_append {α β : Type} {F : α → β → Prop} {a b : List α} {c d : List β} (h : Paired F a c) (h' : Paired F b d) : Paired F (a ++ b) (c ++ d) := by
  induction h with
  | nil => exact h'
  | cons r _ ih => exact .cons r ih
theorem paired_map {α : Type} {f : α → V} (its : List α) : Paired (fun x a => x = f a) (its.map f) its := by
  induction its with
  | nil => exact .nil
  | cons a r ih => exact .cons rfl ih
section
variable {K : PySem.W.Frag} {α : Type} {R : V → α → Prop} {its : List α} {xs : List V} {a : Addr}
theorem wk_list (h : Paired R xs its) : Wk (Itl K a) its (fun H => SqL K H a xs) R := by
  have hl : its.length = xs.length := (Paired.length h).symm
  show Walk (Itl K a) its.length _ _
  rw [hl]
  exact walk_list.mono (fun _ q => q) fun i H x H' _ _ y => ⟨y.1, paired_get h y.2⟩
theorem wk_tup (h : Paired R xs its) : Wk (Itt K a) its (fun H => SqT K H a xs) R := by
  have hl : its.length = xs.length := (Paired.length h).symm
  show Walk (Itt K a) its.length _ _
  rw [hl]
  exact walk_tup.mono (fun _ q => q) fun i H x H' _ _ y => ⟨y.1, paired_get h y.2⟩
/-- the keys of a known dict -/
theorem wk_keys {d : Addr} {o : Obj} {kvs : List (Key × V)} {ns : List Str} (h : kvs.map (·.1) = ns.map Sum.inr) : Wk (Itk d o kvs) ns (fun H => H d = some (.frz o (.dK kvs))) (fun x n => x = .str n) := by
  have hl : ns.length = kvs.length := by
    have := congrArg List.length h
    rw [List.length_map, List.length_map] at this
    exact this.symm
  show Walk (Itk d o kvs) ns.length _ _
  rw [hl]
  refine walk_keys.mono (fun _ q => q) fun i H x H' _ _ y => ⟨y.1, ?_⟩
  obtain ⟨k, v, e, ex⟩ := y.2
  have e1 : (kvs.map (·.1))[i]? = some k := by rw [List.getElem?_map, e]; rfl
  rw [h, List.getElem?_map] at e1
  cases en : ns[i]? with
  | none => rw [en] at e1; cases e1
  | some n =>
    rw [en] at e1
    cases e1
    exact ⟨n, rfl, ex⟩
theorem wk_values {d : Addr} {o : Obj} {kvs : List (Key × V)} (h : Paired R (kvs.map (·.2)) its) : Wk (Itd d o kvs) its (fun H => H d = some (.frz o (.dK kvs))) R := by
  have hl : its.length = kvs.length := by rw [← Paired.length h, List.length_map]
  show Walk (Itd d o kvs) its.length _ _
  rw [hl]
  refine walk_values.mono (fun _ q => q) fun i H x H' _ _ y => ⟨y.1, ?_⟩
  obtain ⟨k, e⟩ := y.2
  exact paired_get (i := i) h (by rw [List.getElem?_map, e]; rfl)
theorem wk_str {z : Str} : Wk (Its z) z.cps.toList (fun _ => True) (fun x c => x = .str ⟨#[c]⟩) := by
  show Walk (Its z) z.cps.toList.length _ _
  rw [Array.length_toList]
  exact walk_str.mono (fun _ q => q) fun i H x H' _ _ y => ⟨y.1, by
    obtain ⟨c, h1, h2⟩ := y.2
    exact ⟨c, by rw [Array.getElem?_toList]; exact h1, h2⟩⟩
theorem wk_range {n : Nat} : Wk (Itr 0 n) (List.range n) (fun _ => True) (fun x i => x = .int (i : Nat)) := by
  show Walk (Itr 0 n) (List.range n).length _ _
  rw [List.length_range]
  exact walk_range.mono (fun _ q => q) fun i H x H' hi _ y => ⟨y.1, i, by simp [hi], by
    have e : x = V.int (0 + (i : Int)) := y.2
    show x = V.int (i : Nat)
    rw [e, Int.zero_add]⟩
end
section
variable {K : PySem.W.Frag} {J : It} {G : Hp → Prop} {α : Type} {R : V → α → Prop} {its : List α} {H1 : Hp} {g : TG} {tt : TT} {te tk tv : TE} {vs : List Nat} {σ : L2.St} {D : Addr} {Qd : Hp → Prop}
theorem take_succ_filter (p : α → Bool) {β : Type} (f : α → β) {i : Nat} {a : α} (e : its[i]? = some a) : ((its.take (i + 1)).filter p).map f = ((its.take i).filter p).map f ++ (if p a = true then [f a] else []) := by
  rw [List.take_add_one, e, List.filter_append, List.map_append]
  congr 1
  show (([a] : List α).filter p).map f = _
  rw [List.filter_cons]
  split <;> rfl
/-- a list comprehension whose tests and elements change nothing -/
theorem lc_pure (hD : H1 D = none) (wk : Wk J its G R) (p : α → Bool) (d : α → PyData) (sz : its.length ≤ 100000) (hG : ∀ H', Same H1 H' → G H') (sd : ∀ a ∈ its, p a = true → still (d a) = true)
    (hs : ∀ x a H' (Kt : VK) (Kf : Hp → Prop), R x a → a ∈ its → Same H1 H' → (p a = true → ∀ y H4, Same H' H4 → Dp K H4 y (d a) → Kt y H4) → (p a = false → ∀ H3, Same H' H3 → Kf H3) →
      g x (wipe σ vs) H' fun σ2 H2 => wipe σ2 vs = wipe σ vs ∧ tt σ2 H2 fun b H3 => if b = true then te σ2 H3 Kt else Kf H3)
    (hd : ∀ ys H', Same H1 H' → H' D = some (.lst ys) → DpAll K H' ys ((its.filter p).map d) → Qd H') :
    ∃ W : Nat → Nat → Hp → Prop, (∃ m, W 0 m (upd H1 D (.lst []))) ∧ ∀ i m H, W i m H →
      (J.stop i H ∧ Qd H) ∨ (J.go i H ∧ ∃ Nx : Hp → Prop, (∀ H', Nx H' → ∃ m', m' < m ∧ W (i + 1) m' H') ∧ ∀ x H', J.yld i H x H' → g x (wipe σ vs) H' fun σ2 H2 => wipe σ2 vs = wipe σ vs ∧ tt σ2 H2 fun b H3 =>
        if b = true then te σ2 H3 fun y H4 => ∃ acc, H4 D = some (.lst acc) ∧ acc.length < sizeLine ∧ Nx (upd H4 D (.lst (acc ++ [y]))) else Nx H3) := by
  refine lc_it wk (fun i H' => Same H1 H' ∧ ∃ acc, H' D = some (.lst acc) ∧ DpAll K H' acc (((its.take i).filter p).map d)) ⟨Same.new hD, [], upd_same, .nil⟩ (fun i H' _ q => hG H' q.1) ?_ ?_
  · rintro i x H' H'' hi ⟨s1, acc, ha, da⟩ ⟨rfl, a, ea, r⟩
    have mem : a ∈ its := List.mem_of_getElem? ea
    have hlen : acc.length ≤ its.length := by
      rw [DpAll.length da, List.length_map]
      exact Nat.le_trans (List.length_filter_le _ _) (by rw [List.length_take]; omega)
    have stl : stillAll (((its.take i).filter p).map d) = true := by
      have h : ∀ l : List α, (∀ a ∈ l, still (d a) = true) → stillAll (l.map d) = true := by
        intro l
        induction l with
        | nil => intro _; rfl
        | cons b r ih =>
          intro h
          show (still (d b) && stillAll (r.map d)) = true
          rw [h b List.mem_cons_self, ih fun a ha => h a (List.mem_cons_of_mem _ ha)]
          rfl
      refine h _ fun b hb => ?_
      obtain ⟨h1, h2⟩ := List.mem_filter.mp hb
      exact sd b (List.mem_of_mem_take h1) h2
    refine hs x a H'' _ _ r mem s1 (fun hp y H4 s4 dy => ?_) (fun hp H3 s3 => ?_)
    · refine ⟨acc, s4 _ _ ha, Nat.lt_of_le_of_lt hlen (Nat.lt_of_le_of_lt sz (by decide)), ?_⟩
      have kp : Keep H4 (upd H4 D (.lst (acc ++ [y]))) := Keep.mut (s4 _ _ ha) rfl
      refine ⟨Same.mut (s1.trans s4) hD, _, upd_same, ?_⟩
      rw [take_succ_filter p d ea, if_pos hp]
      exact DpAll.append (DpAll_keep kp _ stl (DpAll_same s4 _ da)) (.cons (Dp_keep kp _ (sd a mem hp) dy) .nil)
    · refine ⟨s1.trans s3, acc, s3 _ _ ha, ?_⟩
      rw [take_succ_filter p d ea, if_neg (by rw [hp]; decide), List.append_nil]
      exact DpAll_same s3 _ da
  · rintro H' ⟨s1, acc, ha, da⟩
    rw [List.take_length] at da
    exact hd acc H' s1 ha da
/-- .. without a test -/
theorem lc_map (hD : H1 D = none) (wk : Wk J its G R) (d : α → PyData) (sz : its.length ≤ 100000) (hG : ∀ H', Same H1 H' → G H') (sd : ∀ a ∈ its, still (d a) = true)
    (hs : ∀ x a H' (Kt : VK), R x a → a ∈ its → Same H1 H' → (∀ y H4, Same H' H4 → Dp K H4 y (d a) → Kt y H4) → g x (wipe σ vs) H' fun σ2 H2 => wipe σ2 vs = wipe σ vs ∧ te σ2 H2 Kt)
    (hd : ∀ ys H', Same H1 H' → H' D = some (.lst ys) → DpAll K H' ys (its.map d) → Qd H') :
    ∃ W : Nat → Nat → Hp → Prop, (∃ m, W 0 m (upd H1 D (.lst []))) ∧ ∀ i m H, W i m H →
      (J.stop i H ∧ Qd H) ∨ (J.go i H ∧ ∃ Nx : Hp → Prop, (∀ H', Nx H' → ∃ m', m' < m ∧ W (i + 1) m' H') ∧ ∀ x H', J.yld i H x H' → g x (wipe σ vs) H' fun σ2 H2 => wipe σ2 vs = wipe σ vs ∧ tYes σ2 H2 fun b H3 =>
        if b = true then te σ2 H3 fun y H4 => ∃ acc, H4 D = some (.lst acc) ∧ acc.length < sizeLine ∧ Nx (upd H4 D (.lst (acc ++ [y]))) else Nx H3) := by
  refine lc_pure (K := K) (tt := tYes) hD wk (fun _ => true) d sz hG (fun a h _ => sd a h) (fun x a H' Kt Kf r m s1 k1 k2 => ?_) fun ys H' h2 h3 h4 => hd ys H' h2 h3 (by rw [List.filter_eq_self.mpr (fun _ _ => rfl)] at h4; exact h4)
  exact hs x a H' Kt r m s1 (k1 rfl)
/-- a dict comprehension whose keys are texts, all unlike, and whose parts change nothing -/
theorem dc_pure (hD : H1 D = none) (wk : Wk J its G R) (p : α → Bool) (kf : α → Str) (d : α → PyData) (sz : its.length ≤ 100000) (nd : (its.map kf).Nodup) (hG : ∀ H', Same H1 H' → G H') (sd : ∀ a ∈ its, p a = true → still (d a) = true)
    (hs : ∀ x a H' (Kt : V → V → Hp → Prop) (Kf : Hp → Prop), R x a → a ∈ its → Same H1 H' → (p a = true → ∀ z H5, Same H' H5 → Dp K H5 z (d a) → Kt (.str (kf a)) z H5) → (p a = false → ∀ H3, Same H' H3 → Kf H3) →
      g x (wipe σ vs) H' fun σ2 H2 => wipe σ2 vs = wipe σ vs ∧ tt σ2 H2 fun b H3 => if b = true then tk σ2 H3 fun y H4 => tv σ2 H4 fun z H5 => Kt y z H5 else Kf H3)
    (hd : ∀ kvs H', Same H1 H' → H' D = some (.dK kvs) → KVD K H' kvs ((its.filter p).map fun a => (kf a, d a)) → Qd H') :
    ∃ W : Nat → Nat → Hp → Prop, (∃ m, W 0 m (upd H1 D (.dK []))) ∧ ∀ i m H, W i m H →
      (J.stop i H ∧ Qd H) ∨ (J.go i H ∧ ∃ Nx : Hp → Prop, (∀ H', Nx H' → ∃ m', m' < m ∧ W (i + 1) m' H') ∧ ∀ x H', J.yld i H x H' → g x (wipe σ vs) H' fun σ2 H2 => wipe σ2 vs = wipe σ vs ∧ tt σ2 H2 fun b H3 =>
        if b = true then tk σ2 H3 fun y H4 => tv σ2 H4 fun z H5 => ∃ kvs k, y = kV k ∧ H5 D = some (.dK kvs) ∧ kvs.length < sizeLine ∧ Nx (upd H5 D (.dK (putK kvs k z))) else Nx H3) := by
  let Pv : Nat → Hp → Prop := fun i H' => Same H1 H' ∧ ∃ kvs, H' D = some (.dK kvs) ∧ KVD K H' kvs (((its.take i).filter p).map fun a => (kf a, d a))
  have h0 : Pv 0 (upd H1 D (.dK [])) := ⟨Same.new hD, [], upd_same, .nil⟩
  refine ⟨fun i m H => m = its.length - i ∧ i ≤ its.length ∧ Pv i H, ⟨its.length, by simp, Nat.zero_le _, h0⟩, ?_⟩
  rintro i m H ⟨rfl, hi, pv⟩
  have q := hG H pv.1
  by_cases hlt : i < its.length
  case neg =>
    have e : i = its.length := by omega
    subst e
    refine .inl ⟨wk.stops H q, ?_⟩
    obtain ⟨s1, kvs, hk, r⟩ := pv
    rw [List.take_length] at r
    exact hd kvs H s1 hk r
  case pos =>
  refine .inr ⟨wk.goes i H hlt q, Pv (i + 1), fun H' p' => ⟨its.length - (i + 1), by omega, rfl, hlt, p'⟩, fun x H' y => ?_⟩
  obtain ⟨rfl, a, ea, r⟩ := wk.yields i H x H' hlt q y
  obtain ⟨s1, kvs, hk, rk⟩ := pv
  have mem : a ∈ its := List.mem_of_getElem? ea
  have hlen : kvs.length ≤ its.length := by
    rw [KVD.length rk, List.length_map]
    exact Nat.le_trans (List.length_filter_le _ _) (by rw [List.length_take]; omega)
  have stl : stillKV (((its.take i).filter p).map fun a => (kf a, d a)) := by
    intro z hz
    obtain ⟨b, hb, rfl⟩ := List.mem_map.mp hz
    obtain ⟨h1, h2⟩ := List.mem_filter.mp hb
    exact sd b (List.mem_of_mem_take h1) h2
  refine hs x a H' (fun y z H5 => ∃ kvs k, y = kV k ∧ H5 D = some (.dK kvs) ∧ kvs.length < sizeLine ∧ Pv (i + 1) (upd H5 D (.dK (putK kvs k z)))) _ r mem s1 (fun hp z H5 s5 dz => ?_) (fun hp H3 s3 => ?_)
  · refine ⟨kvs, Sum.inr (kf a), rfl, s5 _ _ hk, Nat.lt_of_le_of_lt hlen (Nat.lt_of_le_of_lt sz (by decide)), ?_⟩
    have kp : Keep H5 (upd H5 D (.dK (putK kvs (Sum.inr (kf a)) z))) := Keep.mut (s5 _ _ hk) rfl
    have nw : valV kvs (Sum.inr (kf a)) = none := by
      rcases KVD.get rk (kf a) with ⟨_, e⟩ | ⟨x', v', l, _, _⟩
      · exact e
      · have := lookup_mem l
        obtain ⟨b, hb, e⟩ := List.mem_map.mp this
        have e1 : kf b = kf a := congrArg Prod.fst e
        have hb2 := (List.mem_filter.mp hb).1
        obtain ⟨j, hj, ej⟩ := List.mem_take_iff_getElem.mp hb2
        have n1 : (its.map kf)[j]? = some (kf a) := by
          rw [List.getElem?_map, List.getElem?_eq_getElem (by omega), ej]
          exact congrArg some e1
        have n2 : (its.map kf)[i]? = some (kf a) := by rw [List.getElem?_map, ea]; rfl
        have := nodup_ix nd n1 n2
        omega
    refine ⟨Same.mut (s1.trans s5) hD, _, upd_same, ?_⟩
    rw [putK_new _ nw, take_succ_filter p (fun a => (kf a, d a)) ea, if_pos hp]
    have r1 := KVD_keep kp stl (KVD_same s5 rk)
    have r2 := Dp_keep kp _ (sd a mem hp) dz
    rw [putK_new _ nw] at r1 r2
    exact pair_append r1 (.cons ⟨rfl, r2⟩ .nil)
  · refine ⟨s1.trans s3, kvs, s3 _ _ hk, ?_⟩
    rw [take_succ_filter p (fun a => (kf a, d a)) ea, if_neg (by rw [hp]; decide), List.append_nil]
    exact KVD_same s3 rk
end
end Bk
set_option Elab.async false
set_option linter.all false
set_option maxRecDepth 100000
set_option maxHeartbeats 4000000
namespace Bk
open PySem L2 Gap
/-! ### the plain law of moves -/
def firstNZ (a b c d : Int) : Int := if a ≠ 0 then a else if b ≠ 0 then b else if c ≠ 0 then c else d
def dvOf (a b c d : Int) : Int := if 0 < firstNZ a b c d then (gcd4 a b c d : Int) else -(gcd4 a b c d : Int)
def inForm (a b c d : Int) : Mv := ⟨a.fdiv (dvOf a b c d), b.fdiv (dvOf a b c d), c.fdiv (dvOf a b c d), d.fdiv (dvOf a b c d)⟩
def Mv.det (m : Mv) : Int := m.a * m.d - m.b * m.c
def Mv.ok (m : Mv) : Prop := m.det ≠ 0 ∧ gcd4 m.a m.b m.c m.d = 1 ∧ 0 < firstNZ m.a m.b m.c m.d
def idle : Mv := ⟨1, 0, 0, 1⟩
def afterM (x y : Mv) : Mv := inForm (x.a * y.a + x.b * y.c) (x.a * y.b + x.b * y.d) (x.c * y.a + x.d * y.c) (x.c * y.b + x.d * y.d)
def backM (m : Mv) : Mv := inForm m.d (-m.b) (-m.c) m.a
def bnd (m : Mv) (n : Nat) : Prop := m.a.natAbs ≤ 2 ^ n ∧ m.b.natAbs ≤ 2 ^ n ∧ m.c.natAbs ≤ 2 ^ n ∧ m.d.natAbs ≤ 2 ^ n
theorem idle_ok : idle.ok := ⟨by decide, by decide, by decide⟩
theorem inForm_ok {m : Mv} (h : m.ok) : inForm m.a m.b m.c m.d = m := by
  have e : dvOf m.a m.b m.c m.d = 1 := by
    unfold dvOf
    rw [if_pos h.2.2, h.2.1]
    rfl
  unfold inForm
  rw [e, Int.fdiv_one, Int.fdiv_one, Int.fdiv_one, Int.fdiv_one]
theorem gcd4_mul (g : Nat) (a b c d : Int) : gcd4 (g * a) (g * b) (g * c) (g * d) = g * gcd4 a b c d := by
  unfold gcd4
  simp only [Int.natAbs_mul, Int.natAbs_natCast, Nat.gcd_mul_left]
theorem gcd4_neg (a b c d : Int) : gcd4 (-a) (-b) (-c) (-d) = gcd4 a b c d := by
  unfold gcd4
  simp only [Int.natAbs_neg]
theorem dvd_cast {n : Nat} {x : Int} (h : n ∣ x.natAbs) : (n : Int) ∣ x := Int.natAbs_dvd_natAbs.mp (by rw [Int.natAbs_natCast]; exact h)
theorem cast_dvd {n : Nat} {x : Int} (h : (n : Int) ∣ x) : n ∣ x.natAbs := by
  have := Int.natAbs_dvd_natAbs.mpr h
  rw [Int.natAbs_natCast] at this
  exact this
theorem gcd4_dvd (a b c d : Int) : (gcd4 a b c d : Int) ∣ a ∧ (gcd4 a b c d : Int) ∣ b ∧ (gcd4 a b c d : Int) ∣ c ∧ (gcd4 a b c d : Int) ∣ d := by
  have h1 := Nat.gcd_dvd_left ((a.natAbs.gcd b.natAbs).gcd c.natAbs) d.natAbs
  have h2 := Nat.gcd_dvd_right ((a.natAbs.gcd b.natAbs).gcd c.natAbs) d.natAbs
  have h3 := Nat.gcd_dvd_left (a.natAbs.gcd b.natAbs) c.natAbs
  have h4 := Nat.gcd_dvd_right (a.natAbs.gcd b.natAbs) c.natAbs
  have h5 := Nat.gcd_dvd_left a.natAbs b.natAbs
  have h6 := Nat.gcd_dvd_right a.natAbs b.natAbs
  exact ⟨dvd_cast (Nat.dvd_trans (Nat.dvd_trans h1 h3) h5), dvd_cast (Nat.dvd_trans (Nat.dvd_trans h1 h3) h6), dvd_cast (Nat.dvd_trans h1 h4), dvd_cast h2⟩
theorem gcd4_pos {a b c d : Int} (h : ¬ (a = 0 ∧ b = 0 ∧ c = 0 ∧ d = 0)) : 0 < gcd4 a b c d := by
  rcases Nat.eq_zero_or_pos (gcd4 a b c d) with z | z
  · obtain ⟨h1, h2, h3, h4⟩ := gcd4_dvd a b c d
    rw [z] at h1 h2 h3 h4
    exact absurd ⟨Int.zero_dvd.mp h1, Int.zero_dvd.mp h2, Int.zero_dvd.mp h3, Int.zero_dvd.mp h4⟩ h
  · exact z
theorem first_mul {g a b c d : Int} (hg : 0 < g) : (0 < firstNZ (g * a) (g * b) (g * c) (g * d)) ↔ 0 < firstNZ a b c d := by
  have z : ∀ x : Int, (g * x ≠ 0) ↔ x ≠ 0 := fun x => by
    constructor
    · intro h e; rw [e, Int.mul_zero] at h; exact h rfl
    · exact fun h => Int.mul_ne_zero (by omega) h
  have p : ∀ x : Int, 0 < g * x ↔ 0 < x := fun x => ⟨fun h => by
    rcases Int.lt_trichotomy 0 x with q | q | q
    · exact q
    · rw [← q, Int.mul_zero] at h; omega
    · have := Int.mul_neg_of_pos_of_neg hg q; omega, fun h => Int.mul_pos hg h⟩
  unfold firstNZ
  simp only [z]
  repeat' split
  all_goals exact p _
theorem first_ne {a b c d : Int} (h : ¬ (a = 0 ∧ b = 0 ∧ c = 0 ∧ d = 0)) : firstNZ a b c d ≠ 0 := by
  unfold firstNZ
  repeat' split
  all_goals omega
theorem first_neg {a b c d : Int} : firstNZ (-a) (-b) (-c) (-d) = -firstNZ a b c d := by
  unfold firstNZ
  have z : ∀ x : Int, (-x ≠ 0) ↔ x ≠ 0 := fun x => by omega
  simp only [z]
  repeat' split
  all_goals rfl
/-- a row, its divisor taken out -/
theorem split4 {a b c d : Int} (h : ¬ (a = 0 ∧ b = 0 ∧ c = 0 ∧ d = 0)) : ∃ (g : Nat) (p q r s : Int), 0 < g ∧ a = g * p ∧ b = g * q ∧ c = g * r ∧ d = g * s ∧ gcd4 p q r s = 1 ∧
    ((0 < firstNZ p q r s ∧ inForm a b c d = ⟨p, q, r, s⟩) ∨ (0 < firstNZ (-p) (-q) (-r) (-s) ∧ inForm a b c d = ⟨-p, -q, -r, -s⟩)) := by
  have hg := gcd4_pos h
  obtain ⟨⟨p, e1⟩, ⟨q, e2⟩, ⟨r, e3⟩, ⟨s, e4⟩⟩ := gcd4_dvd a b c d
  have hgi : (0 : Int) < (gcd4 a b c d : Int) := by omega
  generalize hgd : gcd4 a b c d = g at *
  have e5 : gcd4 p q r s = 1 := by
    have := gcd4_mul g p q r s
    rw [← e1, ← e2, ← e3, ← e4, hgd] at this
    exact (Nat.eq_of_mul_eq_mul_left hg (by rw [← this, Nat.mul_one]))
  refine ⟨g, p, q, r, s, hg, e1, e2, e3, e4, e5, ?_⟩
  have f1 : ∀ x : Int, ((g : Int) * x).fdiv (g : Int) = x := fun x => Int.mul_fdiv_cancel_left x (by omega)
  have f2 : ∀ x : Int, ((g : Int) * x).fdiv (-(g : Int)) = -x := fun x => by
    have : (g : Int) * x = (-(g : Int)) * (-x) := by rw [Int.neg_mul_neg]
    rw [this]
    exact Int.mul_fdiv_cancel_left (-x) (by omega)
  have fm := first_mul (g := (g : Int)) (a := p) (b := q) (c := r) (d := s) hgi
  rw [← e1, ← e2, ← e3, ← e4] at fm
  unfold inForm dvOf
  rw [hgd]
  by_cases hp : 0 < firstNZ p q r s
  · refine .inl ⟨hp, ?_⟩
    rw [if_pos (fm.mpr hp)]
    rw [e1, e2, e3, e4, f1, f1, f1, f1]
  · refine .inr ⟨?_, ?_⟩
    · rw [first_neg]
      have hn : ¬ (p = 0 ∧ q = 0 ∧ r = 0 ∧ s = 0) := by
        rintro ⟨rfl, rfl, rfl, rfl⟩
        exact h ⟨by rw [e1, Int.mul_zero], by rw [e2, Int.mul_zero], by rw [e3, Int.mul_zero], by rw [e4, Int.mul_zero]⟩
      have := first_ne hn
      omega
    · rw [if_neg (fun z => hp (fm.mp z))]
      rw [e1, e2, e3, e4, f2, f2, f2, f2]
theorem ne0_of_det {a b c d : Int} (h : a * d - b * c ≠ 0) : ¬ (a = 0 ∧ b = 0 ∧ c = 0 ∧ d = 0) := by
  rintro ⟨rfl, rfl, rfl, rfl⟩
  exact h rfl
theorem ok_inForm {a b c d : Int} (h : a * d - b * c ≠ 0) : (inForm a b c d).ok := by
  obtain ⟨g, p, q, r, s, hg, e1, e2, e3, e4, e5, z⟩ := split4 (ne0_of_det h)
  have hd : p * s - q * r ≠ 0 := by
    intro z
    apply h
    rw [e1, e2, e3, e4]
    have : (g : Int) * p * (g * s) - g * q * (g * r) = g * g * (p * s - q * r) := by grind
    rw [this, z, Int.mul_zero]
  rcases z with ⟨f, e⟩ | ⟨f, e⟩
  · rw [e]
    exact ⟨hd, e5, f⟩
  · rw [e]
    refine ⟨?_, ?_, f⟩
    · show (-p) * (-s) - (-q) * (-r) ≠ 0
      rw [Int.neg_mul_neg, Int.neg_mul_neg]
      exact hd
    · show gcd4 (-p) (-q) (-r) (-s) = 1
      rw [gcd4_neg]
      exact e5
theorem det_after (x y : Mv) : (x.a * y.a + x.b * y.c) * (x.c * y.b + x.d * y.d) - (x.a * y.b + x.b * y.d) * (x.c * y.a + x.d * y.c) = x.det * y.det := by
  unfold Mv.det
  grind
theorem after_ok {x y : Mv} (hx : x.ok) (hy : y.ok) : (afterM x y).ok := by
  refine ok_inForm ?_
  rw [det_after]
  exact Int.mul_ne_zero hx.1 hy.1
theorem back_ok {x : Mv} (hx : x.ok) : (backM x).ok := by
  refine ok_inForm ?_
  have := hx.1
  unfold Mv.det at this
  grind
theorem after_idle {x : Mv} (hx : x.ok) : afterM idle x = x := by
  have e : afterM idle x = inForm x.a x.b x.c x.d := by
    unfold afterM idle
    simp
  rw [e]
  exact inForm_ok hx
theorem gcd4_rot (a b c d : Int) : gcd4 d (-b) (-c) a = gcd4 a b c d := by
  unfold gcd4
  simp only [Int.natAbs_neg]
  rw [Nat.gcd_comm _ a.natAbs, ← Nat.gcd_assoc, ← Nat.gcd_assoc, Nat.gcd_comm a.natAbs d.natAbs, Nat.gcd_comm _ d.natAbs, ← Nat.gcd_assoc, ← Nat.gcd_assoc]
theorem inForm_diag {t : Int} (h : t ≠ 0) : inForm t 0 0 t = idle := by
  have hn : ¬ (t = 0 ∧ (0 : Int) = 0 ∧ (0 : Int) = 0 ∧ t = 0) := fun z => h z.1
  obtain ⟨g, p, q, r, s, hg, e1, e2, e3, e4, e5, z⟩ := split4 hn
  have hq : q = 0 := by
    rcases Int.mul_eq_zero.mp e2.symm with z | z <;> omega
  have hr : r = 0 := by
    rcases Int.mul_eq_zero.mp e3.symm with z | z <;> omega
  have hps : p = s := Int.eq_of_mul_eq_mul_left (a := (g : Int)) (by omega) (e1.symm.trans e4)
  subst hq hr hps
  have hp : p.natAbs = 1 := by
    have : gcd4 p 0 0 p = p.natAbs := by unfold gcd4; simp
    rw [← this]; exact e5
  rcases z with ⟨f, e⟩ | ⟨f, e⟩
  · rw [e]
    have : p = 1 := by
      unfold firstNZ at f
      rw [if_pos (show p ≠ 0 by omega)] at f
      omega
    subst this
    rfl
  · rw [e]
    have : p = -1 := by
      unfold firstNZ at f
      rw [if_pos (show -p ≠ 0 by omega)] at f
      omega
    subst this
    rfl
theorem after_back {x : Mv} (hx : x.ok) : afterM x (backM x) = idle := by
  have hd := hx.1
  unfold Mv.det at hd
  have hn : ¬ (x.d = 0 ∧ -x.b = 0 ∧ -x.c = 0 ∧ x.a = 0) := by
    rintro ⟨h1, h2, h3, h4⟩
    apply hd
    rw [h1, h4, show x.b = 0 by omega]
    simp
  obtain ⟨g, p, q, r, s, hg, e1, e2, e3, e4, e5, z⟩ := split4 hn
  have hg1 : g = 1 := by
    have := gcd4_mul g p q r s
    rw [← e1, ← e2, ← e3, ← e4, gcd4_rot, hx.2.1, e5] at this
    omega
  subst hg1
  have e1' : p = x.d := by rw [e1]; simp
  have e2' : q = -x.b := by rw [e2]; simp
  have e3' : r = -x.c := by rw [e3]; simp
  have e4' : s = x.a := by rw [e4]; simp
  subst e1' e2' e3' e4'
  rcases z with ⟨f, e⟩ | ⟨f, e⟩
  · have e : backM x = ⟨x.d, -x.b, -x.c, x.a⟩ := e
    unfold afterM
    rw [e]
    simp only
    rw [show x.a * x.d + x.b * -x.c = x.a * x.d - x.b * x.c by grind, show x.a * -x.b + x.b * x.a = 0 by grind, show x.c * x.d + x.d * -x.c = 0 by grind, show x.c * -x.b + x.d * x.a = x.a * x.d - x.b * x.c by grind]
    exact inForm_diag hd
  · have e : backM x = ⟨-x.d, - -x.b, - -x.c, -x.a⟩ := e
    unfold afterM
    rw [e]
    simp only
    rw [show x.a * -x.d + x.b * - -x.c = -(x.a * x.d - x.b * x.c) by grind, show x.a * - -x.b + x.b * -x.a = 0 by grind, show x.c * -x.d + x.d * - -x.c = 0 by grind, show x.c * - -x.b + x.d * -x.a = -(x.a * x.d - x.b * x.c) by grind]
    exact inForm_diag (by omega)
/-! ### how great they are -/
theorem inForm_bnd {a b c d : Int} {n : Nat} (h : ¬ (a = 0 ∧ b = 0 ∧ c = 0 ∧ d = 0)) (ha : a.natAbs ≤ 2 ^ n) (hb : b.natAbs ≤ 2 ^ n) (hc : c.natAbs ≤ 2 ^ n) (hd : d.natAbs ≤ 2 ^ n) : bnd (inForm a b c d) n := by
  obtain ⟨g, p, q, r, s, hg, e1, e2, e3, e4, e5, z⟩ := split4 h
  have k : ∀ x y : Int, x = g * y → x.natAbs ≤ 2 ^ n → y.natAbs ≤ 2 ^ n := fun x y e hx => by
    rw [e, Int.natAbs_mul, Int.natAbs_natCast] at hx
    have : 1 * y.natAbs ≤ g * y.natAbs := Nat.mul_le_mul_right _ hg
    omega
  rcases z with ⟨_, e⟩ | ⟨_, e⟩
  · rw [e]
    exact ⟨k _ _ e1 ha, k _ _ e2 hb, k _ _ e3 hc, k _ _ e4 hd⟩
  · rw [e]
    refine ⟨?_, ?_, ?_, ?_⟩
    · show (-p).natAbs ≤ _
      rw [Int.natAbs_neg]; exact k _ _ e1 ha
    · show (-q).natAbs ≤ _
      rw [Int.natAbs_neg]; exact k _ _ e2 hb
    · show (-r).natAbs ≤ _
      rw [Int.natAbs_neg]; exact k _ _ e3 hc
    · show (-s).natAbs ≤ _
      rw [Int.natAbs_neg]; exact k _ _ e4 hd
theorem prod_bnd {i j k l : Int} {m n : Nat} (hi : i.natAbs ≤ 2 ^ m) (hj : j.natAbs ≤ 2 ^ n) (hk : k.natAbs ≤ 2 ^ m) (hl : l.natAbs ≤ 2 ^ n) : (i * j + k * l).natAbs ≤ 2 ^ (m + n + 1) := by
  have h1 : (i * j).natAbs ≤ 2 ^ (m + n) := by
    rw [Int.natAbs_mul, Nat.pow_add]
    exact Nat.mul_le_mul hi hj
  have h2 : (k * l).natAbs ≤ 2 ^ (m + n) := by
    rw [Int.natAbs_mul, Nat.pow_add]
    exact Nat.mul_le_mul hk hl
  have h3 := Int.natAbs_add_le (i * j) (k * l)
  rw [Nat.pow_succ]
  omega
theorem after_ne0 {x y : Mv} (hx : x.ok) (hy : y.ok) : ¬ (x.a * y.a + x.b * y.c = 0 ∧ x.a * y.b + x.b * y.d = 0 ∧ x.c * y.a + x.d * y.c = 0 ∧ x.c * y.b + x.d * y.d = 0) := by
  refine ne0_of_det ?_
  rw [det_after]
  exact Int.mul_ne_zero hx.1 hy.1
theorem back_ne0 {x : Mv} (hx : x.ok) : ¬ (x.d = 0 ∧ -x.b = 0 ∧ -x.c = 0 ∧ x.a = 0) := by
  refine ne0_of_det ?_
  have := hx.1
  unfold Mv.det at this
  grind
theorem after_bnd {x y : Mv} {m n : Nat} (hx : x.ok) (hy : y.ok) (bx : bnd x m) (byy : bnd y n) : bnd (afterM x y) (m + n + 1) := by
  obtain ⟨x1, x2, x3, x4⟩ := bx
  obtain ⟨y1, y2, y3, y4⟩ := byy
  exact inForm_bnd (after_ne0 hx hy) (prod_bnd x1 y1 x2 y3) (prod_bnd x1 y2 x2 y4) (prod_bnd x3 y1 x4 y3) (prod_bnd x3 y2 x4 y4)
theorem back_bnd {x : Mv} {n : Nat} (hx : x.ok) (bx : bnd x n) : bnd (backM x) n := by
  obtain ⟨x1, x2, x3, x4⟩ := bx
  exact inForm_bnd (back_ne0 hx) x4 (by rw [Int.natAbs_neg]; exact x2) (by rw [Int.natAbs_neg]; exact x3) x1
theorem bnd_mono {m : Mv} {i j : Nat} (h : bnd m i) (l : i ≤ j) : bnd m j := by
  have p : 2 ^ i ≤ 2 ^ j := Nat.pow_le_pow_right (by decide) l
  obtain ⟨h1, h2, h3, h4⟩ := h
  exact ⟨Nat.le_trans h1 p, Nat.le_trans h2 p, Nat.le_trans h3 p, Nat.le_trans h4 p⟩
theorem gcd4_le {a b c d : Int} {n : Nat} (h : ¬ (a = 0 ∧ b = 0 ∧ c = 0 ∧ d = 0)) (ha : a.natAbs ≤ 2 ^ n) (hb : b.natAbs ≤ 2 ^ n) (hc : c.natAbs ≤ 2 ^ n) (hd : d.natAbs ≤ 2 ^ n) : gcd4 a b c d ≤ 2 ^ n := by
  obtain ⟨h1, h2, h3, h4⟩ := gcd4_dvd a b c d
  have k : ∀ x : Int, x ≠ 0 → x.natAbs ≤ 2 ^ n → (gcd4 a b c d : Int) ∣ x → gcd4 a b c d ≤ 2 ^ n := fun x hx hn hd => Nat.le_trans (Nat.le_of_dvd (Int.natAbs_pos.mpr hx) (cast_dvd hd)) hn
  by_cases z1 : a = 0
  · by_cases z2 : b = 0
    · by_cases z3 : c = 0
      · exact k d (fun z4 => h ⟨z1, z2, z3, z4⟩) hd h4
      · exact k c z3 hc h3
    · exact k b z2 hb h2
  · exact k a z1 ha h1
end Bk
set_option Elab.async false
set_option linter.all false
set_option maxRecDepth 100000
set_option maxHeartbeats 4000000
namespace Bk
open PySem L2 Gap
/-! ### the plain law of states -/
def lettersOf : Told → List (Str × Int)
  | .mv _ => []
  | .wd ls => ls
def usesOf (t : Told) : List Str := (lettersOf t).map (·.1)
def stepV (v : Str → Mv) (h : Mv) (l : Str × Int) : Mv := afterM h (if l.2 = 1 then v l.1 else backM (v l.1))
def tval (t : Told) (v : Str → Mv) : Mv := match t with
  | .mv m => m
  | .wd ls => ls.foldl (stepV v) idle
def tlen (t : Told) (L : Str → Nat) : Nat := match t with
  | .mv _ => 1
  | .wd ls => (ls.map fun l => L l.1).sum
abbrev keysOf (st : Stt) : List Str := st.map (·.1)
/-- o's word has n in it -/
def Uses (st : Stt) (n o : Str) : Prop := ∃ t, st.lookup o = some t ∧ n ∈ usesOf t
/-- o hangs on n -/
inductive Hangs (st : Stt) (n : Str) : Str → Prop where
  | base {o : Str} : Uses st n o → Hangs st n o
  | step {m o : Str} : Hangs st n m → Uses st m o → Hangs st n o
/-- a state as the walk asks it: v the values, w how great they are, L the lengths, r a rank -/
structure Good (st : Stt) (v : Str → Mv) (w L r : Str → Nat) : Prop where
  nd : (keysOf st).Nodup
  n12 : st.length ≤ 12
  sk : ∀ n ∈ keysOf st, PyData.strOk n = true
  cl : ∀ n t, st.lookup n = some t → ∀ l ∈ lettersOf t, l.1 ∈ keysOf st ∧ (l.2 = 1 ∨ l.2 = -1) ∧ r l.1 < r n
  ll : ∀ n t, st.lookup n = some t → (lettersOf t).length ≤ 12
  sol : ∀ n t, st.lookup n = some t → v n = tval t v
  ok : ∀ n ∈ keysOf st, (v n).ok
  bd : ∀ n ∈ keysOf st, bnd (v n) (w n)
  wt : ∀ n t, st.lookup n = some t → ((lettersOf t).map fun l => w l.1 + 1).sum ≤ w n
  wm : ∀ n, w n ≤ 7000
  len : ∀ n t, st.lookup n = some t → L n = tlen t L
  lm : ∀ n ∈ keysOf st, L n ≤ 500
/-! ### looking up -/
theorem key_of {st : Stt} {n : Str} {t : Told} (h : st.lookup n = some t) : n ∈ keysOf st := List.mem_map.mpr ⟨(n, t), lookup_mem h, rfl⟩
theorem of_key {st : Stt} {n : Str} (h : n ∈ keysOf st) : ∃ t, st.lookup n = some t := lookup_key h
theorem no_key {st : Stt} {n : Str} (h : n ∉ keysOf st) : st.lookup n = none := lookup_none h
theorem Uses.key {st : Stt} {n o : Str} (h : Uses st n o) : o ∈ keysOf st := let ⟨_, e, _⟩ := h; key_of e
theorem Hangs.key {st : Stt} {n o : Str} (h : Hangs st n o) : o ∈ keysOf st := by
  cases h with
  | base u => exact u.key
  | step _ u => exact u.key
/-- ranks rise -/
theorem Good.rank {st : Stt} {v : Str → Mv} {w L r : Str → Nat} (g : Good st v w L r) {n o : Str} (h : Uses st n o) : n ∈ keysOf st ∧ r n < r o := by
  obtain ⟨t, e, m⟩ := h
  obtain ⟨l, hl, rfl⟩ := List.mem_map.mp m
  obtain ⟨h1, _, h3⟩ := g.cl o t e l hl
  exact ⟨h1, h3⟩
theorem Good.hrank {st : Stt} {v : Str → Mv} {w L r : Str → Nat} (g : Good st v w L r) {n o : Str} (h : Hangs st n o) : r n < r o := by
  induction h with
  | base u => exact (g.rank u).2
  | step _ u ih => exact Nat.lt_trans ih (g.rank u).2
theorem Good.noloop {st : Stt} {v : Str → Mv} {w L r : Str → Nat} (g : Good st v w L r) {n : Str} : ¬ Hangs st n n := fun h => Nat.lt_irrefl _ (g.hrank h)
/-! ### the fold of a word -/
theorem fold_ok {v : Str → Mv} {w : Str → Nat} {K : List Str} (hok : ∀ n ∈ K, (v n).ok) (hb : ∀ n ∈ K, bnd (v n) (w n)) : ∀ (ls : List (Str × Int)) (h : Mv) (k : Nat), (∀ l ∈ ls, l.1 ∈ K) → h.ok → bnd h k →
    (ls.foldl (stepV v) h).ok ∧ bnd (ls.foldl (stepV v) h) (k + (ls.map fun l => w l.1 + 1).sum)
  | [], h, k, _, ho, bo => ⟨ho, by simpa using bo⟩
  | l :: ls, h, k, hk, ho, bo => by
    have kl := hk l List.mem_cons_self
    have o2 : (if l.2 = 1 then v l.1 else backM (v l.1)).ok := by
      split
      · exact hok _ kl
      · exact back_ok (hok _ kl)
    have b2 : bnd (if l.2 = 1 then v l.1 else backM (v l.1)) (w l.1) := by
      split
      · exact hb _ kl
      · exact back_bnd (hok _ kl) (hb _ kl)
    obtain ⟨h1, h2⟩ := fold_ok hok hb ls (stepV v h l) (k + w l.1 + 1) (fun x hx => hk x (List.mem_cons_of_mem _ hx)) (after_ok ho o2) (after_bnd ho o2 bo b2)
    refine ⟨h1, ?_⟩
    rw [List.map_cons, List.sum_cons]
    have e : k + (w l.1 + 1 + (ls.map fun l => w l.1 + 1).sum) = k + w l.1 + 1 + (ls.map fun l => w l.1 + 1).sum := by omega
    rw [e]
    exact h2
theorem idle_bnd : bnd idle 0 := ⟨by decide, by decide, by decide, by decide⟩
theorem sum_take_le (f : Str × Int → Nat) (ls : List (Str × Int)) (i : Nat) : ((ls.take i).map f).sum ≤ (ls.map f).sum := by
  conv => rhs; rw [← List.take_append_drop i ls, List.map_append, List.sum_append]
  omega
/-! ### equality of data -/
theorem canLay_strs : ∀ ns : List Str, (∀ n ∈ ns, PyData.strOk n = true) → PyData.canLayAll0 (ns.map PyData.str) = true
  | [], _ => rfl
  | n :: ns, h => by
    show (PyData.strOk n && PyData.canLayAll0 (ns.map PyData.str)) = true
    rw [h n List.mem_cons_self, canLay_strs ns fun x hx => h x (List.mem_cons_of_mem _ hx)]
    rfl
theorem depth_strs : ∀ ns : List Str, PyData.depthAll (ns.map PyData.str) = 0
  | [] => rfl
  | n :: ns => by
    show max 0 (PyData.depthAll (ns.map PyData.str)) = 0
    rw [depth_strs ns]
    rfl
theorem shaped_strs {ns : List Str} (h : ∀ n ∈ ns, PyData.strOk n = true) : SeqAt.shaped (.list (ns.map PyData.str)) = true := by
  show (PyData.canLayAll0 (ns.map PyData.str) && decide (PyData.depthAll (ns.map PyData.str) + 1 ≤ 64)) = true
  rw [canLay_strs ns h, depth_strs ns]
  rfl
theorem canLay_lets : ∀ ls : List (Str × Int), (∀ l ∈ ls, PyData.strOk l.1 = true) → PyData.canLayAll0 (ls.map letD) = true
  | [], _ => rfl
  | l :: ls, h => by
    show ((PyData.strOk l.1 && (true && true)) && PyData.canLayAll0 (ls.map letD)) = true
    rw [h l List.mem_cons_self, canLay_lets ls fun x hx => h x (List.mem_cons_of_mem _ hx)]
    rfl
theorem depth_lets : ∀ ls : List (Str × Int), PyData.depthAll (ls.map letD) ≤ 1
  | [] => Nat.zero_le _
  | l :: ls => by
    show max 1 (PyData.depthAll (ls.map letD)) ≤ 1
    have := depth_lets ls
    omega
theorem ok_word : PyData.strOk "word" = true := by decide +kernel
theorem ok_move : PyData.strOk "move" = true := by decide +kernel
theorem shaped_told {t : Told} (h : ∀ n ∈ usesOf t, PyData.strOk n = true) : SeqAt.shaped (toldD t) = true := by
  cases t with
  | mv m =>
    show ((PyData.strOk "move" && (true && true)) && true) = true
    rw [ok_move]
    rfl
  | wd ls =>
    have h1 : PyData.canLayAll0 (ls.map letD) = true := canLay_lets ls fun l hl => h l.1 (List.mem_map.mpr ⟨l, hl, rfl⟩)
    have h2 := depth_lets ls
    show ((PyData.strOk "word" && (PyData.canLayAll0 (ls.map letD) && true)) && decide (max 0 (max (PyData.depthAll (ls.map letD) + 1) 0) + 1 ≤ 64)) = true
    rw [h1]
    have : decide (max 0 (max (PyData.depthAll (ls.map letD) + 1) 0) + 1 ≤ 64) = true := decide_eq_true (by omega)
    rw [this, ok_word]
    rfl
theorem eqv_nil (ds : List PyData) : PyData.eqv (.list ds) (.list []) = ds.isEmpty := by
  cases ds <;> rfl
/-! ### solving a state -/
theorem tval_congr {t : Told} {f g : Str → Mv} (h : ∀ x ∈ usesOf t, f x = g x) : tval t f = tval t g := by
  cases t with
  | mv m => rfl
  | wd ls =>
    have : ∀ (ls : List (Str × Int)) (a : Mv), (∀ l ∈ ls, f l.1 = g l.1) → ls.foldl (stepV f) a = ls.foldl (stepV g) a := by
      intro ls
      induction ls with
      | nil => intros; rfl
      | cons l ls ih =>
        intro a h
        show ls.foldl (stepV f) (stepV f a l) = ls.foldl (stepV g) (stepV g a l)
        have e : stepV f a l = stepV g a l := by
          unfold stepV
          rw [h l List.mem_cons_self]
        rw [e]
        exact ih _ fun x hx => h x (List.mem_cons_of_mem _ hx)
    exact this ls idle fun l hl => h l.1 (List.mem_map.mpr ⟨l, hl, rfl⟩)
theorem tlen_congr {t : Told} {f g : Str → Nat} (h : ∀ x ∈ usesOf t, f x = g x) : tlen t f = tlen t g := by
  cases t with
  | mv m => rfl
  | wd ls =>
    show (ls.map fun l => f l.1).sum = (ls.map fun l => g l.1).sum
    congr 1
    exact List.map_congr_left fun l hl => h l.1 (List.mem_map.mpr ⟨l, hl, rfl⟩)
def solve {β : Type} (F : Told → (Str → β) → β) (b : β) (st : Stt) : Nat → Str → β
  | 0, _ => b
  | k + 1, n => match st.lookup n with
    | some t => F t (solve F b st k)
    | none => b
theorem solve_stable {β : Type} {F : Told → (Str → β) → β} {b : β} {st : Stt} {r : Str → Nat} (cg : ∀ t (f g : Str → β), (∀ x ∈ usesOf t, f x = g x) → F t f = F t g) (hr : ∀ n t, st.lookup n = some t → ∀ x ∈ usesOf t, r x < r n) :
    ∀ k k' n, r n < k → r n < k' → solve F b st k n = solve F b st k' n
  | 0, _, _, h, _ => absurd h (Nat.not_lt_zero _)
  | _, 0, _, _, h => absurd h (Nat.not_lt_zero _)
  | k + 1, k' + 1, n, h, h' => by
    show (match st.lookup n with | some t => F t (solve F b st k) | none => b) = (match st.lookup n with | some t => F t (solve F b st k') | none => b)
    cases e : st.lookup n with
    | none => rfl
    | some t =>
      refine cg t _ _ fun x hx => solve_stable cg hr k k' x ?_ ?_
      · have := hr n t e x hx; omega
      · have := hr n t e x hx; omega
theorem solve_eq {β : Type} {F : Told → (Str → β) → β} {b : β} {st : Stt} {r : Str → Nat} (cg : ∀ t (f g : Str → β), (∀ x ∈ usesOf t, f x = g x) → F t f = F t g) (hr : ∀ n t, st.lookup n = some t → ∀ x ∈ usesOf t, r x < r n)
    {k : Nat} {n : Str} {t : Told} (hk : r n < k) (e : st.lookup n = some t) : solve F b st k n = F t (solve F b st k) := by
  have h1 : solve F b st (k + 1) n = F t (solve F b st k) := by
    show (match st.lookup n with | some t => F t (solve F b st k) | none => b) = _
    rw [e]
  rw [← h1]
  exact solve_stable cg hr k (k + 1) n hk (by omega)
/-- a state as it is drawn: words of at most three letters, ranks, moves of at most B bits -/
structure Wf (st : Stt) (r : Str → Nat) (B : Nat) : Prop where
  nd : (keysOf st).Nodup
  n12 : st.length ≤ 12
  sk : ∀ n ∈ keysOf st, PyData.strOk n = true
  cl : ∀ n t, st.lookup n = some t → ∀ l ∈ lettersOf t, l.1 ∈ keysOf st ∧ (l.2 = 1 ∨ l.2 = -1) ∧ r l.1 < r n
  ll : ∀ n t, st.lookup n = some t → (lettersOf t).length ≤ 3
  mv : ∀ n m, st.lookup n = some (.mv m) → m.ok ∧ bnd m B
  rk : ∀ n, r n ≤ 5
def valS (st : Stt) : Str → Mv := solve tval idle st 6
def lenS (st : Stt) : Str → Nat := solve tlen 0 st 6
def wS (B : Nat) (r : Str → Nat) (n : Str) : Nat := (B + 2) * 3 ^ r n - 2
theorem sum_le {α : Type} (f : α → Nat) (c : Nat) : ∀ l : List α, (∀ a ∈ l, f a ≤ c) → (l.map f).sum ≤ l.length * c
  | [], _ => by simp
  | a :: l, h => by
    rw [List.map_cons, List.sum_cons, List.length_cons]
    have h1 := h a List.mem_cons_self
    have h2 := sum_le f c l fun x hx => h x (List.mem_cons_of_mem _ hx)
    have : (l.length + 1) * c = l.length * c + c := by rw [Nat.add_mul, Nat.one_mul]
    omega
section
variable {st : Stt} {r : Str → Nat} {B : Nat}
theorem Wf.hr (h : Wf st r B) : ∀ n t, st.lookup n = some t → ∀ x ∈ usesOf t, r x < r n := fun n t e x hx => by
  obtain ⟨l, hl, rfl⟩ := List.mem_map.mp hx
  exact (h.cl n t e l hl).2.2
theorem Wf.val (h : Wf st r B) {n : Str} {t : Told} (e : st.lookup n = some t) : valS st n = tval t (valS st) := solve_eq (fun _ _ _ => tval_congr) h.hr (by have := h.rk n; omega) e
theorem Wf.len (h : Wf st r B) {n : Str} {t : Told} (e : st.lookup n = some t) : lenS st n = tlen t (lenS st) := solve_eq (fun _ _ _ => tlen_congr) h.hr (by have := h.rk n; omega) e
theorem pow_ge (r : Nat) : 1 ≤ 3 ^ r := Nat.pow_pos (by decide)
theorem pow_step {a b : Nat} (h : a < b) : 3 * 3 ^ a ≤ 3 ^ b := by
  have : 3 ^ (a + 1) ≤ 3 ^ b := Nat.pow_le_pow_right (by decide) h
  rw [Nat.pow_succ] at this
  omega
theorem pow_5 {a : Nat} (h : a ≤ 5) : 3 ^ a ≤ 243 := (Nat.pow_le_pow_right (show 0 < 3 by decide) h : 3 ^ a ≤ 3 ^ 5)
/-- lengths are at most 3 ^ rank -/
theorem Wf.lenle (h : Wf st r B) : ∀ k n, r n < k → n ∈ keysOf st → lenS st n ≤ 3 ^ r n
  | 0, _, hk, _ => absurd hk (Nat.not_lt_zero _)
  | k + 1, n, hk, hn => by
    obtain ⟨t, e⟩ := of_key hn
    rw [h.len e]
    cases t with
    | mv m => exact pow_ge _
    | wd ls =>
      show (ls.map fun l => lenS st l.1).sum ≤ 3 ^ r n
      have h3 := h.ll n _ e
      cases ls with
      | nil => exact Nat.zero_le _
      | cons a as =>
        have hb : ∀ l ∈ a :: as, 3 * lenS st l.1 ≤ 3 ^ r n := fun l hl => by
          obtain ⟨c1, _, c3⟩ := h.cl n _ e l hl
          have i := Wf.lenle h k l.1 (by omega) c1
          have := pow_step c3
          omega
        have s := sum_le (fun l : Str × Int => 3 * lenS st l.1) (3 ^ r n) (a :: as) hb
        have s2 : ∀ l : List (Str × Int), (l.map fun l => 3 * lenS st l.1).sum = 3 * (l.map fun l => lenS st l.1).sum := by
          intro l
          induction l with
          | nil => rfl
          | cons x xs ih => simp only [List.map_cons, List.sum_cons, ih]; omega
        rw [s2] at s
        have h3' : (a :: as).length ≤ 3 := h3
        have : (a :: as).length * 3 ^ r n ≤ 3 * 3 ^ r n := Nat.mul_le_mul_right _ h3'
        omega
theorem wS_step {ls : List (Str × Int)} {n : Nat} (h3 : ls.length ≤ 3) (h : ∀ l ∈ ls, r l.1 < n) : (ls.map fun l => wS B r l.1 + 1).sum ≤ (B + 2) * 3 ^ n - 2 := by
  cases ls with
  | nil => exact Nat.zero_le _
  | cons a as =>
    have hb : ∀ l ∈ a :: as, 3 * (wS B r l.1 + 1) ≤ (B + 2) * 3 ^ n - 3 := fun l hl => by
      have p := pow_step (h l hl)
      have q := pow_ge (r l.1)
      unfold wS
      have : (B + 2) * (3 * 3 ^ r l.1) ≤ (B + 2) * 3 ^ n := Nat.mul_le_mul_left _ p
      have e : (B + 2) * (3 * 3 ^ r l.1) = 3 * ((B + 2) * 3 ^ r l.1) := by
        rw [← Nat.mul_assoc, Nat.mul_comm (B + 2) 3, Nat.mul_assoc]
      have : 2 * 1 ≤ (B + 2) * 3 ^ r l.1 := Nat.mul_le_mul (by omega) q
      omega
    have s := sum_le (fun l : Str × Int => 3 * (wS B r l.1 + 1)) ((B + 2) * 3 ^ n - 3) (a :: as) hb
    have s2 : ∀ l : List (Str × Int), (l.map fun l => 3 * (wS B r l.1 + 1)).sum = 3 * (l.map fun l => wS B r l.1 + 1).sum := by
      intro l
      induction l with
      | nil => rfl
      | cons x xs ih => simp only [List.map_cons, List.sum_cons, ih]; omega
    rw [s2] at s
    have : (a :: as).length * ((B + 2) * 3 ^ n - 3) ≤ 3 * ((B + 2) * 3 ^ n - 3) := Nat.mul_le_mul_right _ h3
    omega
/-- values are good, and at most so great -/
theorem Wf.valok (h : Wf st r B) : ∀ k n, r n < k → n ∈ keysOf st → (valS st n).ok ∧ bnd (valS st n) (wS B r n)
  | 0, _, hk, _ => absurd hk (Nat.not_lt_zero _)
  | k + 1, n, hk, hn => by
    obtain ⟨t, e⟩ := of_key hn
    rw [h.val e]
    cases t with
    | mv m =>
      obtain ⟨h1, h2⟩ := h.mv n m e
      refine ⟨h1, bnd_mono h2 ?_⟩
      unfold wS
      have : (B + 2) * 1 ≤ (B + 2) * 3 ^ r n := Nat.mul_le_mul_left _ (pow_ge _)
      omega
    | wd ls =>
      have c := h.cl n _ e
      have f := fold_ok (v := valS st) (w := wS B r) (K := ls.map (·.1)) (fun x hx => by
        obtain ⟨l, hl, rfl⟩ := List.mem_map.mp hx
        obtain ⟨c1, _, c3⟩ := c l hl
        exact (Wf.valok h k l.1 (by omega) c1).1) (fun x hx => by
        obtain ⟨l, hl, rfl⟩ := List.mem_map.mp hx
        obtain ⟨c1, _, c3⟩ := c l hl
        exact (Wf.valok h k l.1 (by omega) c1).2) ls idle 0 (fun l hl => List.mem_map.mpr ⟨l, hl, rfl⟩) idle_ok idle_bnd
      refine ⟨f.1, bnd_mono f.2 ?_⟩
      have := wS_step (B := B) (r := r) (ls := ls) (n := r n) (h.ll n _ e) fun l hl => (c l hl).2.2
      unfold wS at this ⊢
      omega
theorem Wf.good (h : Wf st r B) (hB : B ≤ 20) : Good st (valS st) (wS B r) (lenS st) r where
  nd := h.nd
  n12 := h.n12
  sk := h.sk
  cl := h.cl
  ll := fun n t e => Nat.le_trans (h.ll n t e) (by decide)
  sol := fun n t e => h.val e
  ok := fun n hn => (h.valok _ n (Nat.lt_succ_self _) hn).1
  bd := fun n hn => (h.valok _ n (Nat.lt_succ_self _) hn).2
  wt := fun n t e => wS_step (h.ll n t e) fun l hl => (h.cl n t e l hl).2.2
  wm := fun n => by
    have h1 := pow_5 (h.rk n)
    have h2 : (B + 2) * 3 ^ r n ≤ 22 * 243 := Nat.mul_le_mul (by omega) h1
    unfold wS
    omega
  len := fun n t e => h.len e
  lm := fun n hn => by
    have h1 := h.lenle _ n (Nat.lt_succ_self _) hn
    have h2 := pow_5 (h.rk n)
    omega
end
/-- two solutions of a state are one, where a set of names keeps to itself -/
theorem sol_uniq {st st' : Stt} {v v' : Str → Mv} {r : Str → Nat} (S : Str → Prop) (h : ∀ n, S n → ∃ t, st.lookup n = some t ∧ st'.lookup n = some t ∧ ∀ x ∈ usesOf t, S x ∧ r x < r n) (s : ∀ n t, st.lookup n = some t → v n = tval t v)
    (s' : ∀ n t, st'.lookup n = some t → v' n = tval t v') : ∀ k n, r n < k → S n → v n = v' n
  | 0, _, hk, _ => absurd hk (Nat.not_lt_zero _)
  | k + 1, n, hk, hn => by
    obtain ⟨t, e, e', hx⟩ := h n hn
    rw [s n t e, s' n t e']
    refine tval_congr fun x hm => ?_
    obtain ⟨h1, h2⟩ := hx x hm
    exact sol_uniq S h s s' k x (by omega) h1
end Bk
set_option Elab.async false
set_option linter.all false
set_option maxRecDepth 100000
set_option maxHeartbeats 4000000
namespace Bk
open PySem PySem.Spec PyProof.Rows L2 Gap
theorem ty_tup {K : PySem.W.Frag} {H : Hp} {a : Addr} {xs : List V} (h : SqT K H a xs) : TyX K H (.ref a) (.type "tuple") := by
  rcases h with (h | ⟨o, h⟩) | ⟨o, _, _, h, c, _⟩
  · exact .base (.tup h)
  · exact .fTuple h
  · exact .kTuple h c
theorem len_tup {K : PySem.W.Frag} {H : Hp} {a : Addr} {xs : List V} {n : Nat} (h : SqT K H a xs) (e : n = xs.length) : LenV K (.ref a) H n := .inr ⟨xs, h, e⟩
theorem two_lt (k : Nat) : 2 ^ k < 2 ^ (k + 1) := by
  rw [Nat.pow_succ]
  have := Nat.pow_pos (n := k) (show 0 < 2 by decide)
  omega
theorem divz {n : Nat} (h : n ≤ 8000) {i j : Int} (h0 : j ≠ 0) (hb : j.natAbs ≤ 2 ^ n) : CDivZ i j :=
  ⟨h0, Nat.lt_of_lt_of_le (PySem.Flt.log2_lt_of (show 0 < n + 1 by omega) (Nat.lt_of_le_of_lt hb (two_lt n))) (by omega)⟩
theorem mulw {i j : Int} {m n : Nat} (hi : i.natAbs ≤ 2 ^ m) (hj : j.natAbs ≤ 2 ^ n) (h : m + n ≤ 900000) : CMulW i j := by
  exact wide_mul (Nat.lt_of_le_of_lt hi (two_lt m)) (Nat.lt_of_le_of_lt hj (two_lt n)) (by omega) (by omega) (by omega)
section
variable {P : Program} {w : World} {K : PySem.W.Frag} {mg : Str → Option Value} {base : Heap}
abbrev s_is_number : Stmt := (topS 14)
abbrev N_is_number : List Str := ["value"]
abbrev P_is_number : List Str := ["value"]
theorem sc_is_number : FnScope N_is_number P_is_number (defScope s_is_number) := ⟨rfl, rfl, rfl, by decide +kernel, rfl, by decide +kernel, by decide +kernel⟩
def spIsNumber : Sp := fun vs H Q _ => ∃ n, vs = [.int n] ∧ Q (.bl true) H
theorem ok_is_number (F : At K mg "is_number" s_is_number P_is_number) (C : Gs K mg) : Df P w K mg base 1 "is_number" P_is_number spIsNumber := by
  refine F.ok sc_is_number (fun vs H Q E h => ?_) (fun f cdv A outer s H vs Q E hr h => ?_)
  · obtain ⟨n, rfl, _⟩ := h
    rfl
  · obtain ⟨n, rfl, k⟩ := h
    refine ⟨_, (pss_one (ps_ret (pe_and (pe_callB (k_isi (K := K) rfl) (by rfl) C.isinstance (by decide +kernel) (pa_cons (pv 0) (pa_cons (pe_bltn (v := .ty "int") (by rfl) C.b_int (by decide +kernel) rfl) pa_nil))) (pe_one (pe_not (pe_callB (k_isi (K := K) rfl) (by rfl) C.isinstance (by decide +kernel) (pa_cons (pv 0) (pa_cons (pe_bltn (v := .ty "bool") (by rfl) C.b_bool (by decide +kernel) rfl) pa_nil)))))))), ?_⟩
    refine ⟨_, rfl, .int n, .ty "int", .type "int", .type "int", true, rfl, .ty _, .base (.int _), kit_ty (by decide +kernel), true, rfl, ?_⟩
    refine iteT ?_
    refine ⟨_, rfl, .int n, .ty "bool", .type "int", .type "bool", false, rfl, .ty _, .base (.int _), kit_ty (by decide +kernel), false, rfl, ?_⟩
    exact k
abbrev s_is_row_of_numbers : Stmt := (topS 15)
abbrev N_is_row_of_numbers : List Str := ["value", "many", "one"]
abbrev P_is_row_of_numbers : List Str := ["value", "many"]
theorem sc_is_row_of_numbers : FnScope N_is_row_of_numbers P_is_row_of_numbers (defScope s_is_row_of_numbers) := ⟨rfl, rfl, rfl, by decide +kernel, rfl, by decide +kernel, by decide +kernel⟩
def spRow (K : PySem.W.Frag) : Sp := fun vs H Q _ => ∃ (a : Addr) (ns : List Int), vs = [.ref a, .int (ns.length : Int)] ∧ SqT K H a (ns.map V.int) ∧ ns.length ≤ 1000 ∧ ∀ H', Same H H' → Q (.bl true) H'
theorem ok_is_row_of_numbers (F : At K mg "is_row_of_numbers" s_is_row_of_numbers P_is_row_of_numbers) (C : Gs K mg) (D_is_number : Df P w K mg base 1 "is_number" P_is_number spIsNumber) :
    Df P w K mg base 2 "is_row_of_numbers" P_is_row_of_numbers (spRow K) := by
  refine F.ok sc_is_row_of_numbers (fun vs H Q E h => ?_) (fun f cdv A outer s H vs Q E hr h => ?_)
  · obtain ⟨a, ns, rfl, _⟩ := h
    rfl
  · obtain ⟨a, ns, rfl, ht, hl, k⟩ := h
    refine ⟨_, (pss_one (ps_ret (pe_and (pe_callB (k_isi (K := K) rfl) (by rfl) C.isinstance (by decide +kernel) (pa_cons (pv 0) (pa_cons (pe_bltn (v := .ty "tuple") (by rfl) C.b_tuple (by decide +kernel) rfl) pa_nil))) (pe_and (pe_cmpR op_eq (pe_callB (k_len (K := K) rfl) (by rfl) C.len (by decide +kernel) (pa_cons (pv 0) pa_nil)) (pv 1) (nomark _)) (pe_one (pe_callB (k_all (K := K) rfl rfl) (by rfl) C.b_all (by decide +kernel) (pa_cons (pe_lc (own := [("one", 2)]) (g := gName 2) (tt := tYes) rfl sc_is_row_of_numbers.nd (k_pi_tup (K := K) rfl (pv 0)) (blkOk_by (own := [("one", 2)]) (N := N_is_row_of_numbers) (sc := (defScope s_is_row_of_numbers)) (by decide +kernel)) (fun _ _ _ _ _ => (pg_name (i := 2) sc_is_row_of_numbers.nd rfl (Or.inl rfl))) (fun _ _ _ _ _ => pts_nil) (fun _ _ _ _ _ => (pe_df D_is_number (hr.mono (by decide)) (pa_cons (pv 2) pa_nil)))) pa_nil))))))), ?_⟩
    refine ⟨_, rfl, .ref a, .ty "tuple", .type "tuple", .type "tuple", true, rfl, .ty _, ty_tup ht, kit_ty (by decide +kernel), true, rfl, ?_⟩
    refine iteT ?_
    refine ⟨_, rfl, .ref a, ns.length, rfl, len_tup ht (by simp), _, rfl, rfl, true, by simp, ?_⟩
    refine iteT ?_
    refine ⟨_, rfl, a, rfl, ⟨_, ht⟩, fun D hD => lc_map (K := K) hD (wk_tup (paired_map ns)) (fun _ => PyData.bool true) (by omega) (fun H' s1 => SqT_same s1 ht) (fun _ _ => rfl) ?_ ?_⟩
    · rintro x n H' Kt rfl m s1 k1
      refine ⟨rfl, _, rfl, n, rfl, ?_⟩
      exact k1 _ _ (Same.refl _) (.bl _)
    · intro ys H' s1 hy dy
      have e := DpAll.map_bools (ns := ns.map fun _ => true) (by rw [List.map_map]; exact dy)
      subst e
      refine ⟨D, _, rfl, SqL.of hy, ?_⟩
      rw [show ((ns.map fun _ => true).all id) = true from by simp]
      exact k H' s1
/-! ### in_form -/
theorem nz_v (x : Int) : (!decide (V.int x = V.int 0)) = !decide (x = 0) := by
  by_cases h : x = 0
  · subst h; rfl
  · rw [decide_eq_false h, decide_eq_false (fun z => h (V.int.inj z))]
theorem filter_first {a b c d : Int} (h : ¬ (a = 0 ∧ b = 0 ∧ c = 0 ∧ d = 0)) : ∃ r, ([a, b, c, d].filter fun x => !decide (V.int x = V.int 0)) = firstNZ a b c d :: r := by
  simp only [nz_v]
  unfold firstNZ
  by_cases h1 : a = 0
  · by_cases h2 : b = 0
    · by_cases h3 : c = 0
      · by_cases h4 : d = 0
        · exact absurd ⟨h1, h2, h3, h4⟩ h
        · exact ⟨[], by simp [h1, h2, h3, h4]⟩
      · exact ⟨_, by simp [h1, h2, h3]; rfl⟩
    · exact ⟨_, by simp [h1, h2]; rfl⟩
  · exact ⟨_, by simp [h1]; rfl⟩
abbrev s_in_form : Stmt := (topS 18)
abbrev N_in_form : List Str := ["row", "divisor", "first", "one"]
abbrev P_in_form : List Str := ["row"]
theorem sc_in_form : FnScope N_in_form P_in_form (defScope s_in_form) := ⟨rfl, rfl, rfl, by decide +kernel, rfl, by decide +kernel, by decide +kernel⟩
def spInForm (K : PySem.W.Frag) : Sp := fun vs H Q _ => ∃ (p : Addr) (a b c d : Int) (n : Nat), vs = [.ref p] ∧ SqT K H p [.int a, .int b, .int c, .int d] ∧ ¬ (a = 0 ∧ b = 0 ∧ c = 0 ∧ d = 0) ∧ n ≤ 8000 ∧ a.natAbs ≤ 2 ^ n ∧ b.natAbs ≤ 2 ^ n ∧ c.natAbs ≤ 2 ^ n ∧ d.natAbs ≤ 2 ^ n ∧
  ∀ v H', Same H H' → Dp K H' v (mvD (inForm a b c d)) → Q v H'
theorem ok_in_form (F : At K mg "in_form" s_in_form P_in_form) (C : Gs K mg) : Df P w K mg base 1 "in_form" P_in_form (spInForm K) := by
  refine F.ok sc_in_form (fun vs H Q E h => ?_) (fun f cdv A outer s H vs Q E hr h => ?_)
  · obtain ⟨p, a, b, c, d, n, rfl, _⟩ := h
    rfl
  · obtain ⟨p, a, b, c, d, n, rfl, ht, hz, hn, ha, hb, hc, hd, k⟩ := h
    refine ⟨_, (pss_cons (ps_set (i := 1) sc_in_form.nd rfl (Or.inr rfl) (pe_callBfun cr_gcd4 rfl C.gcd (pa_cons (pe_ix (k_ix_tup (K := K) rfl) (pv 0) pe_int (fun _ _ => rfl)) (pa_cons (pe_ix (k_ix_tup (K := K) rfl) (pv 0) pe_int (fun _ _ => rfl)) (pa_cons (pe_ix (k_ix_tup (K := K) rfl) (pv 0) pe_int (fun _ _ => rfl)) (pa_cons (pe_ix (k_ix_tup (K := K) rfl) (pv 0) pe_int (fun _ _ => rfl)) pa_nil)))))) (pss_cons (ps_set (i := 2) sc_in_form.nd rfl (Or.inl rfl) (pe_ix (k_ix_list (K := K) rfl) (pe_lc (own := [("one", 3)]) (g := gName 3) rfl sc_in_form.nd (k_pi_tup (K := K) rfl (pv 0)) (blkOk_by (own := [("one", 3)]) (N := N_in_form) (sc := (defScope s_in_form)) (by decide +kernel)) (fun _ _ _ _ _ => (pg_name (i := 3) sc_in_form.nd rfl (Or.inl rfl))) (fun _ _ _ _ _ => (pts_one (pt_cmpR op_ne (pv 3) pe_int (nomark _)))) (fun _ _ _ _ _ => (pv 3))) pe_int (fun _ _ => rfl))) (pss_cons (ps_set (i := 1) sc_in_form.nd rfl (Or.inr rfl) (pe_ifExp (pt_cmpR op_gt (pv 2) pe_int (nomark _)) (pv 1) (pe_un un_neg (pv 1)))) (pss_one (ps_ret (pe_callTy (k_tuple_of (K := K) rfl) (by rfl) C.b_tuple (by decide +kernel) (pa_cons (pe_lc (own := [("one", 3)]) (g := gName 3) (tt := tYes) rfl sc_in_form.nd (k_pi_tup (K := K) rfl (pv 0)) (blkOk_by (own := [("one", 3)]) (N := N_in_form) (sc := (defScope s_in_form)) (by decide +kernel)) (fun _ _ _ _ _ => (pg_name (i := 3) sc_in_form.nd rfl (Or.inl rfl))) (fun _ _ _ _ _ => pts_nil) (fun _ _ _ _ _ => (pe_op op_fdivZ (pv 3) (pv 1)))) pa_nil))))))), ?_⟩
    refine ⟨_, rfl, p, _, _, _, rfl, rfl, ht, rfl, _, rfl, p, _, _, _, rfl, rfl, ht, rfl, _, rfl, p, _, _, _, rfl, rfl, ht, rfl, _, rfl, p, _, _, _, rfl, rfl, ht, rfl, a, b, c, d, rfl, ?_⟩
    refine ⟨_, rfl, p, rfl, ⟨_, ht⟩, fun D hD => lc_pure (K := K) hD (wk_tup (xs := [a, b, c, d].map V.int) (paired_map [a, b, c, d])) (fun x => !decide (V.int x = V.int 0)) (fun x => PyData.int x) (by show 4 ≤ 100000; decide) (fun H' s1 => SqT_same s1 ht) (fun _ _ _ => rfl) ?_ ?_⟩
    · rintro x n H' Kt Kf rfl m s1 k1 k2
      refine ⟨rfl, _, rfl, rfl, _, rfl, ?_⟩
      refine ite2 (fun e => ?_) (fun e => k2 (by simpa using e) _ (Same.refl _))
      exact ⟨_, rfl, k1 e _ _ (Same.refl _) (.int _)⟩
    · intro ys H' s1 hy dy
      obtain ⟨r, er⟩ := filter_first hz
      rw [er] at dy
      have ey := DpAll.map_ints dy
      subst ey
      refine ⟨D, _, _, _, rfl, rfl, SqL.of hy, atI_nat (j := 0) rfl, ?_⟩
      have hv : (if (decide (0 < firstNZ a b c d)) = true then (gcd4 a b c d : Int) else -(gcd4 a b c d : Int)) = dvOf a b c d := by
        unfold dvOf
        by_cases z : 0 < firstNZ a b c d
        · rw [if_pos (decide_eq_true z), if_pos z]
        · rw [if_neg (by rw [decide_eq_false z]; decide), if_neg z]
      have hg := gcd4_pos hz
      have hgl := gcd4_le hz ha hb hc hd
      have hdz : dvOf a b c d ≠ 0 := by
        unfold dvOf
        split <;> omega
      have hdl : (dvOf a b c d).natAbs ≤ 2 ^ n := by
        unfold dvOf
        split <;> omega
      have ht1 := SqT_same s1 ht
      refine ⟨_, rfl, _, _, rfl, rfl, _, rfl, ?_⟩
      have fin : ∀ dv : Int, dv = dvOf a b c d → gName 1 (V.int dv) (((L2.start N_in_form [V.ref p]).set 1 (some (V.int (gcd4 a b c d : Int)))).set 2 (some (V.int (firstNZ a b c d)))) H' (fun σ H1 => (tRet (tCB (fun xs H Q => ∃ p ys, xs = [.ref p] ∧ ((SqL K H p ys ∧ ∀ l, H l = none → Q (.ref l) (upd H l (.tup ys))) ∨ (SqT K H p ys ∧ Q (.ref p) H))) (tCons (tLc (iTup K (tVar 0)) (gName 3) tYes (tOp (rI CDivZ fun i j => .int (i.fdiv j)) (tVar 3) (tVar 1)) [3]) tNil))) { nx := fun _ H' => Q .non H', rt := Q } σ H1) := by
        rintro dv rfl
        refine ⟨_, rfl, p, rfl, ⟨_, ht1⟩, fun D2 hD2 => lc_map (K := K) hD2 (wk_tup (xs := [a, b, c, d].map V.int) (paired_map [a, b, c, d])) (fun x => PyData.int (x.fdiv (dvOf a b c d))) (by show 4 ≤ 100000; decide) (fun H' s1 => SqT_same s1 ht1) (fun _ _ => rfl) ?_ ?_⟩
        · rintro x n H' Kt rfl m s1 k1
          exact ⟨rfl, _, rfl, _, rfl, _, _, rfl, rfl, divz hn hdz hdl, k1 _ _ (Same.refl _) (.int _)⟩
        · intro ys H2 s2 hy2 dy2
          have ey := DpAll.map_ints (ns := [a, b, c, d].map fun x => x.fdiv (dvOf a b c d)) (by rw [List.map_map]; exact dy2)
          subst ey
          refine ⟨D2, _, rfl, .inl ⟨SqL.of hy2, fun l hl => ?_⟩⟩
          exact k _ _ ((s1.trans s2).trans (Same.new hl)) (mk_mv (SqT.of upd_same))
      refine ite2 (fun e => ?_) (fun e => ?_)
      · refine ⟨_, rfl, ?_⟩
        exact fin _ (by rw [if_pos e] at hv; exact hv)
      · refine ⟨_, rfl, _, rfl, ?_⟩
        exact fin _ (by rw [if_neg e] at hv; exact hv)
end
end Bk
set_option Elab.async false
set_option linter.all false
set_option maxRecDepth 100000
set_option maxHeartbeats 4000000
namespace Bk
open PySem PySem.Spec PyProof.Rows L2 Gap
theorem shaped_mv (m : Mv) : SeqAt.shaped (mvD m) = true := rfl
theorem eqv_self {d : PyData} (h : SeqAt.shaped d = true) : PyData.eqv d d = true := SeqAt.eqv_refl d (SeqAt.canLay_of_shaped h)
section
variable {P : Program} {w : World} {K : PySem.W.Frag} {mg : Str → Option Value} {base : Heap}
abbrev s_size : Stmt := (topS 19)
abbrev N_size : List Str := ["m", "a", "b", "c", "d"]
abbrev P_size : List Str := ["m"]
theorem sc_size : FnScope N_size P_size (defScope s_size) := ⟨rfl, rfl, rfl, by decide +kernel, rfl, by decide +kernel, by decide +kernel⟩
def spSize (K : PySem.W.Frag) : Sp := fun vs H Q _ => ∃ (v : V) (m : Mv) (n : Nat), vs = [v] ∧ Dp K H v (mvD m) ∧ bnd m n ∧ n ≤ 8000 ∧ Q (.int m.det) H
theorem ok_size (F : At K mg "size" s_size P_size) : Df P w K mg base 1 "size" P_size (spSize K) := by
  refine F.ok sc_size (fun vs H Q E h => ?_) (fun f cdv A outer s H vs Q E hr h => ?_)
  · obtain ⟨v, m, n, rfl, _⟩ := h
    rfl
  · obtain ⟨v, m, n, rfl, hm, hb, hn, k⟩ := h
    obtain ⟨p, rfl, ht⟩ := dp_mv hm
    obtain ⟨b1, b2, b3, b4⟩ := hb
    refine ⟨_, (pss_cons (ps_asg (pv 0) (k_pg_tup (K := K) rfl rfl (pgs_cons (pg_name (i := 1) sc_size.nd rfl (Or.inl rfl)) (pgs_cons (pg_name (i := 2) sc_size.nd rfl (Or.inl rfl)) (pgs_cons (pg_name (i := 3) sc_size.nd rfl (Or.inl rfl)) (pgs_cons (pg_name (i := 4) sc_size.nd rfl (Or.inl rfl)) pgs_nil)))))) (pss_one (ps_ret (pe_op op_sub (pe_op op_mulW (pv 1) (pv 4)) (pe_op op_mulW (pv 2) (pv 3)))))), ?_⟩
    refine ⟨_, rfl, p, _, rfl, ht, rfl, _, _, rfl, _, _, rfl, _, _, rfl, _, _, rfl, rfl, ?_⟩
    exact ⟨_, rfl, _, rfl, _, _, rfl, rfl, mulw b1 b4 (by omega), _, rfl, _, rfl, _, _, rfl, rfl, mulw b2 b3 (by omega), _, _, rfl, rfl, k⟩
abbrev s_is_move : Stmt := (topS 20)
abbrev N_is_move : List Str := ["value"]
abbrev P_is_move : List Str := ["value"]
theorem sc_is_move : FnScope N_is_move P_is_move (defScope s_is_move) := ⟨rfl, rfl, rfl, by decide +kernel, rfl, by decide +kernel, by decide +kernel⟩
def spIsMove (K : PySem.W.Frag) : Sp := fun vs H Q _ => ∃ (v : V) (m : Mv) (n : Nat), vs = [v] ∧ Dp K H v (mvD m) ∧ m.ok ∧ bnd m n ∧ n ≤ 8000 ∧ ∀ H', Same H H' → Q (.bl true) H'
theorem ok_is_move (F : At K mg "is_move" s_is_move P_is_move) (D_is_row_of_numbers : Df P w K mg base 2 "is_row_of_numbers" P_is_row_of_numbers (spRow K)) (D_size : Df P w K mg base 1 "size" P_size (spSize K)) (D_in_form : Df P w K mg base 1 "in_form" P_in_form (spInForm K)) :
    Df P w K mg base 3 "is_move" P_is_move (spIsMove K) := by
  refine F.ok sc_is_move (fun vs H Q E h => ?_) (fun f cdv A outer s H vs Q E hr h => ?_)
  · obtain ⟨v, m, n, rfl, _⟩ := h
    rfl
  · obtain ⟨v, m, n, rfl, hm, hok, hb, hn, k⟩ := h
    obtain ⟨p, rfl, ht⟩ := dp_mv hm
    refine ⟨_, (pss_cons (ps_if (PW.pt (pw_or (pt_not (pt_val (pe_df D_is_row_of_numbers (hr.mono (by decide)) (pa_cons (pv 0) (pa_cons pe_int pa_nil))))) (pw_or1 (pt_cmpR op_eq (pe_df D_size (hr.mono (by decide)) (pa_cons (pv 0) pa_nil)) pe_int (nomark _))))) (pss_one (ps_ret pe_bl)) pss_nil) (pss_one (ps_ret (pe_cmpR (k_eqD (K := K) rfl hr.units64) (pe_df D_in_form (hr.mono (by decide)) (pa_cons (pv 0) pa_nil)) (pv 0) (nomark _))))), ?_⟩
    refine ⟨_, rfl, p, [m.a, m.b, m.c, m.d], rfl, ht, by show 4 ≤ 1000; decide, fun H1 s1 => ⟨true, rfl, ?_⟩⟩
    refine iteF ?_
    refine ⟨_, rfl, .ref p, m, n, rfl, Dp_same s1 _ hm, hb, hn, rfl, false, ?_, ?_⟩
    · have := hok.1
      rw [decide_eq_false (fun z => this (V.int.inj z))]
    refine iteF ?_
    refine ⟨_, rfl, p, m.a, m.b, m.c, m.d, n, rfl, SqT_same s1 ht, ne0_of_det hok.1, hn, hb.1, hb.2.1, hb.2.2.1, hb.2.2.2, fun u H2 s2 du => ?_⟩
    refine ⟨_, rfl, mvD m, mvD m, by rw [inForm_ok hok] at du; exact du, Dp_same (s1.trans s2) _ hm, rfl, rfl, ?_⟩
    rw [eqv_self (shaped_mv m)]
    exact k H2 (s1.trans s2)
abbrev s_after : Stmt := (topS 21)
abbrev N_after : List Str := ["one", "other", "a", "b", "c", "d", "e", "f", "g", "h"]
abbrev P_after : List Str := ["one", "other"]
theorem sc_after : FnScope N_after P_after (defScope s_after) := ⟨rfl, rfl, rfl, by decide +kernel, rfl, by decide +kernel, by decide +kernel⟩
def spAfter (K : PySem.W.Frag) : Sp := fun vs H Q _ => ∃ (v u : V) (x y : Mv) (m n : Nat), vs = [v, u] ∧ Dp K H v (mvD x) ∧ Dp K H u (mvD y) ∧ x.ok ∧ y.ok ∧ bnd x m ∧ bnd y n ∧ m + n + 1 ≤ 8000 ∧
  ∀ z H', Same H H' → Dp K H' z (mvD (afterM x y)) → Q z H'
theorem ok_after (F : At K mg "after" s_after P_after) (D_in_form : Df P w K mg base 1 "in_form" P_in_form (spInForm K)) : Df P w K mg base 2 "after" P_after (spAfter K) := by
  refine F.ok sc_after (fun vs H Q E h => ?_) (fun f cdv A outer s H vs Q E hr h => ?_)
  · obtain ⟨v, u, x, y, m, n, rfl, _⟩ := h
    rfl
  · obtain ⟨v, u, x, y, m, n, rfl, hx, hy, ox, oy, bx, byy, hmn, k⟩ := h
    obtain ⟨p, rfl, ht⟩ := dp_mv hx
    obtain ⟨q, rfl, hu⟩ := dp_mv hy
    have bx' := bx
    have by' := byy
    obtain ⟨x1, x2, x3, x4⟩ := bx'
    obtain ⟨y1, y2, y3, y4⟩ := by'
    have mw : ∀ {i j : Int}, i.natAbs ≤ 2 ^ m → j.natAbs ≤ 2 ^ n → CMulW i j := fun h1 h2 => mulw h1 h2 (by omega)
    refine ⟨_, (pss_cons (ps_asg (pv 0) (k_pg_tup (K := K) rfl rfl (pgs_cons (pg_name (i := 2) sc_after.nd rfl (Or.inl rfl)) (pgs_cons (pg_name (i := 3) sc_after.nd rfl (Or.inl rfl)) (pgs_cons (pg_name (i := 4) sc_after.nd rfl (Or.inl rfl)) (pgs_cons (pg_name (i := 5) sc_after.nd rfl (Or.inl rfl)) pgs_nil)))))) (pss_cons (ps_asg (pv 1) (k_pg_tup (K := K) rfl rfl (pgs_cons (pg_name (i := 6) sc_after.nd rfl (Or.inl rfl)) (pgs_cons (pg_name (i := 7) sc_after.nd rfl (Or.inl rfl)) (pgs_cons (pg_name (i := 8) sc_after.nd rfl (Or.inl rfl)) (pgs_cons (pg_name (i := 9) sc_after.nd rfl (Or.inl rfl)) pgs_nil)))))) (pss_one (ps_ret (pe_df D_in_form (hr.mono (by decide)) (pa_cons (pe_tup (pa_cons (pe_op op_add (pe_op op_mulW (pv 2) (pv 6)) (pe_op op_mulW (pv 3) (pv 8))) (pa_cons (pe_op op_add (pe_op op_mulW (pv 2) (pv 7)) (pe_op op_mulW (pv 3) (pv 9))) (pa_cons (pe_op op_add (pe_op op_mulW (pv 4) (pv 6)) (pe_op op_mulW (pv 5) (pv 8))) (pa_cons (pe_op op_add (pe_op op_mulW (pv 4) (pv 7)) (pe_op op_mulW (pv 5) (pv 9))) pa_nil))))) pa_nil)))))), ?_⟩
    refine ⟨_, rfl, p, _, rfl, ht, rfl, _, _, rfl, _, _, rfl, _, _, rfl, _, _, rfl, rfl, ?_⟩
    refine ⟨_, rfl, q, _, rfl, hu, rfl, _, _, rfl, _, _, rfl, _, _, rfl, _, _, rfl, rfl, ?_⟩
    refine ⟨_, rfl, _, rfl, _, _, rfl, rfl, mw x1 y1, _, rfl, _, rfl, _, _, rfl, rfl, mw x2 y3, _, _, rfl, rfl, ?_⟩
    refine ⟨_, rfl, _, rfl, _, _, rfl, rfl, mw x1 y2, _, rfl, _, rfl, _, _, rfl, rfl, mw x2 y4, _, _, rfl, rfl, ?_⟩
    refine ⟨_, rfl, _, rfl, _, _, rfl, rfl, mw x3 y1, _, rfl, _, rfl, _, _, rfl, rfl, mw x4 y3, _, _, rfl, rfl, ?_⟩
    refine ⟨_, rfl, _, rfl, _, _, rfl, rfl, mw x3 y2, _, rfl, _, rfl, _, _, rfl, rfl, mw x4 y4, _, _, rfl, rfl, ?_⟩
    refine ⟨by show 4 ≤ sizeLine; decide, fun l hl => ?_⟩
    refine ⟨l, _, _, _, _, m + n + 1, rfl, SqT.of upd_same, after_ne0 ox oy, hmn, prod_bnd x1 y1 x2 y3, prod_bnd x1 y2 x2 y4, prod_bnd x3 y1 x4 y3, prod_bnd x3 y2 x4 y4, fun z H2 s2 dz => ?_⟩
    exact k z H2 ((Same.new hl).trans s2) dz
abbrev s_back : Stmt := (topS 22)
abbrev N_back : List Str := ["m", "a", "b", "c", "d"]
abbrev P_back : List Str := ["m"]
theorem sc_back : FnScope N_back P_back (defScope s_back) := ⟨rfl, rfl, rfl, by decide +kernel, rfl, by decide +kernel, by decide +kernel⟩
def spBack (K : PySem.W.Frag) : Sp := fun vs H Q _ => ∃ (v : V) (x : Mv) (n : Nat), vs = [v] ∧ Dp K H v (mvD x) ∧ x.ok ∧ bnd x n ∧ n ≤ 8000 ∧ ∀ z H', Same H H' → Dp K H' z (mvD (backM x)) → Q z H'
theorem ok_back (F : At K mg "back" s_back P_back) (D_in_form : Df P w K mg base 1 "in_form" P_in_form (spInForm K)) : Df P w K mg base 2 "back" P_back (spBack K) := by
  refine F.ok sc_back (fun vs H Q E h => ?_) (fun f cdv A outer s H vs Q E hr h => ?_)
  · obtain ⟨v, x, n, rfl, _⟩ := h
    rfl
  · obtain ⟨v, x, n, rfl, hx, ox, bx, hn, k⟩ := h
    obtain ⟨p, rfl, ht⟩ := dp_mv hx
    obtain ⟨x1, x2, x3, x4⟩ := bx
    refine ⟨_, (pss_cons (ps_asg (pv 0) (k_pg_tup (K := K) rfl rfl (pgs_cons (pg_name (i := 1) sc_back.nd rfl (Or.inl rfl)) (pgs_cons (pg_name (i := 2) sc_back.nd rfl (Or.inl rfl)) (pgs_cons (pg_name (i := 3) sc_back.nd rfl (Or.inl rfl)) (pgs_cons (pg_name (i := 4) sc_back.nd rfl (Or.inl rfl)) pgs_nil)))))) (pss_one (ps_ret (pe_df D_in_form (hr.mono (by decide)) (pa_cons (pe_tup (pa_cons (pv 4) (pa_cons (pe_un un_neg (pv 2)) (pa_cons (pe_un un_neg (pv 3)) (pa_cons (pv 1) pa_nil))))) pa_nil))))), ?_⟩
    refine ⟨_, rfl, p, _, rfl, ht, rfl, _, _, rfl, _, _, rfl, _, _, rfl, _, _, rfl, rfl, ?_⟩
    refine ⟨_, rfl, _, rfl, _, rfl, _, rfl, _, rfl, _, rfl, by show 4 ≤ sizeLine; decide, fun l hl => ?_⟩
    refine ⟨l, _, _, _, _, n, rfl, SqT.of upd_same, back_ne0 ox, hn, x4, by rw [Int.natAbs_neg]; exact x2, by rw [Int.natAbs_neg]; exact x3, x1, fun z H2 s2 dz => ?_⟩
    exact k z H2 ((Same.new hl).trans s2) dz
end
end Bk
set_option Elab.async false
set_option linter.all false
set_option maxRecDepth 100000
set_option maxHeartbeats 4000000
namespace Bk
open PySem PySem.Spec PyProof.Rows L2 Gap
theorem inV_strs (n : Str) : ∀ ys : List Str, inV (.str n) (ys.map V.str) = decide (n ∈ ys)
  | [] => rfl
  | y :: ys => by
    have ih := inV_strs n ys
    show ((y == n) || inV (.str n) (ys.map V.str)) = _
    rw [ih]
    by_cases e : y = n
    · subst e
      simp
    · have e2 : (y == n) = false := str_ne e
      rw [e2, Bool.false_or]
      have : (n ∈ y :: ys) ↔ n ∈ ys := by
        rw [List.mem_cons]
        exact ⟨fun h => h.elim (fun z => absurd z.symm e) id, .inr⟩
      exact decide_eq_decide.mpr this.symm
theorem flat_strs (ys : List Str) : (ys.map V.str).all flatV = true := by
  rw [List.all_map]
  exact List.all_eq_true.mpr fun _ _ => rfl
theorem keys_putK {κ : Type} [DecidableEq κ] (kvs : List (κ × V)) (k : κ) (v : V) : (putK kvs k v).map (·.1) = if k ∈ kvs.map (·.1) then kvs.map (·.1) else kvs.map (·.1) ++ [k] := by
  unfold putK
  by_cases h : k ∈ kvs.map (·.1)
  · obtain ⟨p, hp, e⟩ := List.mem_map.mp h
    rw [if_pos (List.any_eq_true.mpr ⟨p, hp, decide_eq_true e⟩), if_pos h, List.map_map]
    refine List.map_congr_left fun q _ => ?_
    show (if q.1 = k then (q.1, v) else q).1 = q.1
    split <;> rfl
  · have : ¬ (kvs.any fun kv => decide (kv.1 = k)) = true := fun z => by
      obtain ⟨p, hp, e⟩ := List.any_eq_true.mp z
      exact h (List.mem_map.mpr ⟨p, hp, of_decide_eq_true e⟩)
    rw [if_neg this, if_neg h, List.map_append]
    rfl
section
variable {K : PySem.W.Frag} {J : It} {G : Hp → Prop} {α : Type} {R : V → α → Prop} {its : List α} {H1 : Hp} {g : TG} {tt : TT} {te tk tv : TE} {vs : List Nat} {σ : L2.St} {D : Addr} {Qd : Hp → Prop}
/-- a dict comprehension of texts as keys, some alike: what counts are the keys -/
theorem dc_set (hD : H1 D = none) (wk : Wk J its G R) (kf : α → Str) (sz : its.length ≤ 100000) (hG : ∀ H', Same H1 H' → G H')
    (hs : ∀ x a H' (Kt : V → V → Hp → Prop), R x a → a ∈ its → Same H1 H' → (∀ z H5, Same H' H5 → Kt (.str (kf a)) z H5) → g x (wipe σ vs) H' fun σ2 H2 => wipe σ2 vs = wipe σ vs ∧ tk σ2 H2 fun y H4 => tv σ2 H4 fun z H5 => Kt y z H5)
    (hd : ∀ (kvs : List (Key × V)) (ns : List Str) H', Same H1 H' → H' D = some (.dK kvs) → kvs.map (·.1) = ns.map Sum.inr → ns.length ≤ its.length → (∀ n, n ∈ ns ↔ n ∈ its.map kf) → Qd H') :
    ∃ W : Nat → Nat → Hp → Prop, (∃ m, W 0 m (upd H1 D (.dK []))) ∧ ∀ i m H, W i m H →
      (J.stop i H ∧ Qd H) ∨ (J.go i H ∧ ∃ Nx : Hp → Prop, (∀ H', Nx H' → ∃ m', m' < m ∧ W (i + 1) m' H') ∧ ∀ x H', J.yld i H x H' → g x (wipe σ vs) H' fun σ2 H2 => wipe σ2 vs = wipe σ vs ∧ tYes σ2 H2 fun b H3 =>
        if b = true then tk σ2 H3 fun y H4 => tv σ2 H4 fun z H5 => ∃ kvs k, y = kV k ∧ H5 D = some (.dK kvs) ∧ kvs.length < sizeLine ∧ Nx (upd H5 D (.dK (putK kvs k z))) else Nx H3) := by
  let Pv : Nat → Hp → Prop := fun i H' => Same H1 H' ∧ ∃ (kvs : List (Key × V)) (ns : List Str), H' D = some (.dK kvs) ∧ kvs.map (·.1) = ns.map Sum.inr ∧ ns.length ≤ i ∧ ∀ n, n ∈ ns ↔ n ∈ (its.take i).map kf
  have h0 : Pv 0 (upd H1 D (.dK [])) := ⟨Same.new hD, [], [], upd_same, rfl, Nat.le_refl _, fun n => Iff.rfl⟩
  refine ⟨fun i m H => m = its.length - i ∧ i ≤ its.length ∧ Pv i H, ⟨its.length, by simp, Nat.zero_le _, h0⟩, ?_⟩
  rintro i m H ⟨rfl, hi, pv⟩
  have q := hG H pv.1
  by_cases hlt : i < its.length
  case neg =>
    have e : i = its.length := by omega
    subst e
    refine .inl ⟨wk.stops H q, ?_⟩
    obtain ⟨s1, kvs, ns, hk, r, rl, rm⟩ := pv
    rw [List.take_length] at rm
    exact hd kvs ns H s1 hk r rl rm
  case pos =>
  refine .inr ⟨wk.goes i H hlt q, Pv (i + 1), fun H' p' => ⟨its.length - (i + 1), by omega, rfl, hlt, p'⟩, fun x H' y => ?_⟩
  obtain ⟨rfl, a, ea, r⟩ := wk.yields i H x H' hlt q y
  obtain ⟨s1, kvs, ns, hk, rk, rl, rm⟩ := pv
  have hlen : kvs.length = ns.length := by
    have := congrArg List.length rk
    rw [List.length_map, List.length_map] at this
    exact this
  refine hs x a H' (fun y z H5 => ∃ kvs k, y = kV k ∧ H5 D = some (.dK kvs) ∧ kvs.length < sizeLine ∧ Pv (i + 1) (upd H5 D (.dK (putK kvs k z)))) r (List.mem_of_getElem? ea) s1 fun z H5 s5 => ?_
  refine ⟨kvs, Sum.inr (kf a), rfl, s5 _ _ hk, Nat.lt_of_le_of_lt (show kvs.length ≤ 100000 by omega) (by decide), Same.mut (s1.trans s5) hD, _, if kf a ∈ ns then ns else ns ++ [kf a], upd_same, ?_, ?_, fun n => ?_⟩
  · rw [keys_putK, rk]
    by_cases h : kf a ∈ ns
    · rw [if_pos h, if_pos (List.mem_map.mpr ⟨_, h, rfl⟩)]
    · rw [if_neg h, if_neg (fun z => by obtain ⟨m, hm, e⟩ := List.mem_map.mp z; exact h (Sum.inr.inj e ▸ hm)), List.map_append]
      rfl
  · split
    · omega
    · rw [List.length_append, List.length_singleton]; omega
  · rw [List.take_add_one, ea, List.map_append, List.mem_append, ← rm n]
    show _ ↔ n ∈ ns ∨ n ∈ [kf a]
    rw [List.mem_singleton]
    split
    · rename_i h
      exact ⟨.inl, fun z => z.elim id fun e => e ▸ h⟩
    · rw [List.mem_append, List.mem_singleton]
end
section
variable {P : Program} {w : World} {K : PySem.W.Frag} {mg : Str → Option Value} {base : Heap}
def usesB (st : Stt) (n o : Str) : Bool := match st.lookup o with
  | some t => decide (n ∈ usesOf t)
  | none => false
theorem usesB_iff {st : Stt} {n o : Str} : usesB st n o = true ↔ Uses st n o := by
  unfold usesB Uses
  cases e : st.lookup o with
  | none =>
    constructor
    · intro z
      cases z
    · rintro ⟨_, z, _⟩
      cases z
  | some t =>
    constructor
    · intro z
      exact ⟨t, rfl, of_decide_eq_true z⟩
    · rintro ⟨t', e', m⟩
      cases e'
      exact decide_eq_true m
theorem not_word : decide (V.str "move" = V.str "word") = false := by decide +kernel
theorem is_word : decide (V.str "word" = V.str "word") = true := decide_eq_true rfl
abbrev s_letters_of : Stmt := (topS 24)
abbrev N_letters_of : List Str := ["told"]
abbrev P_letters_of : List Str := ["told"]
theorem sc_letters_of : FnScope N_letters_of P_letters_of (defScope s_letters_of) := ⟨rfl, rfl, rfl, by decide +kernel, rfl, by decide +kernel, by decide +kernel⟩
def spLetters (K : PySem.W.Frag) : Sp := fun vs H Q _ => ∃ (v : V) (t : Told), vs = [v] ∧ Dp K H v (toldD t) ∧ ∀ a xs H', Same H H' → SqT K H' a xs → DpAll K H' xs ((lettersOf t).map letD) → Q (.ref a) H'
theorem ok_letters_of (F : At K mg "letters_of" s_letters_of P_letters_of) : Df P w K mg base 1 "letters_of" P_letters_of (spLetters K) := by
  refine F.ok sc_letters_of (fun vs H Q E h => ?_) (fun f cdv A outer s H vs Q E hr h => ?_)
  · obtain ⟨v, t, rfl, _⟩ := h
    rfl
  · obtain ⟨v, t, rfl, hv, k⟩ := h
    refine ⟨_, (pss_one (ps_ret (pe_ifExp (pt_cmpR op_eq (pe_ix (k_ix_tup (K := K) rfl) (pv 0) pe_int (fun _ _ => rfl)) pe_str (nomark _)) (pe_ix (k_ix_tup (K := K) rfl) (pv 0) pe_int (fun _ _ => rfl)) (pe_tup pa_nil)))), ?_⟩
    cases t with
    | mv m =>
      obtain ⟨a, y, rfl, ha, _⟩ := dp_tmv hv
      refine ⟨_, rfl, a, _, _, _, rfl, rfl, ha, rfl, rfl, _, rfl, ?_⟩
      rw [not_word]
      refine iteF ?_
      exact ⟨Nat.zero_le _, fun p hp => k p [] _ (Same.new hp) (SqT.of upd_same) .nil⟩
    | wd ls =>
      obtain ⟨a, b, xs, rfl, ha, hb, hx⟩ := dp_twd hv
      refine ⟨_, rfl, a, _, _, _, rfl, rfl, ha, rfl, rfl, _, rfl, ?_⟩
      rw [is_word]
      refine iteT ?_
      exact ⟨_, rfl, a, _, _, _, rfl, rfl, ha, rfl, k b xs H (Same.refl _) hb hx⟩
abbrev s_used : Stmt := (topS 25)
abbrev N_used : List Str := ["told", "other", "sign"]
abbrev P_used : List Str := ["told"]
theorem sc_used : FnScope N_used P_used (defScope s_used) := ⟨rfl, rfl, rfl, by decide +kernel, rfl, by decide +kernel, by decide +kernel⟩
def spUsed (K : PySem.W.Frag) : Sp := fun vs H Q _ => ∃ (v : V) (t : Told), vs = [v] ∧ Dp K H v (toldD t) ∧ (lettersOf t).length ≤ 40 ∧
  ∀ (ys : List Str) p H', H p = none → Same H H' → H' p = some (.lst (ys.map V.str)) → (∀ n, n ∈ ys ↔ n ∈ usesOf t) → ys.length ≤ 40 → Q (.ref p) H'
theorem ok_used (F : At K mg "used" s_used P_used) (C : Gs K mg) (D_letters_of : Df P w K mg base 1 "letters_of" P_letters_of (spLetters K)) : Df P w K mg base 2 "used" P_used (spUsed K) := by
  refine F.ok sc_used (fun vs H Q E h => ?_) (fun f cdv A outer s H vs Q E hr h => ?_)
  · obtain ⟨v, t, rfl, _⟩ := h
    rfl
  · obtain ⟨v, t, rfl, hv, hl, k⟩ := h
    refine ⟨_, (pss_one (ps_ret (pe_callB (k_sortedD rfl) (by rfl) C.sorted (by decide +kernel) (pa_cons (pe_dc (own := [("other", 1), ("sign", 2)]) (g := gTup K 2 (gCons (gName 1) (gCons (gName 2) gNil))) (tt := tYes) rfl sc_used.nd (k_pi_tup (K := K) rfl (pe_df D_letters_of (hr.mono (by decide)) (pa_cons (pv 0) pa_nil))) (blkOk_by (own := [("other", 1), ("sign", 2)]) (N := N_used) (sc := (defScope s_used)) (by decide +kernel)) (fun _ _ _ _ _ => (k_pg_tup (K := K) rfl rfl (pgs_cons (pg_name (i := 1) sc_used.nd rfl (Or.inl rfl)) (pgs_cons (pg_name (i := 2) sc_used.nd rfl (Or.inl rfl)) pgs_nil)))) (fun _ _ _ _ _ => pts_nil) (fun _ _ _ _ _ => (pv 1)) (fun _ _ _ _ _ => pe_bl)) pa_nil)))), ?_⟩
    refine ⟨_, rfl, v, t, rfl, hv, fun a xs H1 s1 ha hx => ⟨a, rfl, ⟨_, ha⟩, fun D hD => dc_set hD (wk_tup (DpAll.paired hx)) (fun l => l.1) (by omega) (fun H' s2 => SqT_same s2 ha) ?_ ?_⟩⟩
    · rintro x l H' Kt r m s2 k1
      obtain ⟨p, rfl, hp⟩ := dp_let r
      exact ⟨p, _, rfl, SqT_same s2 hp, rfl, _, _, rfl, _, _, rfl, rfl, rfl, _, rfl, k1 _ _ (Same.refl _)⟩
    · intro kvs ns H' s2 hd ek el em
      refine ⟨D, kvs, ns, rfl, .inl hd, ek, by omega, fun ys p perm sd hp => ?_⟩
      refine k ys p _ ((s1.trans s2).free hp) ((s1.trans s2).trans (Same.new hp)) upd_same (fun n => ?_) (by rw [perm.length_eq]; omega)
      rw [perm.mem_iff]
      exact em n
abbrev s_need_name : Stmt := (topS 26)
abbrev N_need_name : List Str := ["state", "name"]
abbrev P_need_name : List Str := ["state", "name"]
theorem sc_need_name : FnScope N_need_name P_need_name (defScope s_need_name) := ⟨rfl, rfl, rfl, by decide +kernel, rfl, by decide +kernel, by decide +kernel⟩
def spNeed (K : PySem.W.Frag) : Sp := fun vs H Q _ => ∃ (v : V) (st : Stt) (n : Str) (t : Told), vs = [v, .str n] ∧ StAt K H v st ∧ st.lookup n = some t ∧ ∀ u, Dp K H u (toldD t) → Q u H
theorem ok_need_name (F : At K mg "need_name" s_need_name P_need_name) (C : Gs K mg) : Df P w K mg base 1 "need_name" P_need_name (spNeed K) := by
  refine F.ok sc_need_name (fun vs H Q E h => ?_) (fun f cdv A outer s H vs Q E hr h => ?_)
  · obtain ⟨v, st, n, t, rfl, _⟩ := h
    rfl
  · obtain ⟨v, st, n, t, rfl, hv, hn, k⟩ := h
    have hu := hu_of hr
    obtain ⟨a, u, rfl, hg, du⟩ := hv.get hn
    refine ⟨_, (pss_cons (ps_if (PW.pt (pw_or (pt_not (pt_val (pe_callB (k_isi (K := K) rfl) (by rfl) C.isinstance (by decide +kernel) (pa_cons (pv 1) (pa_cons (pe_bltn (v := .ty "str") (by rfl) C.b_str (by decide +kernel) rfl) pa_nil))))) (pw_or1 (pt_cmp (pc_dnotin hu (pv 1) (pv 0)))))) (pss_one ps_never) pss_nil) (pss_one (ps_ret (pe_dget hu (pv 0) (pv 1) (fun _ _ => rfl))))), ?_⟩
    refine ⟨_, rfl, .str n, .ty "str", .type "str", .type "str", true, rfl, .ty _, .base (.str _), kit_ty (by decide +kernel), true, rfl, ?_⟩
    refine iteF ?_
    refine ⟨_, rfl, _, rfl, a, _, rfl, hg, false, rfl, ?_⟩
    refine iteF ?_
    exact ⟨_, rfl, _, rfl, a, u, rfl, hg, k u du⟩
abbrev s_uses : Stmt := (topS 27)
abbrev N_uses : List Str := ["state", "name"]
abbrev P_uses : List Str := ["state", "name"]
theorem sc_uses : FnScope N_uses P_uses (defScope s_uses) := ⟨rfl, rfl, rfl, by decide +kernel, rfl, by decide +kernel, by decide +kernel⟩
def spUses (K : PySem.W.Frag) : Sp := fun vs H Q _ => ∃ (v : V) (st : Stt) (n : Str) (t : Told), vs = [v, .str n] ∧ StAt K H v st ∧ st.lookup n = some t ∧ (lettersOf t).length ≤ 40 ∧
  ∀ (ys : List Str) p H', H p = none → Same H H' → H' p = some (.lst (ys.map V.str)) → (∀ n, n ∈ ys ↔ n ∈ usesOf t) → Q (.ref p) H'
theorem ok_uses (F : At K mg "uses" s_uses P_uses) (C : Gs K mg) (D_need_name : Df P w K mg base 1 "need_name" P_need_name (spNeed K)) (D_used : Df P w K mg base 2 "used" P_used (spUsed K)) : Df P w K mg base 3 "uses" P_uses (spUses K) := by
  refine F.ok sc_uses (fun vs H Q E h => ?_) (fun f cdv A outer s H vs Q E hr h => ?_)
  · obtain ⟨v, st, n, t, rfl, _⟩ := h
    rfl
  · obtain ⟨v, st, n, t, rfl, hv, hn, hl, k⟩ := h
    refine ⟨_, (pss_one (ps_ret (pe_df D_used (hr.mono (by decide)) (pa_cons (pe_df D_need_name (hr.mono (by decide)) (pa_cons (pv 0) (pa_cons (pv 1) pa_nil))) pa_nil)))), ?_⟩
    exact ⟨_, rfl, _, rfl, v, st, n, t, rfl, hv, hn, fun u du => ⟨u, t, rfl, du, hl, fun ys p H' hp s1 h1 h2 _ => k ys p H' hp s1 h1 h2⟩⟩
abbrev s_users : Stmt := (topS 28)
abbrev N_users : List Str := ["state", "name", "other"]
abbrev P_users : List Str := ["state", "name"]
theorem sc_users : FnScope N_users P_users (defScope s_users) := ⟨rfl, rfl, rfl, by decide +kernel, rfl, by decide +kernel, by decide +kernel⟩
def spUsers (K : PySem.W.Frag) : Sp := fun vs H Q _ => ∃ (v : V) (st : Stt) (n : Str), vs = [v, .str n] ∧ StAt K H v st ∧ n ∈ keysOf st ∧ (keysOf st).Nodup ∧ st.length ≤ 40 ∧ (∀ m t, st.lookup m = some t → (lettersOf t).length ≤ 40) ∧
  ∀ (ys : List Str) p H', H p = none → Same H H' → H' p = some (.lst (ys.map V.str)) → (∀ o, o ∈ ys ↔ Uses st n o) → ys.length ≤ st.length → Q (.ref p) H'
theorem ok_users (F : At K mg "users" s_users P_users) (C : Gs K mg) (D_need_name : Df P w K mg base 1 "need_name" P_need_name (spNeed K)) (D_used : Df P w K mg base 2 "used" P_used (spUsed K)) : Df P w K mg base 3 "users" P_users (spUsers K) := by
  refine F.ok sc_users (fun vs H Q E h => ?_) (fun f cdv A outer s H vs Q E hr h => ?_)
  · obtain ⟨v, st, n, rfl, _⟩ := h
    rfl
  · obtain ⟨v, st, n, rfl, hv, hn, nd, hl, hw, k⟩ := h
    have hu := hu_of hr
    obtain ⟨t, et⟩ := of_key hn
    refine ⟨_, (pss_cons (ps_expr (pe_df D_need_name (hr.mono (by decide)) (pa_cons (pv 0) (pa_cons (pv 1) pa_nil)))) (pss_one (ps_ret (pe_callB (k_sortedS (K := K) rfl) (by rfl) C.sorted (by decide +kernel) (pa_cons (pe_lc (own := [("other", 2)]) (g := gName 2) rfl sc_users.nd (pi_keys (pv 0)) (blkOk_by (own := [("other", 2)]) (N := N_users) (sc := (defScope s_users)) (by decide +kernel)) (fun _ _ _ _ _ => (pg_name (i := 2) sc_users.nd rfl (Or.inl rfl))) (fun _ _ _ _ _ => (pts_one (pt_cmpR (k_in_seq (K := K) rfl) (pv 1) (pe_df D_used (hr.mono (by decide)) (pa_cons (pe_dget hu (pv 0) (pv 2) (fun _ _ => rfl)) pa_nil)) (by rfl)))) (fun _ _ _ _ _ => (pv 2))) pa_nil))))), ?_⟩
    refine ⟨_, rfl, _, rfl, v, st, n, t, rfl, hv, et, fun _ _ => ?_⟩
    have hv' := hv
    obtain ⟨d, od, kvs, rfl, hd, hkv⟩ := hv
    have ek : kvs.map (·.1) = (keysOf st).map Sum.inr := by
      have := hkv.keys
      rw [stD_keys] at this
      exact this
    refine ⟨_, rfl, d, od, rfl, .inl ⟨kvs, hd, fun D hD => lc_pure (K := K) hD (wk_keys ek) (usesB st n) (fun o => PyData.str o) (by rw [List.length_map]; omega) (fun H' s1 => s1 _ _ hd) (fun _ _ _ => rfl) ?_ ?_⟩⟩
    · rintro x o H' Kt Kf rfl m s1 k1 k2
      obtain ⟨t', e'⟩ := of_key m
      obtain ⟨a, u, ea, hg, du⟩ := (DcAt_same s1 hv').get (by rw [stD_lookup, e']; rfl)
      cases ea
      refine ⟨rfl, _, rfl, _, rfl, _, rfl, _, u, rfl, hg, u, t', rfl, du, hw o t' e', fun ys p H2 hp s2 h2 em _ => ?_⟩
      refine ⟨p, _, rfl, .inl (SqL.of h2), rfl, flat_strs _, _, rfl, ?_⟩
      show if (if false = true then !inV (.str n) (ys.map V.str) else inV (.str n) (ys.map V.str)) = true then _ else _
      rw [if_neg (show ¬ false = true by decide), inV_strs]
      refine ite2 (fun e => ?_) (fun e => ?_)
      · refine ⟨_, rfl, k1 ?_ _ _ s2 (.str _)⟩
        exact usesB_iff.mpr ⟨t', e', (em n).mp (of_decide_eq_true e)⟩
      · refine k2 (Bool.eq_false_iff.mpr fun z => e ?_) _ s2
        obtain ⟨t2, e2, m2⟩ := usesB_iff.mp z
        rw [e'] at e2
        cases e2
        exact decide_eq_true ((em n).mpr m2)
    · intro ys H' s1 hy dy
      have e := DpAll.map_strs dy
      subst e
      have hlen : ((keysOf st).filter (usesB st n)).length ≤ st.length := by
        have := List.length_filter_le (usesB st n) (keysOf st)
        rw [List.length_map] at this
        exact this
      refine ⟨D, _, rfl, SqL.of hy, by omega, fun ys p perm sd hp => ?_⟩
      refine k ys p _ (s1.free hp) (s1.trans (Same.new hp)) upd_same (fun o => ?_) (by rw [perm.length_eq]; exact hlen)
      rw [perm.mem_iff, List.mem_filter]
      exact ⟨fun h => usesB_iff.mp h.2, fun h => ⟨h.key, usesB_iff.mpr h⟩⟩
end
end Bk
set_option Elab.async false
set_option linter.all false
set_option maxRecDepth 100000
set_option maxHeartbeats 4000000
namespace Bk
open PySem PySem.Spec PyProof.Rows L2 Gap
theorem not_nil {α : Type} {l : List α} (h : l.isEmpty = false) : ∃ a x, l = a ++ [x] := by
  rcases List.eq_nil_or_concat l with z | ⟨a, x, z⟩
  · subst z; cases h
  · exact ⟨a, x, z.trans List.concat_eq_append⟩
theorem strs_last (a : List Str) (x : Str) : ((a ++ [x]).map V.str)[((a ++ [x]).map V.str).length - 1]? = some (.str x) := by
  rw [List.map_append, List.map_singleton, List.length_append, List.length_singleton, Nat.add_sub_cancel, List.getElem?_append_right (Nat.le_refl _), Nat.sub_self]
  rfl
theorem strs_dropLast (a : List Str) (x : Str) : ((a ++ [x]).map V.str).dropLast = a.map V.str := by
  rw [List.map_append, List.map_singleton, List.dropLast_concat]
/-- a state whose parts are small enough for the walk -/
structure Small (st : Stt) : Prop where
  nd : (keysOf st).Nodup
  len : st.length ≤ 40
  ll : ∀ m t, st.lookup m = some t → (lettersOf t).length ≤ 40
  sk : ∀ n ∈ keysOf st, PyData.strOk n = true
theorem Good.small {st : Stt} {v : Str → Mv} {w L r : Str → Nat} (g : Good st v w L r) : Small st := ⟨g.nd, Nat.le_trans g.n12 (by decide), fun m t e => Nat.le_trans (g.ll m t e) (by decide), g.sk⟩
theorem nd_sub : ∀ {l k : List Str}, l.Nodup → (∀ x ∈ l, x ∈ k) → l.length ≤ k.length
  | [], _, _, _ => Nat.zero_le _
  | x :: l, k, nd, sub => by
    rw [List.nodup_cons] at nd
    have hx : x ∈ k := sub x List.mem_cons_self
    have h := nd_sub (l := l) (k := k.erase x) nd.2 fun y hy => (List.mem_erase_of_ne (fun z : y = x => nd.1 (by rw [← z]; exact hy))).mpr (sub y (List.mem_cons_of_mem _ hy))
    rw [List.length_erase_of_mem hx] at h
    have : 0 < k.length := List.length_pos_of_mem hx
    rw [List.length_cons]
    omega
theorem nd_len {st : Stt} (h : (keysOf st).Nodup) {l : List Str} (nd : l.Nodup) (sub : ∀ x ∈ l, x ∈ keysOf st) : l.length ≤ st.length := by
  have := nd_sub nd sub
  rw [List.length_map] at this
  exact this
section
variable {P : Program} {w : World} {K : PySem.W.Frag} {mg : Str → Option Value} {base : Heap}
abbrev s_hanging : Stmt := (topS 29)
abbrev N_hanging : List Str := ["state", "name", "found", "left", "other"]
abbrev P_hanging : List Str := ["state", "name"]
theorem sc_hanging : FnScope N_hanging P_hanging (defScope s_hanging) := ⟨rfl, rfl, rfl, by decide +kernel, rfl, by decide +kernel, by decide +kernel⟩
def spHanging (K : PySem.W.Frag) : Sp := fun vs H Q _ => ∃ (v : V) (st : Stt) (n : Str), vs = [v, .str n] ∧ StAt K H v st ∧ n ∈ keysOf st ∧ Small st ∧
  ∀ (ys : List Str) p H', H p = none → Same H H' → H' p = some (.lst (ys.map V.str)) → ys.Nodup → (∀ o, o ∈ ys ↔ Hangs st n o) → Q (.ref p) H'
theorem ok_hanging (F : At K mg "hanging" s_hanging P_hanging) (C : Gs K mg) (D_users : Df P w K mg base 3 "users" P_users (spUsers K)) : Df P w K mg base 4 "hanging" P_hanging (spHanging K) := by
  refine F.ok sc_hanging (fun vs H Q E h => ?_) (fun f cdv A outer s H vs Q E hr h => ?_)
  · obtain ⟨v, st, n, rfl, _⟩ := h
    rfl
  · obtain ⟨v, st, n, rfl, hv, hn, sm, k⟩ := h
    refine ⟨_, (pss_cons (ps_par (i := 2) (j := 3) rfl sc_hanging.nd rfl rfl (by decide) rfl rfl (pa_cons (pe_lst pa_nil) (pa_cons (pe_df D_users (hr.mono (by decide)) (pa_cons (pv 0) (pa_cons (pv 1) pa_nil))) pa_nil)) (by rfl)) (pss_cons (ps_while PassesOwn.never (pt_cmpR (k_neD (K := K) rfl hr.units64) (pv 3) (pe_lst pa_nil) (nomark _)) (pss_cons (ps_set (i := 4) sc_hanging.nd rfl (Or.inl rfl) (k_bm0 (K := K) rfl PySem.F.plainAttrs_list PySem.F.slot_list_pop PySem.F.type_list_pop mt_pop (pv 3))) (pss_one (ps_if (pt_cmpR (k_notIn_seq (K := K) rfl) (pv 4) (pv 2) (by rfl)) (pss_cons (ps_expr (k_bm (K := K) rfl PySem.F.plainAttrs_list PySem.F.slot_list_append PySem.F.type_list_append mt_append (pv 2) (pa_cons (pv 4) pa_nil))) (pss_one (ps_set (i := 3) sc_hanging.nd rfl (Or.inl rfl) (pe_op op_cat (pv 3) (pe_df D_users (hr.mono (by decide)) (pa_cons (pv 0) (pa_cons (pv 4) pa_nil))))))) pss_nil)))) (pss_one (ps_ret (pe_callB (k_sortedS (K := K) rfl) (by rfl) C.sorted (by decide +kernel) (pa_cons (pv 2) pa_nil)))))), ?_⟩
    refine ⟨Nat.zero_le _, fun pf hpf => ⟨_, rfl, _, rfl, v, st, n, rfl, DcAt_same (Same.new hpf) hv, hn, sm.nd, sm.len, sm.ll, fun ys pl H1 hpl s1 hy em el => ⟨_, _, rfl, ?_⟩⟩⟩
    have s01 : Same H H1 := (Same.new hpf).trans s1
    have plf : pl ≠ pf := fun z => by rw [z, upd_same] at hpl; cases hpl
    have hpl0 : H pl = none := by rw [upd_ne plf] at hpl; exact hpl
    refine ⟨fun m σ H' => ∃ (Fs Ls : List Str) (pl : Addr) (o : Option V), σ = [some v, some (.str n), some (.ref pf), some (.ref pl), o] ∧ Same H H' ∧ H pl = none ∧ pl ≠ pf ∧ H' pf = some (.lst (Fs.map V.str)) ∧ H' pl = some (.lst (Ls.map V.str)) ∧
      Fs.Nodup ∧ (∀ o ∈ Fs, Hangs st n o) ∧ (∀ o ∈ Ls, Hangs st n o) ∧ (∀ m, (m = n ∨ m ∈ Fs) → ∀ o, Uses st m o → o ∈ Fs ∨ o ∈ Ls) ∧ Ls.length ≤ (Fs.length + 1) * (st.length + 1) ∧ m = (st.length - Fs.length) * (st.length + 1) + Ls.length,
      ⟨_, [], ys, pl, none, rfl, s01, hpl0, plf, s1 _ _ upd_same, hy, List.nodup_nil, (fun _ h => by cases h), (fun o ho => .base ((em o).mp ho)), fun m hm o ho => ?_, ?_, rfl⟩, ?_⟩
    · rcases hm with rfl | hm
      · exact .inr ((em o).mpr ho)
      · cases hm
    · simp only [List.length_nil, Nat.zero_add, Nat.one_mul]
      omega
    rintro m σ H2 ⟨Fs, Ls, pl, o, rfl, s2, hpl0, plf, hf, hl, ndF, hF, hL, cl, bound, rfl⟩
    have keyF : ∀ x ∈ Fs, x ∈ keysOf st := fun x hx => (hF x hx).key
    have lenF : Fs.length ≤ st.length := nd_len sm.nd ndF keyF
    have lenL : Ls.length ≤ 2000 := by
      have : (Fs.length + 1) * (st.length + 1) ≤ 41 * 41 := Nat.mul_le_mul (by have := sm.len; omega) (by have := sm.len; omega)
      omega
    refine ⟨_, rfl, Nat.zero_le _, fun q hq => ⟨.list (Ls.map PyData.str), .list [], .lst (SqL.of (Same.new hq _ _ hl)) (DpAll.of_strs Ls), .lst (SqL.of upd_same) .nil, shaped_strs (fun x hx => sm.sk x (hL x hx).key), rfl, _, rfl, ?_⟩⟩
    rw [eqv_nil]
    have s3 : Same H (upd H2 q (.lst [])) := s2.trans (Same.new hq)
    have hf3 : (upd H2 q (.lst [])) pf = some (.lst (Fs.map V.str)) := Same.new hq _ _ hf
    have hl3 : (upd H2 q (.lst [])) pl = some (.lst (Ls.map V.str)) := Same.new hq _ _ hl
    generalize upd H2 q (.lst []) = H3 at s3 hf3 hl3
    refine ite2 (fun e => ?_) (fun e => ?_)
    · -- a turn
      obtain ⟨La, x, rfl⟩ := not_nil (l := Ls) (by cases Ls with | nil => simp at e | cons _ _ => rfl)
      refine ⟨fun σ' H' => ∃ m', m' < (st.length - Fs.length) * (st.length + 1) + (La ++ [x]).length ∧ ∃ (Fs Ls : List Str) (pl : Addr) (o : Option V), σ' = [some v, some (.str n), some (.ref pf), some (.ref pl), o] ∧ Same H H' ∧ H pl = none ∧ pl ≠ pf ∧ H' pf = some (.lst (Fs.map V.str)) ∧ H' pl = some (.lst (Ls.map V.str)) ∧
        Fs.Nodup ∧ (∀ o ∈ Fs, Hangs st n o) ∧ (∀ o ∈ Ls, Hangs st n o) ∧ (∀ m, (m = n ∨ m ∈ Fs) → ∀ o, Uses st m o → o ∈ Fs ∨ o ∈ Ls) ∧ Ls.length ≤ (Fs.length + 1) * (st.length + 1) ∧ m' = (st.length - Fs.length) * (st.length + 1) + Ls.length, fun _ _ h => h, ?_⟩
      refine ⟨_, rfl, .inl ⟨rfl, _, SqL.of hl3⟩, pl, _, _, rfl, rfl, hl3, strs_last La x, ?_⟩
      rw [strs_dropLast]
      have s4 : Same H (upd H3 pl (.lst (La.map V.str))) := Same.mut s3 hpl0
      have hf4 : (upd H3 pl (.lst (La.map V.str))) pf = some (.lst (Fs.map V.str)) := by rw [upd_ne plf.symm]; exact hf3
      have hl4 : (upd H3 pl (.lst (La.map V.str))) pl = some (.lst (La.map V.str)) := upd_same
      generalize upd H3 pl (.lst (La.map V.str)) = H4 at s4 hf4 hl4
      have hx : Hangs st n x := hL x (by simp)
      have bound' : La.length + 1 ≤ (Fs.length + 1) * (st.length + 1) := by simpa using bound
      refine ⟨_, rfl, _, rfl, pf, _, rfl, .inl (SqL.of hf4), rfl, flat_strs _, _, rfl, ?_⟩
      show if (if true = true then !inV (.str x) (Fs.map V.str) else inV (.str x) (Fs.map V.str)) = true then _ else _
      rw [if_pos rfl, inV_strs]
      refine ite2 (fun e2 => ?_) (fun e2 => ?_)
      · have nx : x ∉ Fs := by simpa using e2
        refine ⟨_, rfl, .inl ⟨rfl, _, SqL.of hf4⟩, _, rfl, pf, _, _, rfl, rfl, hf4, by rw [List.length_map]; exact small1000 (by have := sm.len; omega), ?_⟩
        have s5 : Same H (upd H4 pf (.lst (Fs.map V.str ++ [.str x]))) := Same.mut s4 hpf
        have hf5 : (upd H4 pf (.lst (Fs.map V.str ++ [.str x]))) pf = some (.lst ((Fs ++ [x]).map V.str)) := by rw [upd_same, List.map_append]; rfl
        have hl5 : (upd H4 pf (.lst (Fs.map V.str ++ [.str x]))) pl = some (.lst (La.map V.str)) := by rw [upd_ne plf]; exact hl4
        generalize upd H4 pf (.lst (Fs.map V.str ++ [.str x])) = H5 at s5 hf5 hl5
        refine ⟨_, rfl, _, rfl, _, rfl, v, st, x, rfl, DcAt_same s5 hv, hx.key, sm.nd, sm.len, sm.ll, fun ys p H6 hp s6 hy em el => ⟨pl, p, _, _, rfl, rfl, s6 _ _ hl5, hy, ?_, fun p2 hp2 => ?_⟩⟩
        · rw [List.length_map, List.length_map, sizeLine_eq]
          have := sm.len
          have : La.length ≤ 2000 := by simpa using Nat.le_trans (Nat.le_succ _) (by simpa using lenL)
          omega
        have s7 := (s5.trans s6).trans (Same.new hp2 (o := .lst (La.map V.str ++ ys.map V.str)))
        have ndF' : (Fs ++ [x]).Nodup := by
          rw [List.nodup_append]
          refine ⟨ndF, by simp, fun a ha b hb => ?_⟩
          rw [List.mem_singleton] at hb
          subst hb
          exact fun z => nx (z ▸ ha)
        have hF' : ∀ o ∈ Fs ++ [x], Hangs st n o := fun o ho => by
          rcases List.mem_append.mp ho with z | z
          · exact hF o z
          · rw [List.mem_singleton] at z; subst z; exact hx
        have lenF' : Fs.length + 1 ≤ st.length := by
          have := nd_len sm.nd ndF' fun x hx => (hF' x hx).key
          rw [List.length_append, List.length_singleton] at this
          exact this
        refine ⟨_, ?_, Fs ++ [x], La ++ ys, p2, some (.str x), rfl, s7, (s5.trans s6).free hp2, ?_, Same.new hp2 _ _ (s6 _ _ hf5), by rw [upd_same, List.map_append], ndF', hF', fun o ho => ?_, fun m hm o ho => ?_, ?_, rfl⟩
        · have e1 : st.length - Fs.length = (st.length - (Fs.length + 1)) + 1 := by omega
          simp only [List.length_append, List.length_singleton]
          rw [e1, Nat.add_mul]
          omega
        · exact fun z => by rw [z, s6 _ _ hf5] at hp2; cases hp2
        · rcases List.mem_append.mp ho with z | z
          · exact hL o (List.mem_append_left _ z)
          · exact .step hx ((em o).mp z)
        · have main : ∀ m, (m = n ∨ m ∈ Fs) → Uses st m o → o ∈ Fs ++ [x] ∨ o ∈ La ++ ys := fun m hm ho => by
            rcases cl m hm o ho with z | z
            · exact .inl (List.mem_append_left _ z)
            · rcases List.mem_append.mp z with z | z
              · exact .inr (List.mem_append_left _ z)
              · exact .inl (List.mem_append_right _ z)
          rcases hm with hm | hm
          · exact main m (.inl hm) ho
          · rcases List.mem_append.mp hm with z | z
            · exact main m (.inr z) ho
            · rw [List.mem_singleton] at z
              subst z
              exact .inr (List.mem_append_right _ ((em o).mpr ho))
        · simp only [List.length_append, List.length_singleton]
          rw [Nat.add_mul (Fs.length + 1) 1]
          omega
      · have nx : x ∈ Fs := by simpa using e2
        refine ⟨_, ?_, Fs, La, pl, some (.str x), rfl, s4, hpl0, plf, hf4, hl4, ndF, hF, fun o ho => hL o (List.mem_append_left _ ho), fun m hm o ho => ?_, by omega, rfl⟩
        · simp only [List.length_append, List.length_singleton]
          omega
        · rcases cl m hm o ho with z | z
          · exact .inl z
          · rcases List.mem_append.mp z with z | z
            · exact .inr z
            · rw [List.mem_singleton] at z; subst z; exact .inl nx
    · -- the end
      have hnil : Ls = [] := by
        cases Ls with
        | nil => rfl
        | cons a b => exact absurd rfl e
      subst hnil
      refine ⟨_, rfl, pf, Fs, rfl, SqL.of hf3, by have := sm.len; omega, fun ys p perm sd hp => ?_⟩
      refine k ys p _ (s3.free hp) (s3.trans (Same.new hp)) upd_same (perm.nodup_iff.mpr ndF) fun o => ?_
      rw [perm.mem_iff]
      refine ⟨hF o, fun h => ?_⟩
      induction h with
      | base u => exact (cl n (.inl rfl) _ u).elim id fun z => nomatch z
      | step _ u ih => exact (cl _ (.inr ih) _ u).elim id fun z => nomatch z
end
end Bk
set_option Elab.async false
set_option linter.all false
set_option maxRecDepth 100000
set_option maxHeartbeats 4000000
namespace Bk
open PySem PySem.Spec PyProof.Rows L2 Gap
def Topo (st : Stt) (os : List Str) : Prop := ∀ i x, os[i]? = some x → ∀ y, Uses st y x → y ∈ os.take i
def readyB (st : Stt) (Fs : List Str) (x : Str) : Bool := match st.lookup x with
  | some t => (usesOf t).all fun y => decide (y ∈ Fs)
  | none => false
theorem readyB_iff {st : Stt} {Fs : List Str} {x : Str} (h : x ∈ keysOf st) : readyB st Fs x = true ↔ ∀ y, Uses st y x → y ∈ Fs := by
  obtain ⟨t, e⟩ := of_key h
  unfold readyB
  rw [e]
  show ((usesOf t).all fun y => decide (y ∈ Fs)) = true ↔ _
  rw [List.all_eq_true]
  constructor
  · rintro h y ⟨t', e', m⟩
    rw [e] at e'
    cases e'
    exact of_decide_eq_true (h y m)
  · exact fun h y m => decide_eq_true (h y ⟨t, e, m⟩)
/-- of some names one has the least rank -/
theorem least_rank (r : Str → Nat) : ∀ l : List Str, l ≠ [] → ∃ x ∈ l, ∀ y ∈ l, r x ≤ r y
  | [], h => absurd rfl h
  | a :: l, _ => by
    by_cases e : l = []
    · subst e
      exact ⟨a, List.mem_cons_self, fun y hy => by rw [List.mem_singleton] at hy; subst hy; exact Nat.le_refl _⟩
    · obtain ⟨x, hx, h⟩ := least_rank r l e
      by_cases z : r a ≤ r x
      · exact ⟨a, List.mem_cons_self, fun y hy => by
          rcases List.mem_cons.mp hy with q | q
          · subst q; exact Nat.le_refl _
          · exact Nat.le_trans z (h y q)⟩
      · exact ⟨x, List.mem_cons_of_mem _ hx, fun y hy => by
          rcases List.mem_cons.mp hy with q | q
          · subst q; omega
          · exact h y q⟩
theorem first_atS : ∀ {ns : List Str} {k : Str}, k ∈ ns → ∃ j, ns[j]? = some k ∧ (∀ m, m < j → ns[m]? ≠ some k) ∧ ns.eraseIdx j = ns.erase k
  | [], k, h => absurd h (by simp)
  | a :: r, k, h => by
    by_cases e : a = k
    · refine ⟨0, by rw [e]; rfl, fun i hi => absurd hi (Nat.not_lt_zero _), ?_⟩
      rw [e, List.erase_cons_head]
      rfl
    · have hr : k ∈ r := by
        rcases List.mem_cons.mp h with z | z
        · exact absurd z.symm e
        · exact z
      obtain ⟨j, h2, h3, h4⟩ := first_atS hr
      refine ⟨j + 1, h2, fun i hi => ?_, ?_⟩
      · cases i with
        | zero =>
          intro z
          exact e (Option.some.inj z)
        | succ i => exact h3 i (Nat.lt_of_succ_lt_succ hi)
      · rw [List.erase_cons_tail (by rw [beq_iff_eq]; exact e), ← h4]
        rfl
section
variable {P : Program} {w : World} {K : PySem.W.Frag} {mg : Str → Option Value} {base : Heap}
abbrev s_in_turn : Stmt := (topS 30)
abbrev N_in_turn : List Str := ["state", "found", "left", "ready", "name", "other"]
abbrev P_in_turn : List Str := ["state"]
theorem sc_in_turn : FnScope N_in_turn P_in_turn (defScope s_in_turn) := ⟨rfl, rfl, rfl, by decide +kernel, rfl, by decide +kernel, by decide +kernel⟩
def spInTurn (K : PySem.W.Frag) : Sp := fun vs H Q _ => ∃ (v : V) (st : Stt) (r : Str → Nat), vs = [v] ∧ StAt K H v st ∧ Small st ∧ (∀ n o, Uses st n o → n ∈ keysOf st ∧ r n < r o) ∧
  ∀ (os : List Str) p H', H p = none → Same H H' → H' p = some (.lst (os.map V.str)) → os.Perm (keysOf st) → Topo st os → Q (.ref p) H'
theorem ok_in_turn (F : At K mg "in_turn" s_in_turn P_in_turn) (C : Gs K mg) (D_used : Df P w K mg base 2 "used" P_used (spUsed K)) : Df P w K mg base 3 "in_turn" P_in_turn (spInTurn K) := by
  refine F.ok sc_in_turn (fun vs H Q E h => ?_) (fun f cdv A outer s H vs Q E hr h => ?_)
  · obtain ⟨v, st, r, rfl, _⟩ := h
    rfl
  · obtain ⟨v, st, r, rfl, hv, sm, hrk, k⟩ := h
    have hu := hu_of hr
    have hv' := hv
    obtain ⟨d, od, kvs, rfl, hd, hkv⟩ := hv
    have ek : kvs.map (·.1) = (keysOf st).map Sum.inr := by
      have := hkv.keys
      rw [stD_keys] at this
      exact this
    refine ⟨_, (pss_cons (ps_asg (pe_tup (pa_cons (pe_lst pa_nil) (pa_cons (pe_callB (k_sortedD rfl) (by rfl) C.sorted (by decide +kernel) (pa_cons (pv 0) pa_nil)) pa_nil))) (k_pg_tup (K := K) rfl rfl (pgs_cons (pg_name (i := 1) sc_in_turn.nd rfl (Or.inr rfl)) (pgs_cons (pg_name (i := 2) sc_in_turn.nd rfl (Or.inl rfl)) pgs_nil)))) (pss_cons (ps_while PassesOwn.never (pt_cmpR (k_neD (K := K) rfl hr.units64) (pv 2) (pe_lst pa_nil) (nomark _)) (pss_cons (ps_setLc (i := 3) (own := [("name", 4)]) (g := gName 4) rfl sc_in_turn.nd rfl rfl (sw_true rfl rfl rfl (by decide +kernel)) (k_pi_list (K := K) rfl (pv 2)) (blkOk_by (own := [("name", 4)]) (N := N_in_turn) (sc := (defScope s_in_turn)) (by decide +kernel)) (fun _ _ _ _ _ => (pg_name (i := 4) sc_in_turn.nd rfl (Or.inl rfl))) (fun _ _ _ _ _ => (pts_one (pt_val (pe_callB (k_all (K := K) rfl rfl) (by rfl) C.b_all (by decide +kernel) (pa_cons (pe_lc (own := [("other", 5)]) (g := gName 5) (tt := tYes) rfl sc_in_turn.nd (k_pi_list (K := K) rfl (pe_df D_used (hr.mono (by decide)) (pa_cons (pe_dget hu (pv 0) (pv 4) (fun _ _ => rfl)) pa_nil))) (blkOk_by (own := [("other", 5)]) (N := N_in_turn) (sc := ({ kind := .function, names := [(".0", .local), ("name", .local), ("all", .globalImplicit), ("used", .globalImplicit), ("found", .cell), ("state", .cell)], isGenerator := false, isCoroutine := false } : Scope)) (by decide +kernel)) (fun _ _ _ _ _ => (pg_name (i := 5) sc_in_turn.nd rfl (Or.inl rfl))) (fun _ _ _ _ _ => pts_nil) (fun _ _ _ _ _ => (pe_cmpR (k_in_seq (K := K) rfl) (pv 5) (pv 1) (by rfl)))) pa_nil))))) (fun _ _ _ _ _ => (pv 4))) (pss_cons (ps_if (pt_cmpR (k_eqD (K := K) rfl hr.units64) (pv 3) (pe_lst pa_nil) (nomark _)) (pss_one (ps_ret (pv 1))) pss_nil) (pss_cons (ps_expr (k_bm (K := K) rfl PySem.F.plainAttrs_list PySem.F.slot_list_append PySem.F.type_list_append mt_append (pv 1) (pa_cons (pe_ix (k_ix_list (K := K) rfl) (pv 3) pe_int (fun _ _ => rfl)) pa_nil))) (pss_one (ps_expr (k_bm (K := K) rfl PySem.F.plainAttrs_list PySem.F.slot_list_remove PySem.F.type_list_remove mt_removeS (pv 2) (pa_cons (pe_ix (k_ix_list (K := K) rfl) (pv 3) pe_int (fun _ _ => rfl)) pa_nil)))))))) (pss_one (ps_ret (pv 1))))), ?_⟩
    refine ⟨Nat.zero_le _, fun pf hpf => ⟨_, rfl, d, kvs, keysOf st, rfl, .inr ⟨od, Same.new hpf _ _ hd⟩, ek, by rw [List.length_map]; have := sm.len; omega, fun ks pl perm sd hpl => ⟨by show 2 ≤ sizeLine; decide, fun q hq => ?_⟩⟩⟩
    have plf : pl ≠ pf := fun z => by rw [z, upd_same] at hpl; cases hpl
    have hpl0 : H pl = none := by rw [upd_ne plf] at hpl; exact hpl
    have s0 : Same H (upd (upd (upd H pf (.lst [])) pl (.lst (ks.map V.str))) q (.tup [.ref pf, .ref pl])) := ((Same.new hpf).trans (Same.new hpl)).trans (Same.new hq)
    refine ⟨q, _, rfl, SqT.of upd_same, rfl, _, _, rfl, _, _, rfl, rfl, ?_⟩
    have h1 : (upd (upd (upd H pf (.lst [])) pl (.lst (ks.map V.str))) q (.tup [.ref pf, .ref pl])) pf = some (.lst (([] : List Str).map V.str)) := Same.new hq _ _ (Same.new hpl _ _ upd_same)
    have h2 : (upd (upd (upd H pf (.lst [])) pl (.lst (ks.map V.str))) q (.tup [.ref pf, .ref pl])) pl = some (.lst (ks.map V.str)) := Same.new hq _ _ upd_same
    generalize upd (upd (upd H pf (.lst [])) pl (.lst (ks.map V.str))) q (.tup [.ref pf, .ref pl]) = H1 at s0 h1 h2
    let W : Nat → L2.St → Hp → Prop := fun m σ H' => ∃ (Fs Ls : List Str) (o : Option V), σ = [some (.ref d), some (.ref pf), some (.ref pl), o, none, none] ∧ Same H H' ∧ H' pf = some (.lst (Fs.map V.str)) ∧ H' pl = some (.lst (Ls.map V.str)) ∧ (Fs ++ Ls).Perm (keysOf st) ∧ Topo st Fs ∧ m = Ls.length
    refine ⟨W, ⟨_, [], ks, none, rfl, s0, h1, h2, perm, fun i x e => by simp at e, rfl⟩, ?_⟩
    rintro m σ H2 ⟨Fs, Ls, o, rfl, s2, hf, hl, pm, tp, rfl⟩
    have hmem : ∀ x, x ∈ Fs ∨ x ∈ Ls ↔ x ∈ keysOf st := fun x => by rw [← pm.mem_iff, List.mem_append]
    have hndA : (Fs ++ Ls).Nodup := pm.nodup_iff.mpr sm.nd
    have hlen : Fs.length + Ls.length ≤ 40 := by
      have := pm.length_eq
      rw [List.length_append, List.length_map] at this
      have := sm.len
      omega
    refine ⟨_, rfl, Nat.zero_le _, fun q hq => ⟨.list (Ls.map PyData.str), .list [], .lst (SqL.of (Same.new hq _ _ hl)) (DpAll.of_strs Ls), .lst (SqL.of upd_same) .nil, shaped_strs (fun x hx => sm.sk x ((hmem x).mp (.inr hx))), rfl, _, rfl, ?_⟩⟩
    rw [eqv_nil]
    have s3 : Same H (upd H2 q (.lst [])) := s2.trans (Same.new hq)
    have hf3 : (upd H2 q (.lst [])) pf = some (.lst (Fs.map V.str)) := Same.new hq _ _ hf
    have hl3 : (upd H2 q (.lst [])) pl = some (.lst (Ls.map V.str)) := Same.new hq _ _ hl
    generalize upd H2 q (.lst []) = H3 at s3 hf3 hl3
    refine ite2 (fun e => ?_) (fun e => ?_)
    · have hne : Ls ≠ [] := by
        rintro rfl
        simp at e
      refine ⟨fun σ' H' => ∃ m', m' < Ls.length ∧ W m' σ' H', fun _ _ h => h, ?_⟩
      refine ⟨_, rfl, pl, rfl, ⟨_, SqL.of hl3⟩, fun D hD => lc_pure (K := K) hD (wk_list (paired_map Ls)) (readyB st Fs) (fun x => PyData.str x) (by omega) (fun H' s => SqL.of (s _ _ hl3)) (fun _ _ _ => rfl) ?_ ?_⟩
      · rintro x n H' Kt Kf rfl mem s4 k1 k2
        have hk : n ∈ keysOf st := (hmem n).mp (.inr mem)
        obtain ⟨t, et⟩ := of_key hk
        obtain ⟨a, u, ea, hg, du⟩ := (DcAt_same (s3.trans s4) hv').get (by rw [stD_lookup, et]; rfl)
        cases ea
        refine ⟨rfl, _, rfl, _, rfl, d, u, rfl, hg, u, t, rfl, du, sm.ll n t et, fun ys p H5 hp s5 hy em el => ⟨p, rfl, ⟨_, SqL.of hy⟩, fun D2 hD2 => lc_map (K := K) hD2 (wk_list (paired_map ys)) (fun y => PyData.bool (decide (y ∈ Fs))) (by omega) (fun H' s => SqL.of (s _ _ hy)) (fun _ _ => rfl) ?_ ?_⟩⟩
        · rintro x2 y H6 Kt2 rfl m6 s6 k6
          refine ⟨rfl, _, rfl, _, rfl, pf, _, rfl, .inl (SqL.of (s6 _ _ (s5 _ _ (s4 _ _ hf3)))), rfl, flat_strs _, ?_⟩
          show Kt2 (.bl (if false = true then !inV (.str y) (Fs.map V.str) else inV (.str y) (Fs.map V.str))) H6
          rw [if_neg (show ¬ false = true by decide), inV_strs]
          exact k6 _ _ (Same.refl _) (.bl _)
        · intro zs H6 s6 hz dz
          have ez := DpAll.map_bools (ns := ys.map fun y => decide (y ∈ Fs)) (by rw [List.map_map]; exact dz)
          subst ez
          refine ⟨D2, _, rfl, SqL.of hz, _, rfl, ?_⟩
          have eb : ((ys.map fun y => decide (y ∈ Fs)).all id) = readyB st Fs n := by
            rw [Bool.eq_iff_iff, readyB_iff hk, List.all_map, List.all_eq_true]
            constructor
            · rintro h y ⟨t', e', m'⟩
              rw [et] at e'
              cases e'
              exact of_decide_eq_true (h y ((em y).mpr m'))
            · exact fun h y hy => decide_eq_true (h y ⟨t, et, (em y).mp hy⟩)
          rw [eb]
          refine ite2 (fun e => ?_) (fun e => k2 (by simpa using e) _ (s5.trans s6))
          exact ⟨_, rfl, k1 e _ _ (s5.trans s6) (.str _)⟩
      · intro zs H4 s4 hz dz
        have ez := DpAll.map_strs dz
        subst ez
        -- some name is ready
        obtain ⟨x0, hx0, hmin⟩ := least_rank r Ls hne
        have rdy : x0 ∈ Ls.filter (readyB st Fs) := List.mem_filter.mpr ⟨hx0, (readyB_iff ((hmem x0).mp (.inr hx0))).mpr fun y hy => by
          obtain ⟨yk, yr⟩ := hrk y x0 hy
          rcases (hmem y).mpr yk with z | z
          · exact z
          · have := hmin y z
            omega⟩
        have s34 := s3.trans s4
        have hf4 := s4 _ _ hf3
        have hl4 := s4 _ _ hl3
        obtain ⟨x, rest, er⟩ : ∃ x rest, Ls.filter (readyB st Fs) = x :: rest := by
          cases z : Ls.filter (readyB st Fs) with
          | nil => rw [z] at rdy; cases rdy
          | cons a b => exact ⟨a, b, rfl⟩
        have hxr : x ∈ Ls.filter (readyB st Fs) := by rw [er]; exact List.mem_cons_self
        obtain ⟨hxL, hxR⟩ := List.mem_filter.mp hxr
        have hxk : x ∈ keysOf st := (hmem x).mp (.inr hxL)
        have hxu := (readyB_iff hxk).mp hxR
        rw [er] at hz
        -- if ready == []
        refine ⟨_, rfl, Nat.zero_le _, fun q hq => ⟨.list ((x :: rest).map PyData.str), .list [], .lst (SqL.of (Same.new hq _ _ hz)) (DpAll.of_strs _), .lst (SqL.of upd_same) .nil, shaped_strs (fun y hy => ?_), rfl, _, rfl, ?_⟩⟩
        · have : y ∈ Ls.filter (readyB st Fs) := by rw [er]; exact hy
          exact sm.sk y ((hmem y).mp (.inr (List.mem_filter.mp this).1))
        rw [eqv_nil]
        refine iteF ?_
        have s5 : Same H (upd H4 q (.lst [])) := s34.trans (Same.new hq)
        have hf5 : (upd H4 q (.lst [])) pf = some (.lst (Fs.map V.str)) := Same.new hq _ _ hf4
        have hl5 : (upd H4 q (.lst [])) pl = some (.lst (Ls.map V.str)) := Same.new hq _ _ hl4
        have hz5 : (upd H4 q (.lst [])) D = some (.lst ((x :: rest).map V.str)) := Same.new hq _ _ hz
        generalize upd H4 q (.lst []) = H5 at s5 hf5 hl5 hz5
        have hDf : D ≠ pf := fun z => by rw [z] at hD; rw [hD] at hf3; cases hf3
        have hDl : D ≠ pl := fun z => by rw [z] at hD; rw [hD] at hl3; cases hl3
        -- found.append(ready[0])
        refine ⟨_, rfl, .inl ⟨rfl, _, SqL.of hf5⟩, _, rfl, D, _, _, _, rfl, rfl, SqL.of hz5, atI_nat (j := 0) rfl, pf, _, _, rfl, rfl, hf5, by rw [List.length_map]; exact small1000 (by omega), ?_⟩
        have s6 : Same H (upd H5 pf (.lst (Fs.map V.str ++ [.str x]))) := Same.mut s5 hpf
        have hf6 : (upd H5 pf (.lst (Fs.map V.str ++ [.str x]))) pf = some (.lst ((Fs ++ [x]).map V.str)) := by rw [upd_same, List.map_append]; rfl
        have hl6 : (upd H5 pf (.lst (Fs.map V.str ++ [.str x]))) pl = some (.lst (Ls.map V.str)) := by rw [upd_ne plf]; exact hl5
        have hz6 : (upd H5 pf (.lst (Fs.map V.str ++ [.str x]))) D = some (.lst ((x :: rest).map V.str)) := by rw [upd_ne hDf]; exact hz5
        generalize upd H5 pf (.lst (Fs.map V.str ++ [.str x])) = H6 at s6 hf6 hl6 hz6
        -- left.remove(ready[0])
        obtain ⟨j, j1, j2, j3⟩ := first_atS hxL
        refine ⟨_, rfl, .inl ⟨rfl, _, SqL.of hl6⟩, _, rfl, D, _, _, _, rfl, rfl, SqL.of hz6, atI_nat (j := 0) rfl, pl, _, _, j, rfl, rfl, hl6, j1, j2, ?_⟩
        rw [j3]
        have lpos := List.length_pos_of_mem hxL
        refine ⟨Ls.length - 1, by omega, Fs ++ [x], Ls.erase x, some (.ref D), rfl, Same.mut s6 hpl0, by rw [upd_ne plf.symm]; exact hf6, upd_same, ?_, ?_, (List.length_erase_of_mem hxL).symm⟩
        · rw [List.append_assoc]
          exact ((List.Perm.refl Fs).append (List.perm_cons_erase hxL).symm).trans pm
        · intro i y e z hz
          by_cases hi : i < Fs.length
          · rw [List.getElem?_append_left hi] at e
            have := tp i y e z hz
            rw [List.take_append_of_le_length (by omega)]
            exact this
          · have hi2 : i = Fs.length := by
              have := (List.getElem?_eq_some_iff.mp e).1
              rw [List.length_append, List.length_singleton] at this
              omega
            subst hi2
            rw [List.getElem?_append_right (Nat.le_refl _), Nat.sub_self] at e
            cases e
            rw [List.take_append_of_le_length (Nat.le_refl _), List.take_length]
            exact hxu z hz
    · have hnil : Ls = [] := by
        cases Ls with
        | nil => rfl
        | cons a b => exact absurd rfl e
      subst hnil
      rw [List.append_nil] at pm
      exact ⟨_, rfl, k Fs pf _ hpf s3 hf3 pm tp⟩
end
end Bk
set_option Elab.async false
set_option linter.all false
set_option maxRecDepth 100000
set_option maxHeartbeats 4000000
namespace Bk
open PySem PySem.Spec PyProof.Rows L2 Gap
theorem lookup_mapf {β : Type} (f : Str → β) {n : Str} : ∀ {l : List Str}, n ∈ l → (l.map fun x => (x, f x)).lookup n = some (f n)
  | [], h => by cases h
  | a :: l, h => by
    rw [List.map_cons, List.lookup_cons]
    by_cases e : n = a
    · subst e
      rw [beq_self_eq_true]
    · rw [str_ne e]
      exact lookup_mapf f ((List.mem_cons.mp h).resolve_left e)
theorem lookup_mapf_none {β : Type} (f : Str → β) {n : Str} {l : List Str} (h : n ∉ l) : (l.map fun x => (x, f x)).lookup n = none := by
  refine lookup_none fun z => h ?_
  rw [List.map_map] at z
  simpa using z
theorem valV_kvd {K : PySem.W.Frag} {H : Hp} {kvs : List (Key × V)} {ds : List (Str × PyData)} (r : KVD K H kvs ds) {n : Str} {d : PyData} (l : ds.lookup n = some d) : ∃ u, valV kvs (Sum.inr n) = some u ∧ Dp K H u d := by
  rcases r.get n with ⟨z, _⟩ | ⟨d', u, l', e, q⟩
  · rw [l] at z; cases z
  · rw [l] at l'; cases l'
    exact ⟨u, e, q⟩
theorem valV_kvd_none {K : PySem.W.Frag} {H : Hp} {kvs : List (Key × V)} {ds : List (Str × PyData)} (r : KVD K H kvs ds) {n : Str} (l : ds.lookup n = none) : valV kvs (Sum.inr n) = none := by
  rcases r.get n with ⟨_, e⟩ | ⟨d', u, l', e, q⟩
  · exact e
  · rw [l] at l'; cases l'
/-- a dict in the making: one more pair at its end -/
theorem kvd_snoc {K : PySem.W.Frag} {H : Hp} {pd : Addr} {kvs : List (Key × V)} {ds : List (Str × PyData)} {n : Str} {u : V} {d : PyData} (hd : H pd = some (.dK kvs)) (r : KVD K H kvs ds) (l : ds.lookup n = none) (hu : Dp K H u d) (sd : still d = true) (s : stillKV ds) :
    KVD K (upd H pd (.dK (putK kvs (Sum.inr n) u))) (putK kvs (Sum.inr n) u) (ds ++ [(n, d)]) := by
  have kp : Keep H (upd H pd (.dK (putK kvs (Sum.inr n) u))) := Keep.mut hd rfl
  have nw := valV_kvd_none r l
  have r1 := KVD_keep kp s r
  have r2 := Dp_keep kp d sd hu
  rw [putK_new _ nw] at r1 r2 ⊢
  exact pair_append r1 (.cons ⟨rfl, r2⟩ .nil)
theorem stillKV_map {α : Type} (f : α → Str) (g : α → PyData) (h : ∀ a, still (g a) = true) (l : List α) : stillKV (l.map fun a => (f a, g a)) := fun q hq => by
  obtain ⟨a, _, rfl⟩ := List.mem_map.mp hq
  exact h a
section
variable {P : Program} {w : World} {K : PySem.W.Frag} {mg : Str → Option Value} {base : Heap}
theorem word_ne : ¬ (("word" : Str) = "move") := by decide +kernel
theorem sum_cast (L : Str → Nat) : ∀ ls : List (Str × Int), (ls.map fun l => (L l.1 : Int)).sum = (((ls.map fun l => L l.1).sum : Nat) : Int)
  | [] => rfl
  | l :: ls => by
    simp only [List.map_cons, List.sum_cons]
    rw [sum_cast L ls]
    omega
def baseOf : Told → Mv
  | .mv m => m
  | .wd _ => idle
abbrev s_values : Stmt := (topS 31)
abbrev N_values : List Str := ["state", "found", "name", "word", "told", "here", "other", "sign"]
abbrev P_values : List Str := ["state"]
theorem sc_values : FnScope N_values P_values (defScope s_values) := ⟨rfl, rfl, rfl, by decide +kernel, rfl, by decide +kernel, by decide +kernel⟩
def spValues (K : PySem.W.Frag) : Sp := fun vs H Q _ => ∃ (x : V) (st : Stt) (v : Str → Mv) (w L r : Str → Nat), vs = [x] ∧ StAt K H x st ∧ Good st v w L r ∧
  ∀ (os : List Str) y H', os.Perm (keysOf st) → Same H H' → DcAt K H' y (os.map fun n => (n, mvD (v n))) → Q y H'
theorem ok_values (F : At K mg "values" s_values P_values) (C : Gs K mg) (D_in_turn : Df P w K mg base 3 "in_turn" P_in_turn (spInTurn K)) (D_letters_of : Df P w K mg base 1 "letters_of" P_letters_of (spLetters K)) (D_after : Df P w K mg base 2 "after" P_after (spAfter K)) (D_back : Df P w K mg base 2 "back" P_back (spBack K)) :
    Df P w K mg base 4 "values" P_values (spValues K) := by
  refine F.ok sc_values (fun vs H Q E h => ?_) (fun f cdv A outer s H vs Q E hr h => ?_)
  · obtain ⟨x, st, v, w, L, r, rfl, _⟩ := h
    rfl
  · obtain ⟨x, st, v, wt, L, r, rfl, hx, g, k⟩ := h
    have hu := hu_of hr
    refine ⟨_, (pss_cons (ps_set (i := 1) sc_values.nd rfl (Or.inl rfl) pe_dnewK) (pss_cons (ps_for PassesOwn.never rfl (k_pi_list (K := K) rfl (pe_df D_in_turn (hr.mono (by decide)) (pa_cons (pv 0) pa_nil))) (pg_name (i := 2) sc_values.nd rfl (Or.inl rfl)) (pss_cons (ps_asg (pe_dget hu (pv 0) (pv 2) (fun _ _ => rfl)) (k_pg_tup (K := K) rfl rfl (pgs_cons (pg_name (i := 3) sc_values.nd rfl (Or.inl rfl)) (pgs_cons (pg_name (i := 4) sc_values.nd rfl (Or.inl rfl)) pgs_nil)))) (pss_cons (ps_set (i := 5) sc_values.nd rfl (Or.inl rfl) (pe_ifExp (pt_cmpR op_eq (pv 3) pe_str (nomark _)) (pv 4) (k_idle (K := K) rfl rfl C.IDLE))) (pss_cons (ps_for PassesOwn.never rfl (k_pi_tup (K := K) rfl (pe_df D_letters_of (hr.mono (by decide)) (pa_cons (pe_dget hu (pv 0) (pv 2) (fun _ _ => rfl)) pa_nil))) (k_pg_tup (K := K) rfl rfl (pgs_cons (pg_name (i := 6) sc_values.nd rfl (Or.inl rfl)) (pgs_cons (pg_name (i := 7) sc_values.nd rfl (Or.inl rfl)) pgs_nil))) (pss_one (ps_set (i := 5) sc_values.nd rfl (Or.inl rfl) (pe_df D_after (hr.mono (by decide)) (pa_cons (pv 5) (pa_cons (pe_ifExp (pt_cmpR op_eq (pv 7) pe_int (nomark _)) (pe_dget hu (pv 1) (pv 6) (fun _ _ => rfl)) (pe_df D_back (hr.mono (by decide)) (pa_cons (pe_dget hu (pv 1) (pv 6) (fun _ _ => rfl)) pa_nil))) pa_nil)))))) (pss_one (ps_dput hu (pv 1) (pv 2) (pv 5) rfl)))))) (pss_one (ps_ret (pe_frz (pv 1)))))), ?_⟩
    intro pd hpd
    refine ⟨_, rfl, x, st, r, rfl, DcAt_same (Same.new hpd) hx, g.small, fun n o h => g.rank h, fun os p H1 hp s1 hos pm tp => ⟨p, rfl, ⟨_, SqL.of hos⟩, ?_⟩⟩
    have s01 : Same H H1 := (Same.new hpd).trans s1
    have ndo : os.Nodup := pm.nodup_iff.mpr g.nd
    have hpp : p ≠ pd := fun z => by rw [z, upd_same] at hp; cases hp
    let f : Str → Str × PyData := fun n => (n, mvD (v n))
    refine for_it (wk_list (K := K) (a := p) (paired_map os)) (fun i σ' H' => ∃ (o2 o3 o4 o5 o6 o7 : Option V) (kvs : List (Key × V)), σ' = [some x, some (.ref pd), o2, o3, o4, o5, o6, o7] ∧ Same H H' ∧ SqL K H' p (os.map V.str) ∧ H' pd = some (.dK kvs) ∧ KVD K H' kvs ((os.take i).map f))
      ⟨none, none, none, none, none, none, [], rfl, s01, SqL.of hos, s1 _ _ upd_same, .nil⟩ (fun i σ' H' _ ⟨_, _, _, _, _, _, _, _, _, h, _⟩ => h) ?_ ?_
    · rintro i y σ' H' H'' hi ⟨o2, o3, o4, o5, o6, o7, kvs, rfl, s2, hos2, hd2, rk⟩ ⟨rfl, n, en, rfl⟩
      have hn : n ∈ keysOf st := (pm.mem_iff).mp (List.mem_of_getElem? en)
      obtain ⟨t, et⟩ := of_key hn
      obtain ⟨a, u, ea, hg, du⟩ := (DcAt_same s2 hx).get (by rw [stD_lookup, et]; rfl)
      subst ea
      obtain ⟨b, z, rfl, hb, dz⟩ := dp_told du
      have nin : n ∉ os.take i := fun z => by
        obtain ⟨j, hj, ej⟩ := List.mem_take_iff_getElem.mp z
        have hj2 : j < i := by omega
        have h2 : os[j]? = some n := by rw [List.getElem?_eq_getElem (by omega)]; exact congrArg some ej
        have := nodup_ix ndo en h2
        omega
      have stl : stillKV ((os.take i).map f) := stillKV_map (fun n => n) (fun n => mvD (v n)) (fun n => still_mv _) _
      -- the letters
      have inner : ∀ (h0 : V) (H2 : Hp), Same H'' H2 → Dp K H2 h0 (mvD (baseOf t)) →
          (tSeq (tFor (iTup K (tDf (spLetters K) (tCons (tDGet (tVar 0) (tVar 2)) tNil))) (gTup K 2 (gCons (gName 6) (gCons (gName 7) gNil)))
            (tAsg (tDf (spAfter K) (tCons (tVar 5) (tCons (tIf (tTest (tOp rEq (tVar 7) (tC (.int 1)))) (tDGet (tVar 1) (tVar 6)) (tDf (spBack K) (tCons (tDGet (tVar 1) (tVar 6)) tNil))) tNil))) (gName 5)))
            (sDPut (tVar 1) (tVar 2) (tVar 5))) { nx := fun σ' H' => ∃ (o2 o3 o4 o5 o6 o7 : Option V) (kvs : List (Key × V)), σ' = [some (.ref a), some (.ref pd), o2, o3, o4, o5, o6, o7] ∧ Same H H' ∧ SqL K H' p (os.map V.str) ∧ H' pd = some (.dK kvs) ∧ KVD K H' kvs ((os.take (i + 1)).map f), rt := Q }
            [some (.ref a), some (.ref pd), some (.str n), some (.str (wordOf t)), some z, some h0, o6, o7] H2 := by
        intro h0 H2 s22 d0
        have s02 := s2.trans s22
        refine ⟨_, rfl, _, rfl, a, .ref b, rfl, ?_, .ref b, t, rfl, Dp_same s22 _ du, fun la xs H3 s3 hla hxs => ⟨la, rfl, ⟨_, hla⟩, ?_⟩⟩
        · obtain ⟨a', u', ea, hg', du'⟩ := (DcAt_same s02 hx).get (by rw [stD_lookup, et]; rfl)
          cases ea
          rcases hg with ⟨kv1, k1, r1, e1, v1⟩ | ⟨kv1, k1, b1, r1, e1, e2, v1⟩
          · refine .inl ⟨kv1, k1, ?_, e1, v1⟩
            rcases r1 with r1 | ⟨o, r1⟩
            · exact .inl (s22 _ _ r1)
            · exact .inr ⟨o, s22 _ _ r1⟩
          · cases e1
        have s03 := s02.trans s3
        refine for_it (wk_tup (K := K) (a := la) (DpAll.paired hxs)) (fun i2 σ' H' => ∃ (hv : V) (o6 o7 : Option V), σ' = [some (.ref a), some (.ref pd), some (.str n), some (.str (wordOf t)), some z, some hv, o6, o7] ∧ Same H3 H' ∧ Dp K H' hv (mvD (((lettersOf t).take i2).foldl (stepV v) (baseOf t))))
          ⟨h0, o6, o7, rfl, Same.refl _, Dp_same s3 _ d0⟩ (fun i2 σ' H' _ ⟨_, _, _, _, s, _⟩ => SqT_same s hla) ?_ ?_
        · rintro i2 y σ' H4 H5 hi2 ⟨hv, o6, o7, rfl, s4, dh⟩ ⟨rfl, l, el, rl⟩
          obtain ⟨c, rfl, hc⟩ := dp_let rl
          have ml : l ∈ lettersOf t := List.mem_of_getElem? el
          obtain ⟨c1, c2, c3⟩ := g.cl n t et l ml
          have s24 := (s22.trans s3).trans s4
          have hrk := KVD_same s24 rk
          obtain ⟨u2, eu2, du2⟩ := valV_kvd hrk (n := l.1) (d := mvD (v l.1)) (lookup_mapf (fun n => mvD (v n)) (tp i n en l.1 ⟨t, et, List.mem_map.mpr ⟨l, ml, rfl⟩⟩))
          have hg2 : DGet H5 pd (.str l.1) (some u2) := by
            rw [← eu2]
            exact DGet.k (k := Sum.inr l.1) (s24 _ _ hd2)
          obtain ⟨fo, fb⟩ : (((lettersOf t).take i2).foldl (stepV v) (baseOf t)).ok ∧ bnd (((lettersOf t).take i2).foldl (stepV v) (baseOf t)) ((((lettersOf t).take i2).map fun l => wt l.1 + 1).sum) := by
            cases t with
            | mv m => cases ml
            | wd ls =>
              have := fold_ok (v := v) (w := wt) (K := keysOf st) g.ok g.bd (ls.take i2) idle 0 (fun l hl => (g.cl n _ et l (List.mem_of_mem_take hl)).1) idle_ok idle_bnd
              rw [Nat.zero_add] at this
              exact this
          have wl : ((((lettersOf t).take i2).map fun l => wt l.1 + 1).sum) + wt l.1 + 1 ≤ 7000 := by
            have h1 := sum_take_le (fun l => wt l.1 + 1) (lettersOf t) (i2 + 1)
            rw [List.take_add_one, el, List.map_append, List.sum_append] at h1
            have h2 := g.wt n t et
            have h3 := g.wm n
            simp only [Option.toList_some, List.map_cons, List.map_nil, List.sum_cons, List.sum_nil] at h1
            omega
          have estep : ((lettersOf t).take (i2 + 1)).foldl (stepV v) (baseOf t) = stepV v (((lettersOf t).take i2).foldl (stepV v) (baseOf t)) l := by
            rw [List.take_add_one, el, List.foldl_append]
            rfl
          refine ⟨c, _, rfl, SqT_same s4 hc, rfl, _, _, rfl, _, _, rfl, rfl, ?_⟩
          refine ⟨_, rfl, _, rfl, rfl, _, rfl, ?_⟩
          refine ite2 (fun e => ?_) (fun e => ?_)
          · have e1 : l.2 = 1 := V.int.inj (of_decide_eq_true e)
            refine ⟨_, rfl, _, rfl, pd, u2, rfl, hg2, hv, u2, _, _, _, _, rfl, dh, du2, fo, g.ok _ c1, fb, g.bd _ c1, by omega, fun z H6 s6 dz => ?_⟩
            refine ⟨z, _, _, rfl, s4.trans s6, ?_⟩
            rw [estep]
            unfold stepV
            rw [if_pos e1]
            exact dz
          · have e1 : ¬ l.2 = 1 := fun z => e (by rw [z]; exact decide_eq_true rfl)
            refine ⟨_, rfl, _, rfl, pd, u2, rfl, hg2, u2, v l.1, wt l.1, rfl, du2, g.ok _ c1, g.bd _ c1, by omega, fun u3 H6 s6 du3 => ?_⟩
            refine ⟨hv, u3, _, _, _, _, rfl, Dp_same s6 _ dh, du3, fo, back_ok (g.ok _ c1), fb, back_bnd (g.ok _ c1) (g.bd _ c1), by omega, fun z H7 s7 dz => ?_⟩
            refine ⟨z, _, _, rfl, (s4.trans s6).trans s7, ?_⟩
            rw [estep]
            unfold stepV
            rw [if_neg e1]
            exact dz
        · rintro σ' H4 ⟨hv, o6, o7, rfl, s4, dh⟩
          rw [List.take_length] at dh
          have s24 := (s22.trans s3).trans s4
          have e1 : (lettersOf t).foldl (stepV v) (baseOf t) = v n := by rw [g.sol n t et]; cases t <;> rfl
          rw [e1] at dh
          refine ⟨_, rfl, _, rfl, _, rfl, pd, _, rfl, DPut.k (k := Sum.inr n) (s24 _ _ hd2) (by rw [KVD.length rk, List.length_map, List.length_take]; exact small1000 (by have := pm.length_eq; rw [List.length_map] at this; have := g.n12; omega)), ?_⟩
          have rk4 := KVD_same s24 rk
          refine ⟨_, _, _, _, _, _, _, rfl, Same.mut (s03.trans s4) hpd, ?_, upd_same, ?_⟩
          · rcases s24.seq hos2 with (q | ⟨o, q⟩) | q
            · exact .inl (.inl (by rw [upd_ne hpp]; exact q))
            · exact .inl (.inr ⟨o, by rw [upd_ne hpp]; exact q⟩)
            · exact .inr q
          · have := kvd_snoc (s24 _ _ hd2) rk4 (lookup_mapf_none (fun n => mvD (v n)) nin) dh (still_mv _) stl
            rw [List.take_add_one, en, List.map_append]
            exact this
      refine ⟨_, rfl, _, rfl, a, .ref b, rfl, hg, b, _, rfl, hb, rfl, _, _, rfl, _, _, rfl, rfl, ?_⟩
      cases t with
      | mv m =>
        refine ⟨_, rfl, rfl, _, rfl, ?_⟩
        refine ite2 (fun _ => ?_) (fun e => absurd (decide_eq_true rfl) e)
        exact ⟨_, rfl, inner _ _ (Same.refl _) dz⟩
      | wd ls =>
        refine ⟨_, rfl, rfl, _, rfl, ?_⟩
        refine ite2 (fun e => absurd (V.str.inj (of_decide_eq_true e)) word_ne) (fun _ => ?_)
        intro ai hai
        exact inner _ _ (Same.refl _) (mk_mv (hai _))
    · rintro σ' H' ⟨o2, o3, o4, o5, o6, o7, kvs, rfl, s2, _, hd2, rk⟩
      rw [List.take_length] at rk
      refine ⟨_, rfl, pd, _, rfl, hd2, True.intro, fun od => ?_⟩
      refine k os _ _ pm (Same.mut s2 hpd) ⟨pd, od, kvs, rfl, upd_same, KVD_keep (Keep.mut hd2 rfl) (stillKV_map (fun n => n) (fun n => mvD (v n)) (fun n => still_mv _) _) rk⟩
abbrev s_value_of : Stmt := (topS 33)
abbrev N_value_of : List Str := ["state", "name"]
abbrev P_value_of : List Str := ["state", "name"]
theorem sc_value_of : FnScope N_value_of P_value_of (defScope s_value_of) := ⟨rfl, rfl, rfl, by decide +kernel, rfl, by decide +kernel, by decide +kernel⟩
def spValueOf (K : PySem.W.Frag) : Sp := fun vs H Q _ => ∃ (x : V) (n : Str) (st : Stt) (v : Str → Mv) (w L r : Str → Nat), vs = [x, .str n] ∧ StAt K H x st ∧ Good st v w L r ∧ n ∈ keysOf st ∧ ∀ y H', Same H H' → Dp K H' y (mvD (v n)) → Q y H'
theorem ok_value_of (F : At K mg "value_of" s_value_of P_value_of) (C : Gs K mg) (D_need_name : Df P w K mg base 1 "need_name" P_need_name (spNeed K)) (D_values : Df P w K mg base 4 "values" P_values (spValues K)) : Df P w K mg base 5 "value_of" P_value_of (spValueOf K) := by
  refine F.ok sc_value_of (fun vs H Q E h => ?_) (fun f cdv A outer s H vs Q E hr h => ?_)
  · obtain ⟨x, n, st, v, w, L, r, rfl, _⟩ := h
    rfl
  · obtain ⟨x, n, st, v, wt, L, r, rfl, hx, g, hn, k⟩ := h
    have hu := hu_of hr
    obtain ⟨t, et⟩ := of_key hn
    refine ⟨_, (pss_cons (ps_expr (pe_df D_need_name (hr.mono (by decide)) (pa_cons (pv 0) (pa_cons (pv 1) pa_nil)))) (pss_one (ps_ret (pe_dget hu (pe_df D_values (hr.mono (by decide)) (pa_cons (pv 0) pa_nil)) (pv 1) (fun _ _ => rfl))))), ?_⟩
    refine ⟨_, rfl, _, rfl, x, st, n, t, rfl, hx, et, fun _ _ => ?_⟩
    refine ⟨_, rfl, x, st, v, wt, L, r, rfl, hx, g, fun os y H1 pm s1 dy => ?_⟩
    obtain ⟨a, u, rfl, hg, du⟩ := dy.get (lookup_mapf (fun n => mvD (v n)) (pm.mem_iff.mpr hn))
    exact ⟨_, rfl, a, u, rfl, hg, k u H1 s1 du⟩
abbrev s_lengths : Stmt := (topS 32)
abbrev N_lengths : List Str := ["state", "found", "name", "word", "told", "other", "sign"]
abbrev P_lengths : List Str := ["state"]
theorem sc_lengths : FnScope N_lengths P_lengths (defScope s_lengths) := ⟨rfl, rfl, rfl, by decide +kernel, rfl, by decide +kernel, by decide +kernel⟩
def spLengths (K : PySem.W.Frag) : Sp := fun vs H Q _ => ∃ (x : V) (st : Stt) (v : Str → Mv) (w L r : Str → Nat), vs = [x] ∧ StAt K H x st ∧ Good st v w L r ∧
  ∀ (os : List Str) y H', os.Perm (keysOf st) → Same H H' → DcAt K H' y (os.map fun n => (n, PyData.int (L n))) → Q y H'
theorem ok_lengths (F : At K mg "lengths" s_lengths P_lengths) (C : Gs K mg) (D_in_turn : Df P w K mg base 3 "in_turn" P_in_turn (spInTurn K)) : Df P w K mg base 4 "lengths" P_lengths (spLengths K) := by
  refine F.ok sc_lengths (fun vs H Q E h => ?_) (fun f cdv A outer s H vs Q E hr h => ?_)
  · obtain ⟨x, st, v, w, L, r, rfl, _⟩ := h
    rfl
  · obtain ⟨x, st, v, wt, L, r, rfl, hx, g, k⟩ := h
    have hu := hu_of hr
    refine ⟨_, (pss_cons (ps_set (i := 1) sc_lengths.nd rfl (Or.inr rfl) pe_dnewK) (pss_cons (ps_for PassesOwn.never rfl (k_pi_list (K := K) rfl (pe_df D_in_turn (hr.mono (by decide)) (pa_cons (pv 0) pa_nil))) (pg_name (i := 2) sc_lengths.nd rfl (Or.inl rfl)) (pss_cons (ps_asg (pe_dget hu (pv 0) (pv 2) (fun _ _ => rfl)) (k_pg_tup (K := K) rfl rfl (pgs_cons (pg_name (i := 3) sc_lengths.nd rfl (Or.inl rfl)) (pgs_cons (pg_name (i := 4) sc_lengths.nd rfl (Or.inl rfl)) pgs_nil)))) (pss_one (ps_dput hu (pv 1) (pv 2) (pe_ifExp (pt_cmpR op_eq (pv 3) pe_str (nomark _)) pe_int (pe_callB (k_sum (K := K) rfl rfl) (by rfl) C.sum (by decide +kernel) (pa_cons (pe_lc (own := [("other", 5), ("sign", 6)]) (g := gTup K 2 (gCons (gName 5) (gCons (gName 6) gNil))) (tt := tYes) rfl sc_lengths.nd (k_pi_tup (K := K) rfl (pv 4)) (blkOk_by (own := [("other", 5), ("sign", 6)]) (N := N_lengths) (sc := (defScope s_lengths)) (by decide +kernel)) (fun _ _ _ _ _ => (k_pg_tup (K := K) rfl rfl (pgs_cons (pg_name (i := 5) sc_lengths.nd rfl (Or.inl rfl)) (pgs_cons (pg_name (i := 6) sc_lengths.nd rfl (Or.inl rfl)) pgs_nil)))) (fun _ _ _ _ _ => pts_nil) (fun _ _ _ _ _ => (pe_dget hu (pv 1) (pv 5) (fun _ _ => rfl)))) pa_nil))) rfl)))) (pss_one (ps_ret (pe_frz (pv 1)))))), ?_⟩
    intro pd hpd
    refine ⟨_, rfl, x, st, r, rfl, DcAt_same (Same.new hpd) hx, g.small, fun n o h => g.rank h, fun os p H1 hp s1 hos pm tp => ⟨p, rfl, ⟨_, SqL.of hos⟩, ?_⟩⟩
    have s01 : Same H H1 := (Same.new hpd).trans s1
    have ndo : os.Nodup := pm.nodup_iff.mpr g.nd
    have hpp : p ≠ pd := fun z => by rw [z, upd_same] at hp; cases hp
    let f : Str → Str × PyData := fun n => (n, PyData.int (L n))
    refine for_it (wk_list (K := K) (a := p) (paired_map os)) (fun i σ' H' => ∃ (o2 o3 o4 : Option V) (kvs : List (Key × V)), σ' = [some x, some (.ref pd), o2, o3, o4, none, none] ∧ Same H H' ∧ SqL K H' p (os.map V.str) ∧ H' pd = some (.dK kvs) ∧ KVD K H' kvs ((os.take i).map f))
      ⟨none, none, none, [], rfl, s01, SqL.of hos, s1 _ _ upd_same, .nil⟩ (fun i σ' H' _ ⟨_, _, _, _, _, _, h, _⟩ => h) ?_ ?_
    · rintro i y σ' H' H'' hi ⟨o2, o3, o4, kvs, rfl, s2, hos2, hd2, rk⟩ ⟨rfl, n, en, rfl⟩
      have hn : n ∈ keysOf st := (pm.mem_iff).mp (List.mem_of_getElem? en)
      obtain ⟨t, et⟩ := of_key hn
      obtain ⟨a, u, ea, hg, du⟩ := (DcAt_same s2 hx).get (by rw [stD_lookup, et]; rfl)
      subst ea
      obtain ⟨b, z, rfl, hb, dz⟩ := dp_told du
      have nin : n ∉ os.take i := fun z => by
        obtain ⟨j, hj, ej⟩ := List.mem_take_iff_getElem.mp z
        have hj2 : j < i := by omega
        have h2 : os[j]? = some n := by rw [List.getElem?_eq_getElem (by omega)]; exact congrArg some ej
        have := nodup_ix ndo en h2
        omega
      have stl : stillKV ((os.take i).map f) := stillKV_map (fun n => n) (fun n => PyData.int (L n)) (fun n => rfl) _
      have fin : ∀ H2, Same H'' H2 → sDPut (tVar 1) (tVar 2) (tC (.int (L n))) { nx := fun σ' H' => ∃ (o2 o3 o4 : Option V) (kvs : List (Key × V)), σ' = [some (.ref a), some (.ref pd), o2, o3, o4, none, none] ∧ Same H H' ∧ SqL K H' p (os.map V.str) ∧ H' pd = some (.dK kvs) ∧ KVD K H' kvs ((os.take (i + 1)).map f), rt := Q }
          [some (.ref a), some (.ref pd), some (.str n), some (.str (wordOf t)), some z, none, none] H2 := by
        intro H2 s22
        have s02 := s2.trans s22
        refine ⟨_, rfl, _, rfl, pd, _, rfl, DPut.k (k := Sum.inr n) (s22 _ _ hd2) (by rw [KVD.length rk, List.length_map, List.length_take]; exact small1000 (by have := pm.length_eq; rw [List.length_map] at this; have := g.n12; omega)), ?_⟩
        refine ⟨_, _, _, _, rfl, Same.mut s02 hpd, ?_, upd_same, ?_⟩
        · rcases s22.seq hos2 with (q | ⟨o, q⟩) | q
          · exact .inl (.inl (by rw [upd_ne hpp]; exact q))
          · exact .inl (.inr ⟨o, by rw [upd_ne hpp]; exact q⟩)
          · exact .inr q
        · have := kvd_snoc (s22 _ _ hd2) (KVD_same s22 rk) (lookup_mapf_none (fun n => PyData.int (L n)) nin) (Dp.int (L n : Int)) rfl stl
          rw [List.take_add_one, en, List.map_append]
          exact this
      refine ⟨_, rfl, _, rfl, a, .ref b, rfl, hg, b, _, rfl, hb, rfl, _, _, rfl, _, _, rfl, rfl, ?_⟩
      have eL := g.len n t et
      cases t with
      | mv m =>
        refine ⟨_, rfl, rfl, _, rfl, ?_⟩
        refine ite2 (fun _ => ?_) (fun e => absurd (decide_eq_true rfl) e)
        have := fin H'' (Same.refl _)
        rw [eL] at this
        exact this
      | wd ls =>
        refine ⟨_, rfl, rfl, _, rfl, ?_⟩
        refine ite2 (fun e => absurd (V.str.inj (of_decide_eq_true e)) word_ne) (fun _ => ?_)
        obtain ⟨la, xs, rfl, hla, hxs⟩ := dz.tup_of
        refine ⟨_, rfl, la, rfl, ⟨_, hla⟩, fun D hD => lc_map (K := K) hD (wk_tup (DpAll.paired hxs)) (fun l => PyData.int (L l.1)) (by have := g.ll n _ et; exact Nat.le_trans this (by decide)) (fun H' s => SqT_same s hla) (fun _ _ => rfl) ?_ ?_⟩
        · rintro x2 l H2 Kt r2 ml s22 k1
          obtain ⟨c, rfl, hc⟩ := dp_let r2
          obtain ⟨u2, eu2, du2⟩ := valV_kvd (KVD_same s22 rk) (n := l.1) (d := PyData.int (L l.1)) (lookup_mapf (fun n => PyData.int (L n)) (tp i n en l.1 ⟨_, et, List.mem_map.mpr ⟨l, ml, rfl⟩⟩))
          have hg2 : DGet H2 pd (.str l.1) (some u2) := by
            rw [← eu2]
            exact DGet.k (k := Sum.inr l.1) (s22 _ _ hd2)
          exact ⟨c, _, rfl, SqT_same s22 hc, rfl, _, _, rfl, _, _, rfl, rfl, rfl, _, rfl, _, rfl, pd, u2, rfl, hg2, k1 _ _ (Same.refl _) du2⟩
        · intro zs H2 s22 hz dzs
          have ez := DpAll.map_ints (ns := ls.map fun l => (L l.1 : Int)) (by rw [List.map_map]; exact dzs)
          subst ez
          refine ⟨D, _, rfl, SqL.of hz, ?_⟩
          have := fin H2 s22
          rw [eL] at this
          have es : (ls.map fun l => (L l.1 : Int)).sum = ((tlen (.wd ls) L : Nat) : Int) := by
            exact sum_cast L ls
          rw [es]
          exact this
    · rintro σ' H' ⟨o2, o3, o4, kvs, rfl, s2, _, hd2, rk⟩
      rw [List.take_length] at rk
      refine ⟨_, rfl, pd, _, rfl, hd2, True.intro, fun od => ?_⟩
      refine k os _ _ pm (Same.mut s2 hpd) ⟨pd, od, kvs, rfl, upd_same, KVD_keep (Keep.mut hd2 rfl) (stillKV_map (fun n => n) (fun n => PyData.int (L n)) (fun n => rfl) _) rk⟩
abbrev s_length_of : Stmt := (topS 34)
abbrev N_length_of : List Str := ["state", "name"]
abbrev P_length_of : List Str := ["state", "name"]
theorem sc_length_of : FnScope N_length_of P_length_of (defScope s_length_of) := ⟨rfl, rfl, rfl, by decide +kernel, rfl, by decide +kernel, by decide +kernel⟩
def spLengthOf (K : PySem.W.Frag) : Sp := fun vs H Q _ => ∃ (x : V) (n : Str) (st : Stt) (v : Str → Mv) (w L r : Str → Nat), vs = [x, .str n] ∧ StAt K H x st ∧ Good st v w L r ∧ n ∈ keysOf st ∧ ∀ H', Same H H' → Q (.int (L n)) H'
theorem ok_length_of (F : At K mg "length_of" s_length_of P_length_of) (C : Gs K mg) (D_need_name : Df P w K mg base 1 "need_name" P_need_name (spNeed K)) (D_lengths : Df P w K mg base 4 "lengths" P_lengths (spLengths K)) : Df P w K mg base 5 "length_of" P_length_of (spLengthOf K) := by
  refine F.ok sc_length_of (fun vs H Q E h => ?_) (fun f cdv A outer s H vs Q E hr h => ?_)
  · obtain ⟨x, n, st, v, w, L, r, rfl, _⟩ := h
    rfl
  · obtain ⟨x, n, st, v, wt, L, r, rfl, hx, g, hn, k⟩ := h
    have hu := hu_of hr
    obtain ⟨t, et⟩ := of_key hn
    refine ⟨_, (pss_cons (ps_expr (pe_df D_need_name (hr.mono (by decide)) (pa_cons (pv 0) (pa_cons (pv 1) pa_nil)))) (pss_one (ps_ret (pe_dget hu (pe_df D_lengths (hr.mono (by decide)) (pa_cons (pv 0) pa_nil)) (pv 1) (fun _ _ => rfl))))), ?_⟩
    refine ⟨_, rfl, _, rfl, x, st, n, t, rfl, hx, et, fun _ _ => ?_⟩
    refine ⟨_, rfl, x, st, v, wt, L, r, rfl, hx, g, fun os y H1 pm s1 dy => ?_⟩
    obtain ⟨a, u, rfl, hg, du⟩ := dy.get (lookup_mapf (fun n => PyData.int (L n)) (pm.mem_iff.mpr hn))
    cases du.int_eq
    exact ⟨_, rfl, a, _, rfl, hg, k H1 s1⟩
end
end Bk
set_option Elab.async false
set_option linter.all false
set_option maxRecDepth 100000
set_option maxHeartbeats 4000000
namespace Bk
open PySem PySem.Spec PyProof.Rows L2 Gap
def rLenR : List V → Hp → VK → Prop := fun xs H Q => ∃ a kvs, xs = [V.ref a] ∧ Rd H a (.dK kvs) ∧ Q (.int kvs.length) H
theorem k_lenR {X : Cx} : CallR X (.builtin "len") rLenR := by
  intro pins s σ H xs us Q I r h
  obtain ⟨a, kvs, rfl, ha, q⟩ := h
  obtain ⟨u, rfl, ru⟩ := vals1 r
  cases ru
  exact d_len I ha fun t s' I' => ⟨.int kvs.length, H, I', ⟨t, rfl⟩, q⟩
theorem bl_t {p : Prop} [Decidable p] (h : p) : V.bl (decide p) = V.bl true := by rw [decide_eq_true h]
theorem bl_f {p : Prop} [Decidable p] (h : ¬ p) : V.bl (decide p) = V.bl false := by rw [decide_eq_false h]
/-- a name: one to eight letters -/
def nameOk (n : Str) : Prop := 0 < n.length ∧ n.length ≤ 8 ∧ ∀ c ∈ n.cps.toList, c ∈ ("abcdefghijklmnopqrstuvwxyz" : Str).cps.toList
section
variable {P : Program} {w : World} {K : PySem.W.Frag} {mg : Str → Option Value} {base : Heap}
abbrev s_is_name : Stmt := (topS 41)
abbrev N_is_name : List Str := ["value", "sign"]
abbrev P_is_name : List Str := ["value"]
theorem sc_is_name : FnScope N_is_name P_is_name (defScope s_is_name) := ⟨rfl, rfl, rfl, by decide +kernel, rfl, by decide +kernel, by decide +kernel⟩
def spIsName : Sp := fun vs H Q _ => ∃ n, vs = [.str n] ∧ nameOk n ∧ ∀ H', Same H H' → Q (.bl true) H'
theorem ok_is_name (F : At K mg "is_name" s_is_name P_is_name) (C : Gs K mg) : Df P w K mg base 1 "is_name" P_is_name spIsName := by
  refine F.ok sc_is_name (fun vs H Q E h => ?_) (fun f cdv A outer s H vs Q E hr h => ?_)
  · obtain ⟨n, rfl, _⟩ := h
    rfl
  · obtain ⟨n, rfl, ⟨h1, h2, h3⟩, k⟩ := h
    have hz : n.length ≤ sizeLine := Nat.le_trans h2 (by decide)
    refine ⟨_, (pss_cons (ps_if (PW.pt (pw_or (pt_not (pt_val (pe_callB (k_isi (K := K) rfl) (by rfl) C.isinstance (by decide +kernel) (pa_cons (pv 0) (pa_cons (pe_bltn (v := .ty "str") (by rfl) C.b_str (by decide +kernel) rfl) pa_nil))))) (pw_or1 (pt_not (pt_chain op_lt op_le pe_int (pe_callB (k_len (K := K) rfl) (by rfl) C.len (by decide +kernel) (pa_cons (pv 0) pa_nil)) (pe_globE rfl C.MOST_SIGNS)))))) (pss_one (ps_ret pe_bl)) pss_nil) (pss_one (ps_ret (pe_callB (k_all (K := K) rfl rfl) (by rfl) C.b_all (by decide +kernel) (pa_cons (pe_lc (own := [("sign", 1)]) (g := gName 1) (tt := tYes) rfl sc_is_name.nd (pi_str (pv 0)) (blkOk_by (own := [("sign", 1)]) (N := N_is_name) (sc := (defScope s_is_name)) (by decide +kernel)) (fun _ _ _ _ _ => (pg_name (i := 1) sc_is_name.nd rfl (Or.inl rfl))) (fun _ _ _ _ _ => pts_nil) (fun _ _ _ _ _ => (pe_cmpR op_in_sign (pv 1) (pe_globE rfl C.LETTERS) (by rfl)))) pa_nil))))), ?_⟩
    refine ⟨_, rfl, .str n, .ty "str", .type "str", .type "str", true, rfl, .ty _, .base (.str _), kit_ty (by decide +kernel), true, rfl, ?_⟩
    refine iteF ?_
    refine ⟨_, rfl, .str n, n.length, rfl, ⟨hz, rfl⟩, _, _, rfl, rfl, true, bl_t (by omega), ?_⟩
    refine iteT ?_
    refine ⟨_, _, rfl, rfl, true, bl_t (by omega), ?_⟩
    refine iteF ?_
    refine ⟨_, rfl, n, rfl, fun D hD => lc_map (K := K) hD wk_str (fun _ => PyData.bool true) (by rw [Array.length_toList]; exact Nat.le_trans h2 (by decide)) (fun _ _ => True.intro) (fun _ _ => rfl) ?_ ?_⟩
    · rintro x c H' Kt rfl m s1 k1
      refine ⟨rfl, _, rfl, c, _, rfl, rfl, ?_⟩
      rw [decide_eq_true (h3 c m)]
      exact k1 _ _ (Same.refl _) (.bl _)
    · intro ys H' s1 hy dy
      have e := DpAll.map_bools (ns := n.cps.toList.map fun _ => true) (by rw [List.map_map]; exact dy)
      subst e
      refine ⟨D, _, rfl, SqL.of hy, ?_⟩
      rw [show ((n.cps.toList.map fun _ => true).all id) = true from by simp]
      exact k H' s1
abbrev s_is_pair : Stmt := (topS 42)
abbrev N_is_pair : List Str := ["value"]
abbrev P_is_pair : List Str := ["value"]
theorem sc_is_pair : FnScope N_is_pair P_is_pair (defScope s_is_pair) := ⟨rfl, rfl, rfl, by decide +kernel, rfl, by decide +kernel, by decide +kernel⟩
def spIsPair (K : PySem.W.Frag) : Sp := fun vs H Q _ => ∃ (v : V) (l : Str × Int), vs = [v] ∧ Dp K H v (letD l) ∧ (l.2 = 1 ∨ l.2 = -1) ∧ ∀ H', Same H H' → Q (.bl true) H'
theorem inV_sign {i : Int} (h : i = 1 ∨ i = -1) : inV (.int i) [.int 1, .int (-1)] = true := by
  rcases h with rfl | rfl <;> decide
theorem ok_is_pair (F : At K mg "is_pair" s_is_pair P_is_pair) (C : Gs K mg) (D_is_number : Df P w K mg base 1 "is_number" P_is_number spIsNumber) : Df P w K mg base 2 "is_pair" P_is_pair (spIsPair K) := by
  refine F.ok sc_is_pair (fun vs H Q E h => ?_) (fun f cdv A outer s H vs Q E hr h => ?_)
  · obtain ⟨v, l, rfl, _⟩ := h
    rfl
  · obtain ⟨v, l, rfl, hv, hs, k⟩ := h
    obtain ⟨a, rfl, ha⟩ := dp_let hv
    refine ⟨_, (pss_one (ps_ret (pe_and (pe_callB (k_isi (K := K) rfl) (by rfl) C.isinstance (by decide +kernel) (pa_cons (pv 0) (pa_cons (pe_bltn (v := .ty "tuple") (by rfl) C.b_tuple (by decide +kernel) rfl) pa_nil))) (pe_and (pe_cmpR op_eq (pe_callB (k_len (K := K) rfl) (by rfl) C.len (by decide +kernel) (pa_cons (pv 0) pa_nil)) pe_int (nomark _)) (pe_and (pe_df D_is_number (hr.mono (by decide)) (pa_cons (pe_ix (k_ix_tup (K := K) rfl) (pv 0) pe_int (fun _ _ => rfl)) pa_nil)) (pe_one (pe_cmpR (k_in_seq (K := K) rfl) (pe_ix (k_ix_tup (K := K) rfl) (pv 0) pe_int (fun _ _ => rfl)) (pe_tup (pa_cons pe_int (pa_cons (pe_un un_neg pe_int) pa_nil))) (by rfl)))))))), ?_⟩
    refine ⟨_, rfl, .ref a, .ty "tuple", .type "tuple", .type "tuple", true, rfl, .ty _, ty_tup ha, kit_ty (by decide +kernel), true, rfl, ?_⟩
    refine iteT ?_
    refine ⟨_, rfl, .ref a, 2, rfl, len_tup ha rfl, rfl, true, rfl, ?_⟩
    refine iteT ?_
    refine ⟨_, rfl, a, _, _, _, rfl, rfl, ha, atI_nat (j := 1) rfl, l.2, rfl, true, rfl, ?_⟩
    refine iteT ?_
    refine ⟨_, rfl, a, _, _, _, rfl, rfl, ha, atI_nat (j := 1) rfl, ?_⟩
    refine ⟨_, rfl, by show 2 ≤ sizeLine; decide, fun q hq => ⟨q, _, rfl, .inr (SqT.of upd_same), rfl, rfl, ?_⟩⟩
    show Q (.bl (if false = true then !inV (.int l.2) [.int 1, .int (-1)] else inV (.int l.2) [.int 1, .int (-1)])) _
    rw [if_neg (show ¬ false = true by decide), inV_sign hs]
    exact k _ (Same.new hq)
abbrev s_are_letters : Stmt := (topS 43)
abbrev N_are_letters : List Str := ["value", "one"]
abbrev P_are_letters : List Str := ["value"]
theorem sc_are_letters : FnScope N_are_letters P_are_letters (defScope s_are_letters) := ⟨rfl, rfl, rfl, by decide +kernel, rfl, by decide +kernel, by decide +kernel⟩
def spAreLetters (K : PySem.W.Frag) : Sp := fun vs H Q _ => ∃ (v : V) (ls : List (Str × Int)), vs = [v] ∧ Dp K H v (.tuple (ls.map letD)) ∧ ls.length ≤ 12 ∧ (∀ l ∈ ls, l.2 = 1 ∨ l.2 = -1) ∧ ∀ H', Same H H' → Q (.bl true) H'
theorem ok_are_letters (F : At K mg "are_letters" s_are_letters P_are_letters) (C : Gs K mg) (D_is_pair : Df P w K mg base 2 "is_pair" P_is_pair (spIsPair K)) : Df P w K mg base 3 "are_letters" P_are_letters (spAreLetters K) := by
  refine F.ok sc_are_letters (fun vs H Q E h => ?_) (fun f cdv A outer s H vs Q E hr h => ?_)
  · obtain ⟨v, ls, rfl, _⟩ := h
    rfl
  · obtain ⟨v, ls, rfl, hv, hl, hs, k⟩ := h
    obtain ⟨a, xs, rfl, ha, hx⟩ := hv.tup_of
    have exl : xs.length = ls.length := by rw [DpAll.length hx, List.length_map]
    refine ⟨_, (pss_one (ps_ret (pe_and (pe_callB (k_isi (K := K) rfl) (by rfl) C.isinstance (by decide +kernel) (pa_cons (pv 0) (pa_cons (pe_bltn (v := .ty "tuple") (by rfl) C.b_tuple (by decide +kernel) rfl) pa_nil))) (pe_and (pe_cmpR op_le (pe_callB (k_len (K := K) rfl) (by rfl) C.len (by decide +kernel) (pa_cons (pv 0) pa_nil)) (pe_globE rfl C.MOST_LETTERS) (nomark _)) (pe_one (pe_callB (k_all (K := K) rfl rfl) (by rfl) C.b_all (by decide +kernel) (pa_cons (pe_lc (own := [("one", 1)]) (g := gName 1) (tt := tYes) rfl sc_are_letters.nd (k_pi_tup (K := K) rfl (pv 0)) (blkOk_by (own := [("one", 1)]) (N := N_are_letters) (sc := (defScope s_are_letters)) (by decide +kernel)) (fun _ _ _ _ _ => (pg_name (i := 1) sc_are_letters.nd rfl (Or.inl rfl))) (fun _ _ _ _ _ => pts_nil) (fun _ _ _ _ _ => (pe_df D_is_pair (hr.mono (by decide)) (pa_cons (pv 1) pa_nil)))) pa_nil))))))), ?_⟩
    refine ⟨_, rfl, .ref a, .ty "tuple", .type "tuple", .type "tuple", true, rfl, .ty _, ty_tup ha, kit_ty (by decide +kernel), true, rfl, ?_⟩
    refine iteT ?_
    refine ⟨_, rfl, .ref a, xs.length, rfl, len_tup ha rfl, _, _, rfl, rfl, true, bl_t (by omega), ?_⟩
    refine iteT ?_
    refine ⟨_, rfl, a, rfl, ⟨_, ha⟩, fun D hD => lc_map (K := K) hD (wk_tup (DpAll.paired hx)) (fun _ => PyData.bool true) (by omega) (fun H' s => SqT_same s ha) (fun _ _ => rfl) ?_ ?_⟩
    · rintro x l H' Kt r m s1 k1
      exact ⟨rfl, _, rfl, x, l, rfl, Dp_same s1 _ r, hs l m, fun H2 s2 => k1 _ _ s2 (.bl _)⟩
    · intro ys H' s1 hy dy
      have e := DpAll.map_bools (ns := ls.map fun _ => true) (by rw [List.map_map]; exact dy)
      subst e
      refine ⟨D, _, rfl, SqL.of hy, ?_⟩
      rw [show ((ls.map fun _ => true).all id) = true from by simp]
      exact k H' s1
end
/-! ### deeds -/
inductive Deed where
  | set (n : Str) (m : Mv)
  | word (n : Str) (ls : List (Str × Int))
  | fix (n : Str) (m : Mv)
  | call (n m : Str)
def deedD : Deed → PyData
  | .set n m => .tuple [.str "set", .str n, mvD m]
  | .word n ls => .tuple [.str "word", .str n, .tuple (ls.map letD)]
  | .fix n _ => .tuple [.str "fix", .str n]
  | .call n m => .tuple [.str "call", .str n, .str m]
def DForm : Deed → Prop
  | .set _ m => m.ok ∧ ∃ b, bnd m b ∧ b ≤ 8000
  | .word _ ls => ls.length ≤ 12 ∧ ∀ l ∈ ls, l.2 = 1 ∨ l.2 = -1
  | _ => True
theorem dp2 {K : PySem.W.Frag} {H : Hp} {v : V} {x n : Str} (h : Dp K H v (.tuple [.str x, .str n])) : ∃ a, v = .ref a ∧ SqT K H a [.str x, .str n] := by
  cases h with | tup q r => cases r with | cons r1 r => cases r with | cons r2 r => cases r; rw [r1.str_eq, r2.str_eq] at q; exact ⟨_, rfl, q⟩
theorem dp3 {K : PySem.W.Frag} {H : Hp} {v : V} {x n : Str} {d : PyData} (h : Dp K H v (.tuple [.str x, .str n, d])) : ∃ a y, v = .ref a ∧ SqT K H a [.str x, .str n, y] ∧ Dp K H y d := by
  cases h with | tup q r => cases r with | cons r1 r => cases r with | cons r2 r => cases r with | cons r3 r => cases r; rw [r1.str_eq, r2.str_eq] at q; exact ⟨_, _, rfl, q, r3⟩
section
variable {P : Program} {w : World} {K : PySem.W.Frag} {mg : Str → Option Value} {base : Heap}
abbrev s_has_form : Stmt := (topS 44)
abbrev N_has_form : List Str := ["deed", "word", "parts"]
abbrev P_has_form : List Str := ["deed"]
theorem sc_has_form : FnScope N_has_form P_has_form (defScope s_has_form) := ⟨rfl, rfl, rfl, by decide +kernel, rfl, by decide +kernel, by decide +kernel⟩
def spHasForm (K : PySem.W.Frag) : Sp := fun vs H Q _ => ∃ (v : V) (dd : Deed), vs = [v] ∧ Dp K H v (deedD dd) ∧ DForm dd ∧ ∀ H', Same H H' → Q (.bl true) H'
theorem ok_has_form (F : At K mg "has_form" s_has_form P_has_form) (C : Gs K mg) (D_is_move : Df P w K mg base 3 "is_move" P_is_move (spIsMove K)) (D_are_letters : Df P w K mg base 3 "are_letters" P_are_letters (spAreLetters K)) : Df P w K mg base 4 "has_form" P_has_form (spHasForm K) := by
  refine F.ok sc_has_form (fun vs H Q E h => ?_) (fun f cdv A outer s H vs Q E hr h => ?_)
  · obtain ⟨v, dd, rfl, _⟩ := h
    rfl
  · obtain ⟨v, dd, rfl, hv, hf, k⟩ := h
    refine ⟨_, (pss_cons (ps_if (PW.pt (pw_or (pt_not (pt_val (pe_callB (k_isi (K := K) rfl) (by rfl) C.isinstance (by decide +kernel) (pa_cons (pv 0) (pa_cons (pe_bltn (v := .ty "tuple") (by rfl) C.b_tuple (by decide +kernel) rfl) pa_nil))))) (pw_or (pt_cmpR op_lt (pe_callB (k_len (K := K) rfl) (by rfl) C.len (by decide +kernel) (pa_cons (pv 0) pa_nil)) pe_int (nomark _)) (pw_or1 (pt_not (pt_val (pe_callB (k_isi (K := K) rfl) (by rfl) C.isinstance (by decide +kernel) (pa_cons (pe_ix (k_ix_tup (K := K) rfl) (pv 0) pe_int (fun _ _ => rfl)) (pa_cons (pe_bltn (v := .ty "str") (by rfl) C.b_str (by decide +kernel) rfl) pa_nil))))))))) (pss_one (ps_ret pe_bl)) pss_nil) (pss_cons (ps_par (i := 1) (j := 2) rfl sc_has_form.nd rfl rfl (by decide) rfl rfl (pa_cons (pe_ix (k_ix_tup (K := K) rfl) (pv 0) pe_int (fun _ _ => rfl)) (pa_cons (pe_slice (k_sl_tup (K := K) rfl) (pv 0) (po_some pe_int) po_none) pa_nil)) (by rfl)) (pss_cons (ps_if (pt_cmpR (k_in_seq (K := K) rfl) (pv 1) (pe_tup (pa_cons pe_str (pa_cons pe_str pa_nil))) (by rfl)) (pss_one (ps_ret (pe_cmpR (k_eqD (K := K) rfl hr.units64) (pv 2) (pe_tup pa_nil) (nomark _)))) pss_nil) (pss_cons (ps_if (pt_cmpR op_ne (pe_callB (k_len (K := K) rfl) (by rfl) C.len (by decide +kernel) (pa_cons (pv 2) pa_nil)) pe_int (nomark _)) (pss_one (ps_ret pe_bl)) pss_nil) (pss_cons (ps_if (pt_cmpR op_eq (pv 1) pe_str (nomark _)) (pss_one (ps_ret (pe_df D_is_move (hr.mono (by decide)) (pa_cons (pe_ix (k_ix_tup (K := K) rfl) (pv 2) pe_int (fun _ _ => rfl)) pa_nil)))) pss_nil) (pss_one (ps_ret (pe_or (pe_cmpR op_eq (pv 1) pe_str (nomark _)) (pe_one (pe_and (pe_cmpR op_eq (pv 1) pe_str (nomark _)) (pe_one (pe_df D_are_letters (hr.mono (by decide)) (pa_cons (pe_ix (k_ix_tup (K := K) rfl) (pv 2) pe_int (fun _ _ => rfl)) pa_nil))))))))))))), ?_⟩
    cases dd with
    | set n m =>
      obtain ⟨a, y, rfl, ha, dy⟩ := dp3 hv
      obtain ⟨ok, b, hb, hb2⟩ := hf
      refine ⟨_, rfl, .ref a, .ty "tuple", .type "tuple", .type "tuple", true, rfl, .ty _, ty_tup ha, kit_ty (by decide +kernel), true, rfl, ?_⟩
      refine iteF ?_
      refine ⟨_, rfl, .ref a, 3, rfl, len_tup ha rfl, _, _, rfl, rfl, false, rfl, ?_⟩
      refine iteF ?_
      refine ⟨_, rfl, a, _, _, _, rfl, rfl, ha, atI_nat (j := 0) rfl, .str "set", .ty "str", .type "str", .type "str", true, rfl, .ty _, .base (.str _), kit_ty (by decide +kernel), true, rfl, ?_⟩
      refine iteF ?_
      refine ⟨_, rfl, a, _, _, _, rfl, rfl, ha, atI_nat (j := 0) rfl, _, rfl, _, rfl, a, _, rfl, ha, fun z => absurd z.1 (show ¬ HT.sIx 3 0 (some 2) = 0 by decide), fun _ p hp => ⟨_, _, rfl, ?_⟩⟩
      refine ⟨_, rfl, by show 2 ≤ sizeLine; decide, fun q hq => ⟨q, _, rfl, .inr (SqT.of upd_same), rfl, rfl, false, by decide +kernel, ?_⟩⟩
      refine iteF ?_
      have hp2 : (upd (upd H p (.tup (cutV [.str "set", .str n, y] (some 2) none))) q (.tup [.str "fix", .str "drop"])) p = some (.tup [y]) := Same.new hq _ _ upd_same
      have s2 := (Same.new (o := .tup (cutV [.str "set", .str n, y] (some 2) none)) hp).trans (Same.new (o := .tup [.str "fix", .str "drop"]) hq)
      refine ⟨_, rfl, .ref p, 1, rfl, len_tup (SqT.of hp2) rfl, rfl, false, rfl, ?_⟩
      refine iteF ?_
      refine ⟨_, rfl, rfl, _, rfl, ?_⟩
      refine ite2 (fun _ => ?_) (fun e => absurd (decide_eq_true rfl) e)
      exact ⟨_, rfl, p, _, _, _, rfl, rfl, SqT.of hp2, atI_nat (j := 0) rfl, y, m, b, rfl, Dp_same s2 _ dy, ok, hb, hb2, fun H' s3 => k H' (s2.trans s3)⟩
    | word n ls =>
      obtain ⟨a, y, rfl, ha, dy⟩ := dp3 hv
      obtain ⟨hl, hs⟩ := hf
      refine ⟨_, rfl, .ref a, .ty "tuple", .type "tuple", .type "tuple", true, rfl, .ty _, ty_tup ha, kit_ty (by decide +kernel), true, rfl, ?_⟩
      refine iteF ?_
      refine ⟨_, rfl, .ref a, 3, rfl, len_tup ha rfl, _, _, rfl, rfl, false, rfl, ?_⟩
      refine iteF ?_
      refine ⟨_, rfl, a, _, _, _, rfl, rfl, ha, atI_nat (j := 0) rfl, .str "word", .ty "str", .type "str", .type "str", true, rfl, .ty _, .base (.str _), kit_ty (by decide +kernel), true, rfl, ?_⟩
      refine iteF ?_
      refine ⟨_, rfl, a, _, _, _, rfl, rfl, ha, atI_nat (j := 0) rfl, _, rfl, _, rfl, a, _, rfl, ha, fun z => absurd z.1 (show ¬ HT.sIx 3 0 (some 2) = 0 by decide), fun _ p hp => ⟨_, _, rfl, ?_⟩⟩
      refine ⟨_, rfl, by show 2 ≤ sizeLine; decide, fun q hq => ⟨q, _, rfl, .inr (SqT.of upd_same), rfl, rfl, false, by decide +kernel, ?_⟩⟩
      refine iteF ?_
      have hp2 : (upd (upd H p (.tup (cutV [.str "word", .str n, y] (some 2) none))) q (.tup [.str "fix", .str "drop"])) p = some (.tup [y]) := Same.new hq _ _ upd_same
      have s2 := (Same.new (o := .tup (cutV [.str "word", .str n, y] (some 2) none)) hp).trans (Same.new (o := .tup [.str "fix", .str "drop"]) hq)
      refine ⟨_, rfl, .ref p, 1, rfl, len_tup (SqT.of hp2) rfl, rfl, false, rfl, ?_⟩
      refine iteF ?_
      refine ⟨_, rfl, rfl, false, by decide +kernel, ?_⟩
      refine iteF ?_
      refine ⟨_, rfl, rfl, false, by decide +kernel, ?_⟩
      refine iteF ?_
      refine ⟨_, rfl, rfl, _, rfl, ?_⟩
      refine ite2 (fun _ => ?_) (fun e => absurd (decide_eq_true rfl) e)
      exact ⟨_, rfl, p, _, _, _, rfl, rfl, SqT.of hp2, atI_nat (j := 0) rfl, y, ls, rfl, Dp_same s2 _ dy, hl, hs, fun H' s3 => k H' (s2.trans s3)⟩
    | fix n m0 =>
      obtain ⟨a, rfl, ha⟩ := dp2 hv
      refine ⟨_, rfl, .ref a, .ty "tuple", .type "tuple", .type "tuple", true, rfl, .ty _, ty_tup ha, kit_ty (by decide +kernel), true, rfl, ?_⟩
      refine iteF ?_
      refine ⟨_, rfl, .ref a, 2, rfl, len_tup ha rfl, _, _, rfl, rfl, false, rfl, ?_⟩
      refine iteF ?_
      refine ⟨_, rfl, a, _, _, _, rfl, rfl, ha, atI_nat (j := 0) rfl, .str "fix", .ty "str", .type "str", .type "str", true, rfl, .ty _, .base (.str _), kit_ty (by decide +kernel), true, rfl, ?_⟩
      refine iteF ?_
      refine ⟨_, rfl, a, _, _, _, rfl, rfl, ha, atI_nat (j := 0) rfl, _, rfl, _, rfl, a, _, rfl, ha, fun z => absurd z.1 (show ¬ HT.sIx 2 0 (some 2) = 0 by decide), fun _ p hp => ⟨_, _, rfl, ?_⟩⟩
      refine ⟨_, rfl, by show 2 ≤ sizeLine; decide, fun q hq => ⟨q, _, rfl, .inr (SqT.of upd_same), rfl, rfl, true, by decide +kernel, ?_⟩⟩
      refine iteT ?_
      have hp2 : (upd (upd H p (.tup (cutV [.str "fix", .str n] (some 2) none))) q (.tup [.str "fix", .str "drop"])) p = some (.tup []) := Same.new hq _ _ upd_same
      have s2 := (Same.new (o := .tup (cutV [.str "fix", .str n] (some 2) none)) hp).trans (Same.new (o := .tup [.str "fix", .str "drop"]) hq)
      refine ⟨_, rfl, Nat.zero_le _, fun q2 hq2 => ⟨.tuple [], .tuple [], .tup (SqT.of (Same.new hq2 _ _ hp2)) .nil, .tup (SqT.of upd_same) .nil, rfl, rfl, ?_⟩⟩
      exact k _ (s2.trans (Same.new hq2))
    | call n m =>
      obtain ⟨a, y, rfl, ha, dy⟩ := dp3 hv
      refine ⟨_, rfl, .ref a, .ty "tuple", .type "tuple", .type "tuple", true, rfl, .ty _, ty_tup ha, kit_ty (by decide +kernel), true, rfl, ?_⟩
      refine iteF ?_
      refine ⟨_, rfl, .ref a, 3, rfl, len_tup ha rfl, _, _, rfl, rfl, false, rfl, ?_⟩
      refine iteF ?_
      refine ⟨_, rfl, a, _, _, _, rfl, rfl, ha, atI_nat (j := 0) rfl, .str "call", .ty "str", .type "str", .type "str", true, rfl, .ty _, .base (.str _), kit_ty (by decide +kernel), true, rfl, ?_⟩
      refine iteF ?_
      refine ⟨_, rfl, a, _, _, _, rfl, rfl, ha, atI_nat (j := 0) rfl, _, rfl, _, rfl, a, _, rfl, ha, fun z => absurd z.1 (show ¬ HT.sIx 3 0 (some 2) = 0 by decide), fun _ p hp => ⟨_, _, rfl, ?_⟩⟩
      refine ⟨_, rfl, by show 2 ≤ sizeLine; decide, fun q hq => ⟨q, _, rfl, .inr (SqT.of upd_same), rfl, rfl, false, by decide +kernel, ?_⟩⟩
      refine iteF ?_
      have hp2 : (upd (upd H p (.tup (cutV [.str "call", .str n, y] (some 2) none))) q (.tup [.str "fix", .str "drop"])) p = some (.tup [y]) := Same.new hq _ _ upd_same
      have s2 := (Same.new (o := .tup (cutV [.str "call", .str n, y] (some 2) none)) hp).trans (Same.new (o := .tup [.str "fix", .str "drop"]) hq)
      refine ⟨_, rfl, .ref p, 1, rfl, len_tup (SqT.of hp2) rfl, rfl, false, rfl, ?_⟩
      refine iteF ?_
      refine ⟨_, rfl, rfl, false, by decide +kernel, ?_⟩
      refine iteF ?_
      refine ⟨_, rfl, rfl, _, rfl, ?_⟩
      refine ite2 (fun _ => ?_) (fun e => absurd (decide_eq_true rfl) e)
      exact k _ s2
end
end Bk
set_option Elab.async false
set_option linter.all false
set_option maxRecDepth 100000
set_option maxHeartbeats 4000000
namespace Bk
open PySem PySem.Spec PyProof.Rows L2 Gap
/-! ### states set anew, called anew -/
structure Put (st : Stt) (n : Str) (t : Told) (st' : Stt) : Prop where
  nd : (keysOf st').Nodup
  srt : sortedS (keysOf st') = true
  lk : ∀ x, st'.lookup x = if x = n then some t else st.lookup x
def ren (o n : Str) : Told → Told
  | .mv m => .mv m
  | .wd ls => .wd (ls.map fun l => (if l.1 = o then n else l.1, l.2))
structure Called (st : Stt) (o n : Str) (st' : Stt) : Prop where
  nd : (keysOf st').Nodup
  srt : sortedS (keysOf st') = true
  lk : ∀ x, st'.lookup x = if x = n then (st.lookup o).map (ren o n) else if x = o then none else (st.lookup x).map (ren o n)
theorem key_iff {st : Stt} {x : Str} : x ∈ keysOf st ↔ (st.lookup x).isSome = true := by
  constructor
  · intro h
    obtain ⟨t, e⟩ := of_key h
    rw [e]; rfl
  · intro h
    cases e : st.lookup x with
    | none => rw [e] at h; cases h
    | some t => exact key_of e
theorem Put.keys {st st' : Stt} {n : Str} {t : Told} (p : Put st n t st') (x : Str) : x ∈ keysOf st' ↔ x = n ∨ x ∈ keysOf st := by
  rw [key_iff, p.lk, key_iff]
  by_cases e : x = n
  · rw [if_pos e]
    exact ⟨fun _ => .inl e, fun _ => rfl⟩
  · rw [if_neg e]
    exact ⟨.inr, fun h => h.resolve_left e⟩
theorem mergeK_nil {kvs : List (Key × V)} (nd : (kvs.map (·.1)).Nodup) : mergeK [] kvs = kvs := by
  have h : ∀ (more acc : List (Key × V)), ((acc ++ more).map (·.1)).Nodup → mergeK acc more = acc ++ more := by
    intro more
    induction more with
    | nil => intro acc _; rw [List.append_nil]; rfl
    | cons p r ih =>
      intro acc nd
      have nin : p.1 ∉ acc.map (·.1) := by
        rw [List.map_append, List.nodup_append] at nd
        exact fun z => nd.2.2 _ z _ (by rw [List.map_cons]; exact List.mem_cons_self) rfl
      have nw : valV acc p.1 = none := by
        cases e : valV acc p.1 with
        | none => rfl
        | some u => exact absurd (valV_in e) nin
      show mergeK (putK acc p.1 p.2) r = _
      rw [putK_new _ nw, ih _ (by rw [List.append_assoc]; exact nd), List.append_assoc]
      rfl
  have := h kvs [] nd
  simpa using this
theorem nodup_inr {l : List Str} (h : l.Nodup) : (l.map (Sum.inr : Str → Key)).Nodup := by
  rw [List.nodup_iff_pairwise_ne] at h ⊢
  rw [List.pairwise_map]
  exact h.imp fun hab z => hab (Sum.inr.inj z)
theorem filter_all {α : Type} (l : List α) : (l.filter fun _ => true) = l := List.filter_eq_self.mpr fun _ _ => rfl
/-- the letters of what a name stands for, as an expression -/
theorem letters_if {K : PySem.W.Frag} {σ : L2.St} {H : Hp} {i : Nat} {u : V} {t : Told} {R : VK} (h : σ[i]? = some (some u)) (dt : Dp K H u (toldD t)) (k : ∀ la xs H', Same H H' → SqT K H' la xs → DpAll K H' xs ((lettersOf t).map letD) → R (.ref la) H') :
    tIf (tTest (tOp rEq (tOp (rIxT K) (tVar i) (tC (.int 0))) (tC (.str "word")))) (tOp (rIxT K) (tVar i) (tC (.int 1))) (tTup tNil) σ H R := by
  cases t with
  | mv m =>
    obtain ⟨a, y, rfl, ha, _⟩ := dp_tmv dt
    refine ⟨_, h, a, _, _, _, rfl, rfl, ha, rfl, rfl, _, rfl, ?_⟩
    rw [not_word]
    refine iteF ?_
    exact ⟨Nat.zero_le _, fun p hp => k p [] _ (Same.new hp) (SqT.of upd_same) .nil⟩
  | wd ls =>
    obtain ⟨a, b, xs, rfl, ha, hb, hx⟩ := dp_twd dt
    refine ⟨_, h, a, _, _, _, rfl, rfl, ha, rfl, rfl, _, rfl, ?_⟩
    rw [is_word]
    refine iteT ?_
    exact ⟨_, h, a, _, _, _, rfl, rfl, ha, rfl, k b xs H (Same.refl _) hb hx⟩
section
variable {P : Program} {w : World} {K : PySem.W.Frag} {mg : Str → Option Value} {base : Heap}
abbrev s_placed : Stmt := (topS 45)
abbrev N_placed : List Str := ["state", "name", "told", "found", "one"]
abbrev P_placed : List Str := ["state", "name", "told"]
theorem sc_placed : FnScope N_placed P_placed (defScope s_placed) := ⟨rfl, rfl, rfl, by decide +kernel, rfl, by decide +kernel, by decide +kernel⟩
def spPlaced (K : PySem.W.Frag) : Sp := fun vs H Q _ => ∃ (x u : V) (st : Stt) (n : Str) (t : Told), vs = [x, .str n, u] ∧ StAt K H x st ∧ Dp K H u (toldD t) ∧ (keysOf st).Nodup ∧ st.length ≤ 40 ∧
  ∀ y st' H', Same H H' → StAt K H' y st' → Put st n t st' → Q y H'
theorem ok_placed (F : At K mg "placed" s_placed P_placed) (C : Gs K mg) : Df P w K mg base 1 "placed" P_placed (spPlaced K) := by
  refine F.ok sc_placed (fun vs H Q E h => ?_) (fun f cdv A outer s H vs Q E hr h => ?_)
  · obtain ⟨x, u, st, n, t, rfl, _⟩ := h
    rfl
  · obtain ⟨x, u, st, n, t, rfl, hx, dt, nd, len, k⟩ := h
    have hu := hu_of hr
    obtain ⟨d, od, kvs, rfl, hd, hkv⟩ := hx
    have ek : kvs.map (·.1) = (keysOf st).map Sum.inr := by
      have := hkv.keys
      rw [stD_keys] at this
      exact this
    have kl : kvs.length = st.length := by
      have := congrArg List.length ek
      simpa using this
    have ndk : (kvs.map (·.1)).Nodup := by rw [ek]; exact nodup_inr nd
    refine ⟨_, (pss_cons (ps_set (i := 3) sc_placed.nd rfl (Or.inr rfl) (pe_mgK (pv 0) (pv 1) (pv 2))) (pss_one (ps_ret (pe_frz (pe_dc (own := [("one", 4)]) (g := gName 4) (tt := tYes) rfl sc_placed.nd (k_pi_list (K := K) rfl (pe_callB (k_sortedD rfl) (by rfl) C.sorted (by decide +kernel) (pa_cons (pv 3) pa_nil))) (blkOk_by (own := [("one", 4)]) (N := N_placed) (sc := (defScope s_placed)) (by decide +kernel)) (fun _ _ _ _ _ => (pg_name (i := 4) sc_placed.nd rfl (Or.inl rfl))) (fun _ _ _ _ _ => pts_nil) (fun _ _ _ _ _ => (pv 4)) (fun _ _ _ _ _ => (pe_dget hu (pv 3) (pv 4) (fun _ _ => rfl)))))))), ?_⟩
    intro p hp
    have dp : p ≠ d := fun z => by rw [z] at hp; rw [hp] at hd; cases hd
    refine ⟨_, rfl, d, kvs, rfl, dp, upd_same, .inr ⟨od, Same.new hp _ _ hd⟩, by rw [kl]; exact small1000 (by omega), fun q qp hq => ?_⟩
    have hq0 : H q = none := by rw [upd_ne qp] at hq; exact hq
    refine ⟨_, rfl, _, rfl, Sum.inr n, rfl, ?_⟩
    rw [mergeK_nil ndk]
    refine ⟨by rw [upd_ne qp.symm, upd_same], upd_same, ?_⟩
    have s1 : Same H (upd (upd (upd (upd (upd H p (.dK [])) p (.dK kvs)) q (.dK [])) q (.dK [(Sum.inr n, u)])) p (.dK (putK kvs (Sum.inr n) u))) := by
      intro a o e
      have ap : a ≠ p := ne_of_none e hp
      have aq : a ≠ q := ne_of_none e hq0
      rw [upd_ne ap, upd_ne aq, upd_ne aq, upd_ne ap, upd_ne ap]
      exact e
    have h1 : (upd (upd (upd (upd (upd H p (.dK [])) p (.dK kvs)) q (.dK [])) q (.dK [(Sum.inr n, u)])) p (.dK (putK kvs (Sum.inr n) u))) p = some (.dK (putK kvs (Sum.inr n) u)) := upd_same
    generalize upd (upd (upd (upd (upd H p (.dK [])) p (.dK kvs)) q (.dK [])) q (.dK [(Sum.inr n, u)])) p (.dK (putK kvs (Sum.inr n) u)) = H1 at s1 h1
    let ks : List Str := if n ∈ keysOf st then keysOf st else keysOf st ++ [n]
    have eks : (putK kvs (Sum.inr n) u).map (·.1) = ks.map Sum.inr := by
      rw [keys_putK, ek]
      show _ = (if n ∈ keysOf st then keysOf st else keysOf st ++ [n]).map Sum.inr
      by_cases h : n ∈ keysOf st
      · rw [if_pos h, if_pos (List.mem_map.mpr ⟨_, h, rfl⟩)]
      · rw [if_neg h, if_neg (fun z => by obtain ⟨m, hm, e⟩ := List.mem_map.mp z; exact h (Sum.inr.inj e ▸ hm)), List.map_append]
        rfl
    have ksn : ks.Nodup := by
      show (if n ∈ keysOf st then keysOf st else keysOf st ++ [n]).Nodup
      split
      · exact nd
      · rename_i h
        rw [List.nodup_append]
        refine ⟨nd, by simp, fun a ha b hb => ?_⟩
        rw [List.mem_singleton] at hb
        subst hb
        exact fun z => h (z ▸ ha)
    have ksl : ks.length ≤ 41 := by
      show (if n ∈ keysOf st then keysOf st else keysOf st ++ [n]).length ≤ 41
      split
      · rw [List.length_map]; omega
      · rw [List.length_append, List.length_map, List.length_singleton]; omega
    have ksm : ∀ x, x ∈ ks ↔ x = n ∨ x ∈ keysOf st := fun x => by
      show x ∈ (if n ∈ keysOf st then keysOf st else keysOf st ++ [n]) ↔ _
      split
      · rename_i h
        exact ⟨.inr, fun z => z.elim (fun e => e ▸ h) id⟩
      · rw [List.mem_append, List.mem_singleton]
        exact Or.comm
    let tl : Str → Told := fun x => if x = n then t else (st.lookup x).getD (.wd [])
    refine ⟨_, rfl, p, _, ks, rfl, .inl h1, eks, by omega, fun ys l perm sd hl => ⟨l, rfl, ⟨_, SqL.of upd_same⟩, fun D hD => ?_⟩⟩
    have ysn : ys.Nodup := perm.nodup_iff.mpr ksn
    have s2 := s1.trans (Same.new (o := .lst (ys.map V.str)) hl)
    have h2 : (upd H1 l (.lst (ys.map V.str))) p = some (.dK (putK kvs (Sum.inr n) u)) := Same.new hl _ _ h1
    refine dc_pure (K := K) hD (wk_list (paired_map ys)) (fun _ => true) (fun x => x) (fun x => toldD (tl x)) (by rw [perm.length_eq]; omega) (by rw [List.map_id']; exact ysn) (fun H' s => SqL.of (s _ _ upd_same)) (fun x _ _ => still_told _) ?_ ?_
    · rintro x y H' Kt Kf rfl m s3 k1 k2
      refine ⟨rfl, ?_⟩
      have mk : y = n ∨ y ∈ keysOf st := (ksm y).mp (perm.mem_iff.mp m)
      have hv : ∃ z, valV (putK kvs (Sum.inr n) u) (Sum.inr y) = some z ∧ Dp K H' z (toldD (tl y)) := by
        rw [valV_put]
        show ∃ z, _ ∧ Dp K H' z (toldD (if y = n then t else (st.lookup y).getD (.wd [])))
        by_cases e : y = n
        · rw [if_pos (congrArg Sum.inr e), if_pos e]
          exact ⟨u, rfl, Dp_same (s2.trans s3) _ dt⟩
        · rw [if_neg (fun z => e (Sum.inr.inj z)), if_neg e]
          obtain ⟨t', et⟩ := of_key (mk.resolve_left e)
          obtain ⟨z, ez, dz⟩ := valV_kvd (KVD_same (s2.trans s3) hkv) (n := y) (d := toldD t') (by rw [stD_lookup, et]; rfl)
          rw [et]
          exact ⟨z, ez, dz⟩
      obtain ⟨z, ez, dz⟩ := hv
      refine ⟨_, rfl, _, rfl, _, rfl, p, z, rfl, ?_, k1 rfl _ _ (Same.refl _) dz⟩
      rw [← ez]
      exact DGet.k (k := Sum.inr y) (s3 _ _ h2)
    · intro kv2 H' s3 hD2 r2
      rw [filter_all] at r2
      refine ⟨D, _, rfl, hD2, True.intro, fun od2 => ?_⟩
      have eks2 : keysOf (ys.map fun x => (x, tl x)) = ys := by
        unfold keysOf
        rw [List.map_map]
        exact List.map_id' ys
      have h1D : H D = none := s2.free hD
      refine k _ (ys.map fun x => (x, tl x)) _ (Same.mut (s2.trans s3) h1D) ⟨D, od2, kv2, rfl, upd_same, ?_⟩ ⟨by rw [eks2]; exact ysn, by rw [eks2]; exact sd, fun x => ?_⟩
      · have : stD (ys.map fun x => (x, tl x)) = ys.map fun a => (a, toldD (tl a)) := by
          unfold stD
          rw [List.map_map]
          rfl
        rw [this]
        exact KVD_keep (Keep.mut hD2 rfl) (stillKV_map (fun a => a) (fun a => toldD (tl a)) (fun a => still_told _) ys) r2
      · by_cases m : x ∈ ys
        · rw [lookup_mapf tl m]
          show some (if x = n then t else (st.lookup x).getD (.wd [])) = _
          by_cases e : x = n
          · rw [if_pos e, if_pos e]
          · rw [if_neg e, if_neg e]
            obtain ⟨t', et⟩ := of_key (((ksm x).mp (perm.mem_iff.mp m)).resolve_left e)
            rw [et]
            rfl
        · rw [lookup_mapf_none tl m]
          have m2 : ¬ (x = n ∨ x ∈ keysOf st) := fun z => m (perm.mem_iff.mpr ((ksm x).mpr z))
          rw [if_neg (fun z => m2 (.inl z)), no_key (fun z => m2 (.inr z))]
abbrev s_need_room : Stmt := (topS 47)
abbrev N_need_room : List Str := ["state", "length"]
abbrev P_need_room : List Str := ["state"]
theorem sc_need_room : FnScope N_need_room P_need_room (defScope s_need_room) := ⟨rfl, rfl, rfl, by decide +kernel, rfl, by decide +kernel, by decide +kernel⟩
def spNeedRoom (K : PySem.W.Frag) : Sp := fun vs H Q _ => ∃ (x : V) (st : Stt) (v : Str → Mv) (w L r : Str → Nat), vs = [x] ∧ StAt K H x st ∧ Good st v w L r ∧ ∀ H', Same H H' → Q x H'
theorem ok_need_room (F : At K mg "need_room" s_need_room P_need_room) (C : Gs K mg) (D_lengths : Df P w K mg base 4 "lengths" P_lengths (spLengths K)) : Df P w K mg base 5 "need_room" P_need_room (spNeedRoom K) := by
  refine F.ok sc_need_room (fun vs H Q E h => ?_) (fun f cdv A outer s H vs Q E hr h => ?_)
  · obtain ⟨x, st, v, w, L, r, rfl, _⟩ := h
    rfl
  · obtain ⟨x, st, v, wt, L, r, rfl, hx, g, k⟩ := h
    have hx' := hx
    obtain ⟨d, od, kvs, rfl, hd, hkv⟩ := hx
    have kl : kvs.length = st.length := by rw [hkv.length]; exact List.length_map _
    refine ⟨_, (pss_cons (ps_if (PW.pt (pw_or (pt_cmpR op_gt (pe_callB k_lenR (by rfl) C.len (by decide +kernel) (pa_cons (pv 0) pa_nil)) (pe_globE rfl C.MOST_NAMES) (nomark _)) (pw_or1 (pt_val (pe_callB (k_any (K := K) rfl rfl) (by rfl) C.b_any (by decide +kernel) (pa_cons (pe_lc (own := [("length", 1)]) (g := gName 1) (tt := tYes) rfl sc_need_room.nd (pi_values (pe_df D_lengths (hr.mono (by decide)) (pa_cons (pv 0) pa_nil))) (blkOk_by (own := [("length", 1)]) (N := N_need_room) (sc := (defScope s_need_room)) (by decide +kernel)) (fun _ _ _ _ _ => (pg_name (i := 1) sc_need_room.nd rfl (Or.inl rfl))) (fun _ _ _ _ _ => pts_nil) (fun _ _ _ _ _ => (pe_cmpR op_gt (pv 1) (pe_globE rfl C.MOST_LENGTH) (nomark _)))) pa_nil)))))) (pss_one ps_never) pss_nil) (pss_one (ps_ret (pv 0)))), ?_⟩
    refine ⟨_, rfl, d, kvs, rfl, .inr ⟨od, hd⟩, _, _, rfl, rfl, false, bl_f (by have := g.n12; omega), ?_⟩
    refine iteF ?_
    refine ⟨_, rfl, .ref d, st, v, wt, L, r, rfl, hx', g, fun os y H1 pm s1 dy => ?_⟩
    obtain ⟨d2, od2, kv2, rfl, hd2, r2⟩ := dy
    have vals : Paired (fun v l => v = .int (L l)) (kv2.map (·.2)) os := by
      unfold KVD at r2
      have h : ∀ (kv : List (Key × V)) (os : List Str), Paired (fun (p : Key × V) (q : Str × PyData) => p.1 = Sum.inr q.1 ∧ Dp K H1 p.2 q.2) kv (os.map fun n => (n, PyData.int (L n))) → Paired (fun v l => v = .int (L l)) (kv.map (·.2)) os := by
        intro kv os
        induction os generalizing kv with
        | nil => intro h; cases h; exact .nil
        | cons a os ih =>
          intro h
          cases h with
          | cons h1 h2 => exact .cons h1.2.int_eq (ih _ h2)
      exact h kv2 os r2
    refine ⟨d2, od2, kv2, rfl, hd2, fun D hD => lc_map (K := K) hD (wk_values vals) (fun _ => PyData.bool false) (by rw [pm.length_eq, List.length_map]; have := g.n12; omega) (fun H' s => s _ _ hd2) (fun _ _ => rfl) ?_ ?_⟩
    · rintro z n H' Kt rfl m s2 k1
      refine ⟨rfl, _, rfl, _, _, rfl, rfl, ?_⟩
      have e : V.bl (decide ((500 : Int) < (L n : Int))) = V.bl false := bl_f (by have := g.lm n (pm.mem_iff.mp m); omega)
      show Kt (V.bl (decide ((500 : Int) < (L n : Int)))) H'
      rw [e]
      exact k1 _ _ (Same.refl _) (.bl _)
    · intro zs H2 s2 hz dz
      have e := DpAll.map_bools (ns := os.map fun _ => false) (by rw [List.map_map]; exact dz)
      subst e
      refine ⟨D, _, rfl, SqL.of hz, false, ?_, ?_⟩
      · rw [show ((os.map fun _ => false).any id) = false from by simp]
      refine iteF ?_
      exact ⟨_, rfl, k _ (s1.trans s2)⟩
abbrev s_behind_told : Stmt := (topS 48)
abbrev N_behind_told : List Str := ["state", "name", "told", "other", "sign", "found"]
abbrev P_behind_told : List Str := ["state", "name", "told"]
theorem sc_behind_told : FnScope N_behind_told P_behind_told (defScope s_behind_told) := ⟨rfl, rfl, rfl, by decide +kernel, rfl, by decide +kernel, by decide +kernel⟩
def spBT (K : PySem.W.Frag) : Sp := fun vs H Q _ => ∃ (x u : V) (st : Stt) (n : Str) (t : Told), vs = [x, .str n, u] ∧ StAt K H x st ∧ Dp K H u (toldD t) ∧ nameOk n ∧ (keysOf st).Nodup ∧ st.length ≤ 39 ∧ (∀ l ∈ lettersOf t, l.1 = n ∨ l.1 ∈ keysOf st) ∧
  (∀ st', Put st n t st' → ∃ v w L r, Good st' v w L r) ∧ ∀ y st' H', Same H H' → StAt K H' y st' → Put st n t st' → Q y H'
theorem ok_behind_told (F : At K mg "behind_told" s_behind_told P_behind_told) (C : Gs K mg) (D_is_name : Df P w K mg base 1 "is_name" P_is_name spIsName) (D_need_name : Df P w K mg base 1 "need_name" P_need_name (spNeed K)) (D_placed : Df P w K mg base 1 "placed" P_placed (spPlaced K)) (D_hanging : Df P w K mg base 4 "hanging" P_hanging (spHanging K))
    (D_need_room : Df P w K mg base 5 "need_room" P_need_room (spNeedRoom K)) : Df P w K mg base 6 "behind_told" P_behind_told (spBT K) := by
  refine F.ok sc_behind_told (fun vs H Q E h => ?_) (fun f cdv A outer s H vs Q E hr h => ?_)
  · obtain ⟨x, u, st, n, t, rfl, _⟩ := h
    rfl
  · obtain ⟨x, u, st, n, t, rfl, hx, dt, nk, nd, len, hl, gd, k⟩ := h
    refine ⟨_, (pss_cons (ps_if (pt_not (pt_val (pe_df D_is_name (hr.mono (by decide)) (pa_cons (pv 1) pa_nil)))) (pss_one ps_never) pss_nil) (pss_cons (ps_for PassesOwn.never rfl (k_pi_tup (K := K) rfl (pe_ifExp (pt_cmpR op_eq (pe_ix (k_ix_tup (K := K) rfl) (pv 2) pe_int (fun _ _ => rfl)) pe_str (nomark _)) (pe_ix (k_ix_tup (K := K) rfl) (pv 2) pe_int (fun _ _ => rfl)) (pe_tup pa_nil))) (k_pg_tup (K := K) rfl rfl (pgs_cons (pg_name (i := 3) sc_behind_told.nd rfl (Or.inl rfl)) (pgs_cons (pg_name (i := 4) sc_behind_told.nd rfl (Or.inl rfl)) pgs_nil))) (pss_one (ps_if (pt_cmpR op_ne (pv 3) (pv 1) (nomark _)) (pss_one (ps_expr (pe_df D_need_name (hr.mono (by decide)) (pa_cons (pv 0) (pa_cons (pv 3) pa_nil))))) pss_nil))) (pss_cons (ps_set (i := 5) sc_behind_told.nd rfl (Or.inl rfl) (pe_df D_placed (hr.mono (by decide)) (pa_cons (pv 0) (pa_cons (pv 1) (pa_cons (pv 2) pa_nil))))) (pss_cons (ps_if (pt_cmpR (k_in_seq (K := K) rfl) (pv 1) (pe_df D_hanging (hr.mono (by decide)) (pa_cons (pv 5) (pa_cons (pv 1) pa_nil))) (by rfl)) (pss_one ps_never) pss_nil) (pss_one (ps_ret (pe_df D_need_room (hr.mono (by decide)) (pa_cons (pv 5) pa_nil)))))))), ?_⟩
    refine ⟨_, rfl, n, rfl, nk, fun H1 s1 => ⟨true, rfl, ?_⟩⟩
    refine iteF ?_
    refine letters_if (i := 2) rfl (Dp_same s1 _ dt) fun la xs H2 s2 hla hxs => ⟨la, rfl, ⟨_, hla⟩, ?_⟩
    have s12 := s1.trans s2
    refine for_it (wk_tup (K := K) (a := la) (DpAll.paired hxs)) (fun i σ' H' => ∃ o3 o4, σ' = [some x, some (.str n), some u, o3, o4, none] ∧ Same H2 H') ⟨none, none, rfl, Same.refl _⟩ (fun i σ' H' _ ⟨_, _, _, s⟩ => SqT_same s hla) ?_ ?_
    · rintro i y σ' H3 H4 hi ⟨o3, o4, rfl, s3⟩ ⟨rfl, l, el, rl⟩
      obtain ⟨c, rfl, hc⟩ := dp_let rl
      have ml : l ∈ lettersOf t := List.mem_of_getElem? el
      refine ⟨c, _, rfl, SqT_same s3 hc, rfl, _, _, rfl, _, _, rfl, rfl, ?_⟩
      refine ⟨_, rfl, _, rfl, rfl, _, rfl, ?_⟩
      refine ite2 (fun e => ?_) (fun e => ⟨_, _, rfl, s3⟩)
      have e1 : l.1 ≠ n := fun z => by rw [z] at e; simp at e
      obtain ⟨t', et⟩ := of_key ((hl l ml).resolve_left e1)
      exact ⟨_, rfl, _, rfl, x, st, l.1, t', rfl, DcAt_same (s12.trans s3) hx, et, fun _ _ => ⟨_, _, rfl, s3⟩⟩
    · rintro σ' H3 ⟨o3, o4, rfl, s3⟩
      have s13 := s12.trans s3
      refine ⟨_, rfl, _, rfl, _, rfl, x, u, st, n, t, rfl, DcAt_same s13 hx, Dp_same s13 _ dt, nd, by omega, fun y st' H4 s4 hy put => ?_⟩
      obtain ⟨v, wt, L, r, g⟩ := gd st' put
      refine ⟨_, rfl, _, rfl, _, rfl, y, st', n, rfl, hy, (put.keys n).mpr (.inl rfl), g.small, fun ys p H5 hp s5 hys _ em => ?_⟩
      refine ⟨p, _, rfl, .inl (SqL.of hys), rfl, flat_strs _, false, ?_, ?_⟩
      · show V.bl (if false = true then !inV (.str n) (ys.map V.str) else inV (.str n) (ys.map V.str)) = _
        rw [if_neg (show ¬ false = true by decide), inV_strs]
        exact bl_f fun z => g.noloop ((em n).mp z)
      refine iteF ?_
      refine ⟨_, rfl, y, st', v, wt, L, r, rfl, DcAt_same s5 hy, g, fun H6 s6 => k y st' H6 (((s13.trans s4).trans s5).trans s6) (DcAt_same (s5.trans s6) hy) put⟩
abbrev s_called_anew : Stmt := (topS 49)
abbrev N_called_anew : List Str := ["told", "old", "new", "name", "sign"]
abbrev P_called_anew : List Str := ["told", "old", "new"]
theorem sc_called_anew : FnScope N_called_anew P_called_anew (defScope s_called_anew) := ⟨rfl, rfl, rfl, by decide +kernel, rfl, by decide +kernel, by decide +kernel⟩
def spCA (K : PySem.W.Frag) : Sp := fun vs H Q _ => ∃ (u : V) (t : Told) (o n : Str), vs = [u, .str o, .str n] ∧ Dp K H u (toldD t) ∧ (lettersOf t).length ≤ 40 ∧ ∀ y H', Same H H' → Dp K H' y (toldD (ren o n t)) → Q y H'
theorem ok_called_anew (F : At K mg "called_anew" s_called_anew P_called_anew) (C : Gs K mg) : Df P w K mg base 1 "called_anew" P_called_anew (spCA K) := by
  refine F.ok sc_called_anew (fun vs H Q E h => ?_) (fun f cdv A outer s H vs Q E hr h => ?_)
  · obtain ⟨u, t, o, n, rfl, _⟩ := h
    rfl
  · obtain ⟨u, t, o, n, rfl, dt, len, k⟩ := h
    refine ⟨_, (pss_cons (ps_if (pt_cmpR op_eq (pe_ix (k_ix_tup (K := K) rfl) (pv 0) pe_int (fun _ _ => rfl)) pe_str (nomark _)) (pss_one (ps_ret (pv 0))) pss_nil) (pss_one (ps_ret (pe_tup (pa_cons pe_str (pa_cons (pe_callTy (k_tuple_of (K := K) rfl) (by rfl) C.b_tuple (by decide +kernel) (pa_cons (pe_lc (own := [("name", 3), ("sign", 4)]) (g := gTup K 2 (gCons (gName 3) (gCons (gName 4) gNil))) (tt := tYes) rfl sc_called_anew.nd (k_pi_tup (K := K) rfl (pe_ix (k_ix_tup (K := K) rfl) (pv 0) pe_int (fun _ _ => rfl))) (blkOk_by (own := [("name", 3), ("sign", 4)]) (N := N_called_anew) (sc := (defScope s_called_anew)) (by decide +kernel)) (fun _ _ _ _ _ => (k_pg_tup (K := K) rfl rfl (pgs_cons (pg_name (i := 3) sc_called_anew.nd rfl (Or.inl rfl)) (pgs_cons (pg_name (i := 4) sc_called_anew.nd rfl (Or.inl rfl)) pgs_nil)))) (fun _ _ _ _ _ => pts_nil) (fun _ _ _ _ _ => (pe_tup (pa_cons (pe_ifExp (pt_cmpR op_eq (pv 3) (pv 1) (nomark _)) (pv 2) (pv 3)) (pa_cons (pv 4) pa_nil))))) pa_nil)) pa_nil)))))), ?_⟩
    cases t with
    | mv m =>
      obtain ⟨a, y, rfl, ha, _⟩ := dp_tmv dt
      refine ⟨_, rfl, a, _, _, _, rfl, rfl, ha, rfl, rfl, _, rfl, ?_⟩
      refine ite2 (fun _ => ?_) (fun e => absurd (decide_eq_true rfl) e)
      exact ⟨_, rfl, k _ _ (Same.refl _) dt⟩
    | wd ls =>
      obtain ⟨a, b, xs, rfl, ha, hb, hx⟩ := dp_twd dt
      refine ⟨_, rfl, a, _, _, _, rfl, rfl, ha, rfl, rfl, _, rfl, ?_⟩
      refine ite2 (fun e => absurd (V.str.inj (of_decide_eq_true e)) word_ne) (fun _ => ?_)
      refine ⟨_, rfl, a, _, _, _, rfl, rfl, ha, atI_nat (j := 1) rfl, b, rfl, ⟨_, hb⟩, fun D hD => lc_map (K := K) hD (wk_tup (DpAll.paired hx)) (fun l => letD (if l.1 = o then n else l.1, l.2)) (Nat.le_trans len (by decide)) (fun H' s => SqT_same s hb) (fun _ _ => rfl) ?_ ?_⟩
      · rintro x l H' Kt r m s1 k1
        obtain ⟨c, rfl, hc⟩ := dp_let r
        refine ⟨c, _, rfl, SqT_same s1 hc, rfl, _, _, rfl, _, _, rfl, rfl, rfl, ?_⟩
        refine ⟨_, rfl, _, rfl, rfl, _, rfl, ?_⟩
        refine ite2 (fun e => ?_) (fun e => ?_)
        · have e1 : l.1 = o := V.str.inj (of_decide_eq_true e)
          refine ⟨_, rfl, _, rfl, by show 2 ≤ sizeLine; decide, fun p hp => k1 _ _ (Same.new hp) ?_⟩
          rw [if_pos e1]
          exact mk_let (SqT.of upd_same)
        · have e1 : ¬ l.1 = o := fun z => e (by rw [z]; exact decide_eq_true rfl)
          refine ⟨_, rfl, _, rfl, by show 2 ≤ sizeLine; decide, fun p hp => k1 _ _ (Same.new hp) ?_⟩
          rw [if_neg e1]
          exact mk_let (SqT.of upd_same)
      · intro ys H' s1 hy dy
        refine ⟨D, _, rfl, .inl ⟨SqL.of hy, fun p hp => ⟨by show 2 ≤ sizeLine; decide, fun q hq => ?_⟩⟩⟩
        have kp : Keep H' (upd (upd H' p (.tup ys)) q (.tup [.str "word", .ref p])) := (Keep.new hp).trans (Keep.new hq)
        have st : stillAll (ls.map fun l => letD (if l.1 = o then n else l.1, l.2)) = true := stillAll_map _ (fun _ => rfl) ls
        refine k _ _ ((s1.trans (Same.new hp)).trans (Same.new hq)) (mk_twd (SqT.of upd_same) (.tup (SqT.of (Same.new hq _ _ upd_same)) ?_))
        rw [List.map_map]
        exact DpAll_keep kp _ st dy
end
end Bk
set_option Elab.async false
set_option linter.all false
set_option maxRecDepth 100000
set_option maxHeartbeats 4000000
namespace Bk
open PySem PySem.Spec PyProof.Rows L2 Gap
def BPre (st : Stt) : Deed → Prop
  | .set n m => nameOk n ∧ ∀ st', Put st n (.mv m) st' → ∃ v w L r, Good st' v w L r
  | .word n ls => nameOk n ∧ (∀ l ∈ ls, l.1 = n ∨ l.1 ∈ keysOf st) ∧ ∀ st', Put st n (.wd ls) st' → ∃ v w L r, Good st' v w L r
  | .fix n m => n ∈ keysOf st ∧ ∃ v w L r, Good st v w L r ∧ v n = m ∧ ∀ st', Put st n (.mv m) st' → ∃ v w L r, Good st' v w L r
  | .call n m => n ∈ keysOf st ∧ nameOk m ∧ m ∉ keysOf st ∧ (∀ x t, st.lookup x = some t → (lettersOf t).length ≤ 40)
def BPost (st : Stt) : Deed → Stt → Prop
  | .set n m, st' => Put st n (.mv m) st'
  | .word n ls, st' => Put st n (.wd ls) st'
  | .fix n m, st' => Put st n (.mv m) st'
  | .call n m, st' => Called st n m st'
theorem cut2 {x n y : V} : cutV [x, n, y] none (some 2) = [x, n] := rfl
theorem put_called {st st1 st' : Stt} {o n : Str} {t : Told} (e : st.lookup o = some t) (h1 : ∀ x, st1.lookup x = if x = o then none else (st.lookup x).map (ren o n)) (p : Put st1 n (ren o n t) st') : Called st o n st' :=
  ⟨p.nd, p.srt, fun x => by
    rw [p.lk, e, h1]
    rfl⟩
section
variable {P : Program} {w : World} {K : PySem.W.Frag} {mg : Str → Option Value} {base : Heap}
abbrev s_behind : Stmt := (topS 50)
abbrev N_behind : List Str := ["state", "deed", "word", "name", "told", "some", "new", "found", "one"]
abbrev P_behind : List Str := ["state", "deed"]
theorem sc_behind : FnScope N_behind P_behind (defScope s_behind) := ⟨rfl, rfl, rfl, by decide +kernel, rfl, by decide +kernel, by decide +kernel⟩
def spBehind (K : PySem.W.Frag) : Sp := fun vs H Q _ => ∃ (x u : V) (st : Stt) (dd : Deed), vs = [x, u] ∧ StAt K H x st ∧ Dp K H u (deedD dd) ∧ DForm dd ∧ (keysOf st).Nodup ∧ st.length ≤ 39 ∧ BPre st dd ∧
  ∀ y st' H', Same H H' → StAt K H' y st' → BPost st dd st' → Q y H'
theorem ok_behind (F : At K mg "behind" s_behind P_behind) (C : Gs K mg) (D_has_form : Df P w K mg base 4 "has_form" P_has_form (spHasForm K)) (D_behind_told : Df P w K mg base 6 "behind_told" P_behind_told (spBT K)) (D_need_name : Df P w K mg base 1 "need_name" P_need_name (spNeed K))
    (D_need_room : Df P w K mg base 5 "need_room" P_need_room (spNeedRoom K)) (D_placed : Df P w K mg base 1 "placed" P_placed (spPlaced K)) (D_value_of : Df P w K mg base 5 "value_of" P_value_of (spValueOf K)) (D_users : Df P w K mg base 3 "users" P_users (spUsers K)) (D_is_name : Df P w K mg base 1 "is_name" P_is_name spIsName)
    (D_called_anew : Df P w K mg base 1 "called_anew" P_called_anew (spCA K)) : Df P w K mg base 7 "behind" P_behind (spBehind K) := by
  refine F.ok sc_behind (fun vs H Q E h => ?_) (fun f cdv A outer s H vs Q E hr h => ?_)
  · obtain ⟨x, u, st, dd, rfl, _⟩ := h
    rfl
  · obtain ⟨x, u, st, dd, rfl, hx, du, df, nd, len, pre, k⟩ := h
    have hu := hu_of hr
    refine ⟨_, (pss_cons (ps_if (pt_not (pt_val (pe_df D_has_form (hr.mono (by decide)) (pa_cons (pv 1) pa_nil)))) (pss_one ps_never) pss_nil) (pss_cons (ps_asg (pe_slice (k_sl_tup (K := K) rfl) (pv 1) po_none (po_some pe_int)) (k_pg_tup (K := K) rfl rfl (pgs_cons (pg_name (i := 2) sc_behind.nd rfl (Or.inl rfl)) (pgs_cons (pg_name (i := 3) sc_behind.nd rfl (Or.inr rfl)) pgs_nil)))) (pss_cons (ps_if (pt_cmpR (k_in_seq (K := K) rfl) (pv 2) (pe_tup (pa_cons pe_str (pa_cons pe_str pa_nil))) (by rfl)) (pss_one (ps_ret (pe_df D_behind_told (hr.mono (by decide)) (pa_cons (pv 0) (pa_cons (pv 3) (pa_cons (pe_tup (pa_cons (pe_ifExp (pt_cmpR op_eq (pv 2) pe_str (nomark _)) pe_str pe_str) (pa_cons (pe_ix (k_ix_tup (K := K) rfl) (pv 1) pe_int (fun _ _ => rfl)) pa_nil))) pa_nil)))))) pss_nil) (pss_cons (ps_set (i := 4) sc_behind.nd rfl (Or.inl rfl) (pe_df D_need_name (hr.mono (by decide)) (pa_cons (pv 0) (pa_cons (pv 3) pa_nil)))) (pss_cons (ps_if (pt_cmpR op_eq (pv 2) pe_str (nomark _)) (pss_one (ps_ret (pe_df D_need_room (hr.mono (by decide)) (pa_cons (pe_df D_placed (hr.mono (by decide)) (pa_cons (pv 0) (pa_cons (pv 3) (pa_cons (pe_tup (pa_cons pe_str (pa_cons (pe_df D_value_of (hr.mono (by decide)) (pa_cons (pv 0) (pa_cons (pv 3) pa_nil))) pa_nil))) pa_nil)))) pa_nil)))) pss_nil) (pss_cons (ps_if (pt_cmpR op_eq (pv 2) pe_str (nomark _)) (pss_cons (ps_set (i := 5) sc_behind.nd rfl (Or.inl rfl) (pe_df D_users (hr.mono (by decide)) (pa_cons (pv 0) (pa_cons (pv 3) pa_nil)))) (pss_cons (ps_if (pt_cmpR (k_neD (K := K) rfl hr.units64) (pv 5) (pe_lst pa_nil) (nomark _)) (pss_one ps_never) pss_nil) (pss_one (ps_ret (pe_dc (own := [("one", 8)]) (g := gName 8) rfl sc_behind.nd (pi_keys (pv 0)) (blkOk_by (own := [("one", 8)]) (N := N_behind) (sc := (defScope s_behind)) (by decide +kernel)) (fun _ _ _ _ _ => (pg_name (i := 8) sc_behind.nd rfl (Or.inl rfl))) (fun _ _ _ _ _ => (pts_one (pt_cmpR op_ne (pv 8) (pv 3) (nomark _)))) (fun _ _ _ _ _ => (pv 8)) (fun _ _ _ _ _ => (pe_dget hu (pv 0) (pv 8) (fun _ _ => rfl)))))))) pss_nil) (pss_cons (ps_set (i := 6) sc_behind.nd rfl (Or.inr rfl) (pe_ix (k_ix_tup (K := K) rfl) (pv 1) pe_int (fun _ _ => rfl))) (pss_cons (ps_if (PW.pt (pw_or (pt_not (pt_val (pe_df D_is_name (hr.mono (by decide)) (pa_cons (pv 6) pa_nil)))) (pw_or1 (PW.pt (pw_and (pt_cmpR op_ne (pv 6) (pv 3) (nomark _)) (pw_and1 (pt_cmp (pc_din hu (pv 6) (pv 0))))))))) (pss_one ps_never) pss_nil) (pss_cons (ps_frz 7 (ps_setDc (i := 7) (own := [("one", 8)]) (g := gName 8) rfl sc_behind.nd rfl rfl (sw_trueD rfl rfl rfl (by decide +kernel)) (pi_keys (pv 0)) (blkOk_by (own := [("one", 8)]) (N := N_behind) (sc := (defScope s_behind)) (by decide +kernel)) (fun _ _ _ _ _ => (pg_name (i := 8) sc_behind.nd rfl (Or.inl rfl))) (fun _ _ _ _ _ => (pts_one (pt_cmpR op_ne (pv 8) (pv 3) (nomark _)))) (fun _ _ _ _ _ => (pv 8)) (fun _ _ _ _ _ => (pe_df D_called_anew (hr.mono (by decide)) (pa_cons (pe_dget hu (pv 0) (pv 8) (fun _ _ => rfl)) (pa_cons (pv 3) (pa_cons (pv 6) pa_nil))))))) (pss_one (ps_ret (pe_df D_placed (hr.mono (by decide)) (pa_cons (pv 7) (pa_cons (pv 6) (pa_cons (pe_df D_called_anew (hr.mono (by decide)) (pa_cons (pv 4) (pa_cons (pv 3) (pa_cons (pv 6) pa_nil)))) pa_nil))))))))))))))), ?_⟩
    refine ⟨_, rfl, u, dd, rfl, du, df, fun H1 s1 => ⟨true, rfl, ?_⟩⟩
    refine iteF ?_
    have hx1 := DcAt_same s1 hx
    have du1 := Dp_same s1 _ du
    cases dd with
    | set n m =>
      obtain ⟨nk, gd⟩ := pre
      obtain ⟨a, y, rfl, ha, dy⟩ := dp3 du1
      refine ⟨_, rfl, _, rfl, a, _, rfl, ha, fun z => absurd z.2 (show ¬ HT.sIx 3 3 (some 2) = 3 by decide), fun _ p hp => ⟨p, _, rfl, SqT.of upd_same, rfl, _, _, rfl, _, _, rfl, rfl, ?_⟩⟩
      refine ⟨_, rfl, by show 2 ≤ sizeLine; decide, fun q hq => ⟨q, _, rfl, .inr (SqT.of upd_same), rfl, rfl, true, by decide +kernel, ?_⟩⟩
      refine iteT ?_
      have s2 := (Same.new (o := .tup (cutV [.str "set", .str n, y] none (some 2))) hp).trans (Same.new (o := .tup [.str "set", .str "word"]) hq)
      refine ⟨_, rfl, _, rfl, _, rfl, rfl, _, rfl, ?_⟩
      refine ite2 (fun _ => ?_) (fun e => absurd (decide_eq_true rfl) e)
      refine ⟨_, rfl, a, _, _, _, rfl, rfl, SqT_same s2 ha, atI_nat (j := 2) rfl, by show 2 ≤ sizeLine; decide, fun t ht => ?_⟩
      have s3 := s2.trans (Same.new (o := .tup [.str "move", y]) ht)
      refine ⟨x, .ref t, st, n, .mv m, rfl, DcAt_same s3 hx1, mk_tmv (SqT.of upd_same) (Dp_same s3 _ dy), nk, nd, len, (fun l h => by cases h), gd, fun z st' H' s4 hz put => k z st' H' ((s1.trans s3).trans s4) hz put⟩
    | word n ls =>
      obtain ⟨nk, hl, gd⟩ := pre
      obtain ⟨a, y, rfl, ha, dy⟩ := dp3 du1
      refine ⟨_, rfl, _, rfl, a, _, rfl, ha, fun z => absurd z.2 (show ¬ HT.sIx 3 3 (some 2) = 3 by decide), fun _ p hp => ⟨p, _, rfl, SqT.of upd_same, rfl, _, _, rfl, _, _, rfl, rfl, ?_⟩⟩
      refine ⟨_, rfl, by show 2 ≤ sizeLine; decide, fun q hq => ⟨q, _, rfl, .inr (SqT.of upd_same), rfl, rfl, true, by decide +kernel, ?_⟩⟩
      refine iteT ?_
      have s2 := (Same.new (o := .tup (cutV [.str "word", .str n, y] none (some 2))) hp).trans (Same.new (o := .tup [.str "set", .str "word"]) hq)
      refine ⟨_, rfl, _, rfl, _, rfl, rfl, false, by decide +kernel, ?_⟩
      refine iteF ?_
      refine ⟨_, rfl, a, _, _, _, rfl, rfl, SqT_same s2 ha, atI_nat (j := 2) rfl, by show 2 ≤ sizeLine; decide, fun t ht => ?_⟩
      have s3 := s2.trans (Same.new (o := .tup [.str "word", y]) ht)
      refine ⟨x, .ref t, st, n, .wd ls, rfl, DcAt_same s3 hx1, mk_twd (SqT.of upd_same) (Dp_same s3 _ dy), nk, nd, len, hl, gd, fun z st' H' s4 hz put => k z st' H' ((s1.trans s3).trans s4) hz put⟩
    | fix n m =>
      obtain ⟨hn, v, wt, L, r, g, rfl, gd⟩ := pre
      obtain ⟨t, et⟩ := of_key hn
      obtain ⟨a, rfl, ha⟩ := dp2 du1
      refine ⟨_, rfl, _, rfl, a, _, rfl, ha, fun _ => ⟨a, _, rfl, ha, rfl, _, _, rfl, _, _, rfl, rfl, ?_⟩, fun z => absurd ⟨rfl, rfl⟩ z⟩
      refine ⟨_, rfl, by show 2 ≤ sizeLine; decide, fun q hq => ⟨q, _, rfl, .inr (SqT.of upd_same), rfl, rfl, false, by decide +kernel, ?_⟩⟩
      refine iteF ?_
      have s2 := Same.new (o := .tup [.str "set", .str "word"]) hq
      refine ⟨_, rfl, _, rfl, x, st, n, t, rfl, DcAt_same s2 hx1, et, fun u2 _ => ?_⟩
      refine ⟨_, rfl, rfl, _, rfl, ?_⟩
      refine ite2 (fun _ => ?_) (fun e => absurd (decide_eq_true rfl) e)
      refine ⟨_, rfl, _, rfl, _, rfl, _, rfl, x, n, st, v, wt, L, r, rfl, DcAt_same s2 hx1, g, hn, fun y H3 s3 dy => ⟨by show 2 ≤ sizeLine; decide, fun p hp => ?_⟩⟩
      have s4 := (s2.trans s3).trans (Same.new (o := .tup [.str "move", y]) hp)
      refine ⟨x, .ref p, st, n, .mv (v n), rfl, DcAt_same s4 hx1, mk_tmv (SqT.of upd_same) (Dp_same (Same.new hp) _ dy), nd, by omega, fun z st' H5 s5 hz put => ?_⟩
      obtain ⟨v2, w2, L2', r2, g2⟩ := gd st' put
      exact ⟨z, st', v2, w2, L2', r2, rfl, hz, g2, fun H6 s6 => k z st' H6 (((s1.trans s4).trans s5).trans s6) (DcAt_same s6 hz) put⟩
    | call n m =>
      obtain ⟨hn, nk, nm, ll⟩ := pre
      obtain ⟨t, et⟩ := of_key hn
      have mn : m ≠ n := fun z => nm (z ▸ hn)
      obtain ⟨a, y, rfl, ha, dy⟩ := dp3 du1
      cases dy.str_eq
      refine ⟨_, rfl, _, rfl, a, _, rfl, ha, fun z => absurd z.2 (show ¬ HT.sIx 3 3 (some 2) = 3 by decide), fun _ p hp => ⟨p, _, rfl, SqT.of upd_same, rfl, _, _, rfl, _, _, rfl, rfl, ?_⟩⟩
      refine ⟨_, rfl, by show 2 ≤ sizeLine; decide, fun q hq => ⟨q, _, rfl, .inr (SqT.of upd_same), rfl, rfl, false, by decide +kernel, ?_⟩⟩
      refine iteF ?_
      have s2 := (Same.new (o := .tup (cutV [.str "call", .str n, .str m] none (some 2))) hp).trans (Same.new (o := .tup [.str "set", .str "word"]) hq)
      have hx2 := DcAt_same s2 hx1
      have ha2 := SqT_same s2 ha
      have s12 := s1.trans s2
      generalize upd (upd H1 p (.tup (cutV [.str "call", .str n, .str m] none (some 2)))) q (.tup [.str "set", .str "word"]) = H2 at s2 hx2 ha2 s12
      refine ⟨_, rfl, _, rfl, x, st, n, t, rfl, hx2, et, fun u2 du2 => ?_⟩
      refine ⟨_, rfl, rfl, false, by decide +kernel, ?_⟩
      refine iteF ?_
      refine ⟨_, rfl, rfl, false, by decide +kernel, ?_⟩
      refine iteF ?_
      refine ⟨_, rfl, a, _, _, _, rfl, rfl, ha2, atI_nat (j := 2) rfl, ?_⟩
      refine ⟨_, rfl, m, rfl, nk, fun H3 s3 => ⟨true, rfl, ?_⟩⟩
      refine iteF ?_
      have hx3 := DcAt_same s3 hx2
      obtain ⟨d, ed, gx⟩ := StAt.none hx3 (no_key nm)
      refine ⟨_, rfl, _, rfl, rfl, true, ?_, ?_⟩
      · show V.bl (!decide (V.str m = V.str n)) = V.bl true
        rw [decide_eq_false (fun z => mn (V.str.inj z))]
        rfl
      refine iteT ?_
      refine ⟨_, rfl, _, rfl, d, none, ed, gx, false, rfl, ?_⟩
      refine iteF ?_
      -- found = {..}
      have hx3' := hx3
      obtain ⟨d3, od3, kvs, e3, hd3, hkv⟩ := hx3
      have ek : kvs.map (·.1) = (keysOf st).map Sum.inr := by
        have := hkv.keys
        rw [stD_keys] at this
        exact this
      let tl : Str → Told := fun x => (st.lookup x).getD (.wd [])
      refine ⟨_, rfl, d3, od3, e3, .inl ⟨kvs, hd3, fun D hD => dc_pure (K := K) hD (wk_keys ek) (fun z => !decide (V.str z = V.str n)) (fun z => z) (fun z => toldD (ren n m (tl z))) (by rw [List.length_map]; omega) (by rw [List.map_id']; exact nd) (fun H' s => s _ _ hd3) (fun _ _ _ => still_told _) ?_ ?_⟩⟩
      · rintro z o H' Kt Kf rfl mem s4 k1 k2
        obtain ⟨t', et'⟩ := of_key mem
        refine ⟨rfl, _, rfl, _, rfl, rfl, _, rfl, ?_⟩
        refine ite2 (fun e => ?_) (fun e => k2 (by simpa using e) _ (Same.refl _))
        obtain ⟨d4, u4, ed4, g4, du4⟩ := (DcAt_same s4 hx3').get (by rw [stD_lookup, et']; rfl)
        refine ⟨_, rfl, _, rfl, _, rfl, d4, u4, ed4, g4, _, rfl, _, rfl, u4, t', n, m, rfl, du4, ll o t' et', fun y5 H5 s5 dy5 => k1 e _ _ s5 ?_⟩
        show Dp K H5 y5 (toldD (ren n m ((st.lookup o).getD (.wd []))))
        rw [et']
        exact dy5
      · intro kv2 H4 s4 hD4 r4
        refine ⟨D, _, rfl, hD4, True.intro, fun od4 => ?_⟩
        have h3D : H D = none := (s12.trans s3).free hD
        have s5 : Same H (upd H4 D (.frz od4 (.dK kv2))) := Same.mut ((s12.trans s3).trans s4) h3D
        let os := (keysOf st).filter fun z => !decide (V.str z = V.str n)
        let st1 : Stt := os.map fun z => (z, ren n m (tl z))
        have kst1 : keysOf st1 = os := by
          show keysOf (os.map fun z => (z, ren n m (tl z))) = os
          unfold keysOf
          rw [List.map_map]
          exact List.map_id' os
        have hst1 : StAt K (upd H4 D (.frz od4 (.dK kv2))) (.ref D) st1 := by
          refine ⟨D, od4, kv2, rfl, upd_same, ?_⟩
          have : stD st1 = os.map fun a => (a, toldD (ren n m (tl a))) := by
            show stD (os.map fun z => (z, ren n m (tl z))) = _
            unfold stD
            rw [List.map_map]
            rfl
          rw [this]
          exact KVD_keep (Keep.mut hD4 rfl) (stillKV_map (fun a => a) (fun a => toldD (ren n m (tl a))) (fun a => still_told _) os) r4
        have osm : ∀ z, z ∈ os ↔ z ∈ keysOf st ∧ z ≠ n := fun z => by
          show z ∈ (keysOf st).filter _ ↔ _
          rw [List.mem_filter]
          refine and_congr_right fun _ => ?_
          by_cases e : z = n
          · subst e; simp
          · rw [decide_eq_false (fun q => e (V.str.inj q))]
            exact ⟨fun _ => e, fun _ => rfl⟩
        have lk1 : ∀ z, st1.lookup z = if z = n then none else (st.lookup z).map (ren n m) := fun z => by
          by_cases h : z ∈ os
          · obtain ⟨h1, h2⟩ := (osm z).mp h
            obtain ⟨t', et'⟩ := of_key h1
            rw [if_neg h2, et']
            show (os.map fun z => (z, ren n m (tl z))).lookup z = _
            rw [lookup_mapf (fun z => ren n m (tl z)) h]
            show some (ren n m ((st.lookup z).getD (.wd []))) = _
            rw [et']
            rfl
          · show (os.map fun z => (z, ren n m (tl z))).lookup z = _
            rw [lookup_mapf_none (fun z => ren n m (tl z)) h]
            by_cases e : z = n
            · rw [if_pos e]
            · rw [if_neg e, no_key (fun q => h ((osm z).mpr ⟨q, e⟩))]
              rfl
        have nd1 : (keysOf st1).Nodup := by rw [kst1]; exact List.Pairwise.filter _ nd
        have len1 : st1.length ≤ 40 := by
          have : st1.length = os.length := List.length_map _
          rw [this]
          have := List.length_filter_le (fun z => !decide (V.str z = V.str n)) (keysOf st)
          rw [List.length_map] at this
          exact Nat.le_trans this (by omega)
        have du5 : Dp K (upd H4 D (.frz od4 (.dK kv2))) u2 (toldD t) := by
          have : Same H3 (upd H4 D (.frz od4 (.dK kv2))) := Same.mut s4 hD
          exact Dp_same (s3.trans this) _ du2
        generalize upd H4 D (.frz od4 (.dK kv2)) = H5 at s5 hst1 du5
        refine ⟨_, rfl, _, rfl, _, rfl, _, rfl, _, rfl, u2, t, n, m, rfl, du5, ll n t et, fun y6 H6 s6 dy6 => ?_⟩
        exact ⟨.ref D, y6, st1, m, ren n m t, rfl, DcAt_same s6 hst1, dy6, nd1, len1, fun z st' H7 s7 hz put => k z st' H7 ((s5.trans s6).trans s7) hz (put_called et lk1 put)⟩
end
end Bk
set_option Elab.async false
set_option linter.all false
set_option maxRecDepth 100000
set_option maxHeartbeats 4000000
namespace Bk
open PySem PySem.Spec PyProof.Rows L2 Gap
/-! ### what a name stands for, or nothing -/
def oD : Option Told → PyData
  | none => .none
  | some t => toldD t
theorem still_o (o : Option Told) : still (oD o) = true := by
  cases o with
  | none => rfl
  | some t => exact still_told t
def comeL (w m y : Option Told) : List (Option Told) := if PyData.eqv (oD y) (oD w) = true then [m] else if PyData.eqv (oD m) (oD y) = true then [m] else if PyData.eqv (oD m) (oD w) = true then [y] else []
theorem StAt.getO {K : PySem.W.Frag} {H : Hp} {v : V} {st : Stt} (h : StAt K H v st) (n : Str) : ∃ a o, v = .ref a ∧ IsD H a ∧ DGet H a (.str n) o ∧ Dp K H (o.getD .non) (oD (st.lookup n)) := by
  obtain ⟨a, e, d⟩ := DcAt.isD h
  cases el : st.lookup n with
  | none =>
    obtain ⟨a', e', g⟩ := StAt.none h el
    rw [e] at e'
    cases e'
    exact ⟨a, Option.none, e, d, g, .non⟩
  | some t =>
    obtain ⟨a', u, e', g, du⟩ := StAt.get h el
    rw [e] at e'
    cases e'
    exact ⟨a, some u, e, d, g, du⟩
section
variable {K : PySem.W.Frag} {J : It} {G : Hp → Prop} {α : Type} {R : V → α → Prop} {its : List α} {H1 : Hp} {g : TG} {tt : TT} {te tk tv : TE} {vs : List Nat} {σ : L2.St} {D : Addr} {Qd : Hp → Prop}
/-- a dict comprehension, its values by any lasting word -/
theorem dc_gen (hD : H1 D = none) (wk : Wk J its G R) (kf : α → Str) (Pw : α → V → Hp → Prop) (hP : ∀ a v H H', Keep H H' → Pw a v H → Pw a v H') (sz : its.length ≤ 100000) (nd : (its.map kf).Nodup) (hG : ∀ H', Same H1 H' → G H')
    (hs : ∀ x a H' (Kt : V → V → Hp → Prop), R x a → a ∈ its → Same H1 H' → (∀ z H5, Same H' H5 → Pw a z H5 → Kt (.str (kf a)) z H5) → g x (wipe σ vs) H' fun σ2 H2 => wipe σ2 vs = wipe σ vs ∧ tk σ2 H2 fun y H4 => tv σ2 H4 fun z H5 => Kt y z H5)
    (hd : ∀ kvs H', Same H1 H' → H' D = some (.dK kvs) → Paired (fun (p : Key × V) a => p.1 = Sum.inr (kf a) ∧ Pw a p.2 H') kvs its → Qd H') :
    ∃ W : Nat → Nat → Hp → Prop, (∃ m, W 0 m (upd H1 D (.dK []))) ∧ ∀ i m H, W i m H →
      (J.stop i H ∧ Qd H) ∨ (J.go i H ∧ ∃ Nx : Hp → Prop, (∀ H', Nx H' → ∃ m', m' < m ∧ W (i + 1) m' H') ∧ ∀ x H', J.yld i H x H' → g x (wipe σ vs) H' fun σ2 H2 => wipe σ2 vs = wipe σ vs ∧ tYes σ2 H2 fun b H3 =>
        if b = true then tk σ2 H3 fun y H4 => tv σ2 H4 fun z H5 => ∃ kvs k, y = kV k ∧ H5 D = some (.dK kvs) ∧ kvs.length < sizeLine ∧ Nx (upd H5 D (.dK (putK kvs k z))) else Nx H3) := by
  let Pv : Nat → Hp → Prop := fun i H' => Same H1 H' ∧ ∃ kvs, H' D = some (.dK kvs) ∧ Paired (fun (p : Key × V) a => p.1 = Sum.inr (kf a) ∧ Pw a p.2 H') kvs (its.take i)
  have h0 : Pv 0 (upd H1 D (.dK [])) := ⟨Same.new hD, [], upd_same, .nil⟩
  refine ⟨fun i m H => m = its.length - i ∧ i ≤ its.length ∧ Pv i H, ⟨its.length, by simp, Nat.zero_le _, h0⟩, ?_⟩
  rintro i m H ⟨rfl, hi, pv⟩
  have q := hG H pv.1
  by_cases hlt : i < its.length
  case neg =>
    have e : i = its.length := by omega
    subst e
    refine .inl ⟨wk.stops H q, ?_⟩
    obtain ⟨s1, kvs, hk, r⟩ := pv
    rw [List.take_length] at r
    exact hd kvs H s1 hk r
  case pos =>
  refine .inr ⟨wk.goes i H hlt q, Pv (i + 1), fun H' p' => ⟨its.length - (i + 1), by omega, rfl, hlt, p'⟩, fun x H' y => ?_⟩
  obtain ⟨rfl, a, ea, r⟩ := wk.yields i H x H' hlt q y
  obtain ⟨s1, kvs, hk, rk⟩ := pv
  have hlen : kvs.length ≤ its.length := by
    rw [Paired.length rk, List.length_take]; omega
  refine hs x a H' (fun y z H5 => ∃ kvs k, y = kV k ∧ H5 D = some (.dK kvs) ∧ kvs.length < sizeLine ∧ Pv (i + 1) (upd H5 D (.dK (putK kvs k z)))) r (List.mem_of_getElem? ea) s1 fun z H5 s5 dz => ?_
  refine ⟨kvs, Sum.inr (kf a), rfl, s5 _ _ hk, Nat.lt_of_le_of_lt hlen (Nat.lt_of_le_of_lt sz (by decide)), ?_⟩
  have kp : Keep H5 (upd H5 D (.dK (putK kvs (Sum.inr (kf a)) z))) := Keep.mut (s5 _ _ hk) rfl
  have nw : valV kvs (Sum.inr (kf a)) = none := by
    cases e : valV kvs (Sum.inr (kf a)) with
    | none => rfl
    | some u =>
      exfalso
      obtain ⟨p, hp, e1⟩ := List.mem_map.mp (valV_in e)
      obtain ⟨j, hj⟩ := List.getElem?_of_mem hp
      have : ∃ b, (its.take i)[j]? = some b ∧ p.1 = Sum.inr (kf b) := by
        have h : ∀ {l : List (Key × V)} {m : List α} {j : Nat} {p : Key × V}, Paired (fun (p : Key × V) a => p.1 = Sum.inr (kf a) ∧ Pw a p.2 H') l m → l[j]? = some p → ∃ b, m[j]? = some b ∧ p.1 = Sum.inr (kf b) := by
          intro l m j p hpair
          induction hpair generalizing j with
          | nil => intro h; simp at h
          | cons hh _ ih =>
            intro h
            cases j with
            | zero => simp at h; subst h; exact ⟨_, rfl, hh.1⟩
            | succ j => exact ih (by simpa using h)
        exact h rk hj
      obtain ⟨b, hb, eb⟩ := this
      have eb2 : kf b = kf a := Sum.inr.inj (eb.symm.trans e1)
      have hji : j < i := by
        have := (List.getElem?_eq_some_iff.mp hb).1
        rw [List.length_take] at this; omega
      have n1 : (its.map kf)[j]? = some (kf a) := by
        rw [List.getElem?_map]
        rw [List.getElem?_take_of_lt hji] at hb
        rw [hb]
        exact congrArg some eb2
      have n2 : (its.map kf)[i]? = some (kf a) := by rw [List.getElem?_map, ea]; rfl
      have := nodup_ix nd n1 n2
      omega
  refine ⟨Same.mut (s1.trans s5) hD, _, upd_same, ?_⟩
  rw [putK_new _ nw] at kp ⊢
  rw [List.take_add_one, ea]
  exact pair_append (Paired.mapP rk fun p b z => ⟨z.1, hP _ _ _ _ ((Keep.of s5).trans kp) z.2⟩) (.cons ⟨rfl, hP _ _ _ _ kp dz⟩ .nil)
end
theorem pair_get {α : Type} {kf : α → Str} {Pw : α → V → Hp → Prop} {H : Hp} : ∀ {kvs : List (Key × V)} {its : List α}, Paired (fun (p : Key × V) a => p.1 = Sum.inr (kf a) ∧ Pw a p.2 H) kvs its → ∀ {n : Str}, n ∈ its.map kf → ∃ a u, a ∈ its ∧ kf a = n ∧ valV kvs (Sum.inr n) = some u ∧ Pw a u H := by
  intro kvs its h
  induction h with
  | nil => intro n h; cases h
  | @cons p a ps as hh _ ih =>
    intro n hn
    by_cases e : p.1 = Sum.inr n
    · exact ⟨a, p.2, List.mem_cons_self, Sum.inr.inj (hh.1.symm.trans e), valV_pos e, hh.2⟩
    · rcases List.mem_cons.mp hn with z | z
      · exact absurd (hh.1.trans (congrArg Sum.inr z.symm)) e
      · obtain ⟨b, u, h1, h2, h3, h4⟩ := ih z
        exact ⟨b, u, List.mem_cons_of_mem _ h1, h2, by rw [valV_neg e]; exact h3, h4⟩
section
variable {P : Program} {w : World} {K : PySem.W.Frag} {mg : Str → Option Value} {base : Heap}
abbrev s_come : Stmt := (topS 55)
abbrev N_come : List Str := ["was", "mine", "yours"]
abbrev P_come : List Str := ["was", "mine", "yours"]
theorem sc_come : FnScope N_come P_come (defScope s_come) := ⟨rfl, rfl, rfl, by decide +kernel, rfl, by decide +kernel, by decide +kernel⟩
def spCome (K : PySem.W.Frag) : Sp := fun vs H Q _ => ∃ (a b c : V) (x y z : Option Told), vs = [a, b, c] ∧ Dp K H a (oD x) ∧ Dp K H b (oD y) ∧ Dp K H c (oD z) ∧ SeqAt.shaped (oD x) = true ∧ SeqAt.shaped (oD y) = true ∧ SeqAt.shaped (oD z) = true ∧
  ∀ p od us H', Same H H' → H' p = some (.frz od (.lst us)) → DpAll K H' us ((comeL x y z).map oD) → Q (.ref p) H'
theorem ok_come (F : At K mg "come" s_come P_come) : Df P w K mg base 1 "come" P_come (spCome K) := by
  refine F.ok sc_come (fun vs H Q E h => ?_) (fun f cdv A outer s H vs Q E hr h => ?_)
  · obtain ⟨a, b, c, x, y, z, rfl, _⟩ := h
    rfl
  · obtain ⟨a, b, c, x, y, z, rfl, da, db, dc, sx, sy, sz, k⟩ := h
    refine ⟨_, (pss_cons (ps_if (PW.pt (pw_or (pt_cmpR (k_eqD (K := K) rfl hr.units64) (pv 2) (pv 0) (nomark _)) (pw_or1 (pt_cmpR (k_eqD (K := K) rfl hr.units64) (pv 1) (pv 2) (nomark _))))) (pss_one (ps_ret (pe_frz (pe_lst (pa_cons (pv 1) pa_nil))))) pss_nil) (pss_one (ps_ret (pe_ifExp (pt_cmpR (k_eqD (K := K) rfl hr.units64) (pv 1) (pv 0) (nomark _)) (pe_frz (pe_lst (pa_cons (pv 2) pa_nil))) (pe_frz (pe_lst pa_nil)))))), ?_⟩
    have one : ∀ (v : V) (o : Option Told), Dp K H v (oD o) → comeL x y z = [o] → ∀ (p : Addr), H p = none → ∀ od, Q (.ref p) (upd (upd H p (.lst [v])) p (.frz od (.lst [v]))) := by
      intro v o dv e p hp od
      rw [upd_upd]
      refine k p od [v] _ (Same.new hp) upd_same ?_
      rw [e]
      exact .cons (Dp_same (Same.new hp) _ dv) .nil
    refine ⟨_, rfl, _, rfl, oD z, oD x, dc, da, sz, sx, _, rfl, ?_⟩
    refine ite2 (fun e => ?_) (fun e => ?_)
    · refine ⟨_, rfl, by show 1 ≤ sizeLine; decide, fun p hp => ⟨p, _, rfl, upd_same, True.intro, one b y db ?_ p hp⟩⟩
      unfold comeL
      rw [if_pos e]
    refine ⟨_, rfl, _, rfl, oD y, oD z, db, dc, sy, sz, _, rfl, ?_⟩
    refine ite2 (fun e2 => ?_) (fun e2 => ?_)
    · refine ⟨_, rfl, by show 1 ≤ sizeLine; decide, fun p hp => ⟨p, _, rfl, upd_same, True.intro, one b y db ?_ p hp⟩⟩
      unfold comeL
      rw [if_neg e, if_pos e2]
    refine ⟨_, rfl, _, rfl, oD y, oD x, db, da, sy, sx, _, rfl, ?_⟩
    refine ite2 (fun e3 => ?_) (fun e3 => ?_)
    · refine ⟨_, rfl, by show 1 ≤ sizeLine; decide, fun p hp => ⟨p, _, rfl, upd_same, True.intro, one c z dc ?_ p hp⟩⟩
      unfold comeL
      rw [if_neg e, if_neg e2, if_pos e3]
    · refine ⟨Nat.zero_le _, fun p hp => ⟨p, _, rfl, upd_same, True.intro, fun od => ?_⟩⟩
      rw [upd_upd]
      refine k p od [] _ (Same.new hp) upd_same ?_
      unfold comeL
      rw [if_neg e, if_neg e2, if_neg e3]
      exact .nil
abbrev s_need_none : Stmt := (topS 56)
abbrev N_need_none : List Str := ["names"]
abbrev P_need_none : List Str := ["names"]
theorem sc_need_none : FnScope N_need_none P_need_none (defScope s_need_none) := ⟨rfl, rfl, rfl, by decide +kernel, rfl, by decide +kernel, by decide +kernel⟩
def spNone (K : PySem.W.Frag) : Sp := fun vs H Q _ => ∃ (a : Addr), vs = [.ref a] ∧ SqL K H a [] ∧ ∀ H', Same H H' → Q .non H'
theorem ok_need_none (F : At K mg "need_none" s_need_none P_need_none) : Df P w K mg base 1 "need_none" P_need_none (spNone K) := by
  refine F.ok sc_need_none (fun vs H Q E h => ?_) (fun f cdv A outer s H vs Q E hr h => ?_)
  · obtain ⟨a, rfl, _⟩ := h
    rfl
  · obtain ⟨a, rfl, ha, k⟩ := h
    refine ⟨_, (pss_one (ps_if (pt_cmpR (k_neD (K := K) rfl hr.units64) (pv 0) (pe_lst pa_nil) (nomark _)) (pss_one ps_never) pss_nil)), ?_⟩
    refine ⟨_, rfl, Nat.zero_le _, fun q hq => ⟨.list [], .list [], .lst ((Same.new hq).seq ha) .nil, .lst (SqL.of upd_same) .nil, rfl, rfl, false, rfl, ?_⟩⟩
    refine iteF ?_
    exact k _ (Same.new hq)
end
end Bk
set_option Elab.async false
set_option linter.all false
set_option maxRecDepth 100000
set_option maxHeartbeats 4000000
namespace Bk
open PySem PySem.Spec PyProof.Rows L2 Gap
theorem mem_inr {l : List Str} {n : Str} : (Sum.inr n : Key) ∈ l.map Sum.inr ↔ n ∈ l := by
  rw [List.mem_map]
  exact ⟨fun ⟨m, hm, e⟩ => Sum.inr.inj e ▸ hm, fun h => ⟨n, h, rfl⟩⟩
theorem mergeK_keys : ∀ (more acc : List (Key × V)) (km ka : List Str), acc.map (·.1) = ka.map Sum.inr → more.map (·.1) = km.map Sum.inr → ka.Nodup →
    ∃ ns : List Str, (mergeK acc more).map (·.1) = ns.map Sum.inr ∧ ns.Nodup ∧ (∀ n, n ∈ ns ↔ n ∈ ka ∨ n ∈ km) ∧ ns.length ≤ ka.length + km.length
  | [], acc, km, ka, ha, hm, nd => by
    have : km = [] := by
      cases km with
      | nil => rfl
      | cons a b => cases hm
    subst this
    exact ⟨ka, ha, nd, fun n => by simp, by simp⟩
  | p :: more, acc, km, ka, ha, hm, nd => by
    cases km with
    | nil => cases hm
    | cons k km =>
      rw [List.map_cons, List.map_cons] at hm
      have e1 : p.1 = Sum.inr k := (List.cons.inj hm).1
      have e2 := (List.cons.inj hm).2
      have hk : (putK acc p.1 p.2).map (·.1) = (if k ∈ ka then ka else ka ++ [k]).map Sum.inr := by
        rw [keys_putK, ha, e1]
        by_cases h : k ∈ ka
        · rw [if_pos h, if_pos (mem_inr.mpr h)]
        · rw [if_neg h, if_neg (fun z => h (mem_inr.mp z)), List.map_append]
          rfl
      have nd2 : (if k ∈ ka then ka else ka ++ [k]).Nodup := by
        split
        · exact nd
        · rename_i h
          rw [List.nodup_append]
          refine ⟨nd, by simp, fun a ha b hb => ?_⟩
          rw [List.mem_singleton] at hb
          subst hb
          exact fun z => h (z ▸ ha)
      obtain ⟨ns, h1, h2, h3, h4⟩ := mergeK_keys more (putK acc p.1 p.2) km _ hk e2 nd2
      refine ⟨ns, h1, h2, fun n => ?_, ?_⟩
      · rw [h3 n]
        split
        · rename_i h
          constructor
          · rintro (z | z)
            · exact .inl z
            · exact .inr (List.mem_cons_of_mem _ z)
          · rintro (z | z)
            · exact .inl z
            · rcases List.mem_cons.mp z with q | q
              · exact .inl (q ▸ h)
              · exact .inr q
        · rw [List.mem_append, List.mem_singleton, List.mem_cons]
          constructor
          · rintro ((z | z) | z)
            · exact .inl z
            · exact .inr (.inl z)
            · exact .inr (.inr z)
          · rintro (z | z | z)
            · exact .inl (.inl z)
            · exact .inl (.inr z)
            · exact .inr z
      · have : (if k ∈ ka then ka else ka ++ [k]).length ≤ ka.length + 1 := by
          split
          · omega
          · rw [List.length_append, List.length_singleton]; omega
        rw [List.length_cons]
        omega
def allK (s0 s1 s2 : Stt) (n : Str) : Prop := n ∈ keysOf s0 ∨ n ∈ keysOf s1 ∨ n ∈ keysOf s2
/-- a state is what has come -/
structure Came (s0 s1 s2 : Stt) (c : Str → Option Told) (st' : Stt) : Prop where
  nd : (keysOf st').Nodup
  srt : (∀ n, allK s0 s1 s2 n → (c n).isSome = true) → sortedS (keysOf st') = true
  yes : ∀ n, allK s0 s1 s2 n → st'.lookup n = c n
  no : ∀ n, ¬ allK s0 s1 s2 n → st'.lookup n = none
section
variable {P : Program} {w : World} {K : PySem.W.Frag} {mg : Str → Option Value} {base : Heap}
abbrev s_merged : Stmt := (topS 57)
abbrev N_merged : List Str := ["was", "mine", "yours", "names", "rows", "state", "name", "other"]
abbrev P_merged : List Str := ["was", "mine", "yours"]
theorem sc_merged : FnScope N_merged P_merged (defScope s_merged) := ⟨rfl, rfl, rfl, by decide +kernel, rfl, by decide +kernel, by decide +kernel⟩
def spMerged (K : PySem.W.Frag) : Sp := fun vs H Q _ => ∃ (x y z : V) (s0 s1 s2 : Stt) (c : Str → Option Told), vs = [x, y, z] ∧ StAt K H x s0 ∧ StAt K H y s1 ∧ StAt K H z s2 ∧ (keysOf s0).Nodup ∧ (keysOf s1).Nodup ∧ (keysOf s2).Nodup ∧ s0.length + s1.length + s2.length ≤ 60 ∧
  (∀ n, SeqAt.shaped (oD (s0.lookup n)) = true ∧ SeqAt.shaped (oD (s1.lookup n)) = true ∧ SeqAt.shaped (oD (s2.lookup n)) = true) ∧ (∀ n, allK s0 s1 s2 n → comeL (s0.lookup n) (s1.lookup n) (s2.lookup n) = [c n]) ∧
  (∀ st', Came s0 s1 s2 c st' → ∃ v w L r, Good st' v w L r) ∧ ∀ u st' H', Same H H' → StAt K H' u st' → Came s0 s1 s2 c st' → Q u H'
theorem ok_merged (F : At K mg "merged" s_merged P_merged) (C : Gs K mg) (D_come : Df P w K mg base 1 "come" P_come (spCome K)) (D_need_none : Df P w K mg base 1 "need_none" P_need_none (spNone K)) (D_used : Df P w K mg base 2 "used" P_used (spUsed K)) (D_hanging : Df P w K mg base 4 "hanging" P_hanging (spHanging K)) :
    Df P w K mg base 5 "merged" P_merged (spMerged K) := by
  refine F.ok sc_merged (fun vs H Q E h => ?_) (fun f cdv A outer s H vs Q E hr h => ?_)
  · obtain ⟨x, y, z, s0, s1, s2, c, rfl, _⟩ := h
    rfl
  · obtain ⟨x, y, z, s0, s1, s2, c, rfl, hx, hy, hz, nd0, nd1, nd2, len, shp, cm, gd, k⟩ := h
    have hu := hu_of hr
    obtain ⟨d0, od0, k0, rfl, hd0, r0⟩ := id hx
    obtain ⟨d1, od1, k1, rfl, hd1, r1⟩ := id hy
    obtain ⟨d2, od2, k2, rfl, hd2, r2⟩ := id hz
    have ek : ∀ {kv : List (Key × V)} {st : Stt}, KVD K H kv (stD st) → kv.map (·.1) = (keysOf st).map Sum.inr ∧ kv.length = st.length := fun r => by
      refine ⟨?_, by rw [r.length]; exact List.length_map _⟩
      have := r.keys
      rw [stD_keys] at this
      exact this
    obtain ⟨ek0, el0⟩ := ek r0
    obtain ⟨ek1, el1⟩ := ek r1
    obtain ⟨ek2, el2⟩ := ek r2
    obtain ⟨na, ea, nda, ma, la⟩ := mergeK_keys k0 [] (keysOf s0) [] rfl ek0 List.nodup_nil
    obtain ⟨nb, eb, ndb, mb, lb⟩ := mergeK_keys k1 _ (keysOf s1) na ea ek1 nda
    obtain ⟨nc, ec, ndc, mc, lc⟩ := mergeK_keys k2 _ (keysOf s2) nb eb ek2 ndb
    have allIff : ∀ n, n ∈ nc ↔ allK s0 s1 s2 n := fun n => by
      rw [mc, mb, ma]
      unfold allK
      simp [or_assoc]
    have lenc : nc.length ≤ 60 := by
      simp only [List.length_map, List.length_nil] at la lb lc
      omega
    have big : ∀ {a b : Nat}, a + b ≤ 60 → a + b ≤ sizeLine := fun h => Nat.le_trans h (by decide)
    refine ⟨_, (pss_cons (ps_set (i := 3) sc_merged.nd rfl (Or.inl rfl) (pe_callB (k_sortedD rfl) (by rfl) C.sorted (by decide +kernel) (pa_cons (pe_mg3 (pv 0) (pv 1) (pv 2)) pa_nil))) (pss_cons (ps_set (i := 4) sc_merged.nd rfl (Or.inr rfl) (pe_dc (own := [("name", 6)]) (g := gName 6) (tt := tYes) rfl sc_merged.nd (k_pi_list (K := K) rfl (pv 3)) (blkOk_by (own := [("name", 6)]) (N := N_merged) (sc := (defScope s_merged)) (by decide +kernel)) (fun _ _ _ _ _ => (pg_name (i := 6) sc_merged.nd rfl (Or.inl rfl))) (fun _ _ _ _ _ => pts_nil) (fun _ _ _ _ _ => (pv 6)) (fun _ _ _ _ _ => (pe_df D_come (hr.mono (by decide)) (pa_cons (pe_dget1 hu (pv 0) (pv 6) ⟨rfl, rfl, rfl, rfl⟩) (pa_cons (pe_dget1 hu (pv 1) (pv 6) ⟨rfl, rfl, rfl, rfl⟩) (pa_cons (pe_dget1 hu (pv 2) (pv 6) ⟨rfl, rfl, rfl, rfl⟩) pa_nil))))))) (pss_cons (ps_expr (pe_df D_need_none (hr.mono (by decide)) (pa_cons (pe_lc (own := [("name", 6)]) (g := gName 6) rfl sc_merged.nd (k_pi_list (K := K) rfl (pv 3)) (blkOk_by (own := [("name", 6)]) (N := N_merged) (sc := (defScope s_merged)) (by decide +kernel)) (fun _ _ _ _ _ => (pg_name (i := 6) sc_merged.nd rfl (Or.inl rfl))) (fun _ _ _ _ _ => (pts_one (pt_cmpR (k_eqD (K := K) rfl hr.units64) (pe_dget hu (pv 4) (pv 6) (fun _ _ => rfl)) (pe_lst pa_nil) (nomark _)))) (fun _ _ _ _ _ => (pv 6))) pa_nil))) (pss_cons (ps_frz 5 (ps_set (i := 5) sc_merged.nd rfl (Or.inr rfl) (pe_dc (own := [("name", 6)]) (g := gName 6) rfl sc_merged.nd (k_pi_list (K := K) rfl (pv 3)) (blkOk_by (own := [("name", 6)]) (N := N_merged) (sc := (defScope s_merged)) (by decide +kernel)) (fun _ _ _ _ _ => (pg_name (i := 6) sc_merged.nd rfl (Or.inl rfl))) (fun _ _ _ _ _ => (pts_one (pt_cmpR op_notN (pe_ix (k_ix_list (K := K) rfl) (pe_dget hu (pv 4) (pv 6) (fun _ _ => rfl)) pe_int (fun _ _ => rfl)) pe_non (nomark _)))) (fun _ _ _ _ _ => (pv 6)) (fun _ _ _ _ _ => (pe_ix (k_ix_list (K := K) rfl) (pe_dget hu (pv 4) (pv 6) (fun _ _ => rfl)) pe_int (fun _ _ => rfl)))))) (pss_cons (ps_expr (pe_df D_need_none (hr.mono (by decide)) (pa_cons (pe_lc (own := [("name", 6)]) (g := gName 6) rfl sc_merged.nd (pi_keys (pv 5)) (blkOk_by (own := [("name", 6)]) (N := N_merged) (sc := (defScope s_merged)) (by decide +kernel)) (fun _ _ _ _ _ => (pg_name (i := 6) sc_merged.nd rfl (Or.inl rfl))) (fun _ _ _ _ _ => (pts_one (pt_val (pe_callB (k_any (K := K) rfl rfl) (by rfl) C.b_any (by decide +kernel) (pa_cons (pe_lc (own := [("other", 7)]) (g := gName 7) (tt := tYes) rfl sc_merged.nd (k_pi_list (K := K) rfl (pe_df D_used (hr.mono (by decide)) (pa_cons (pe_dget hu (pv 5) (pv 6) (fun _ _ => rfl)) pa_nil))) (blkOk_by (own := [("other", 7)]) (N := N_merged) (sc := ({ kind := .function, names := [(".0", .local), ("name", .local), ("any", .globalImplicit), ("used", .globalImplicit), ("state", .cell)], isGenerator := false, isCoroutine := false } : Scope)) (by decide +kernel)) (fun _ _ _ _ _ => (pg_name (i := 7) sc_merged.nd rfl (Or.inl rfl))) (fun _ _ _ _ _ => pts_nil) (fun _ _ _ _ _ => (pe_cmp (pc_dnotin hu (pv 7) (pv 5))))) pa_nil))))) (fun _ _ _ _ _ => (pv 6))) pa_nil))) (pss_cons (ps_expr (pe_df D_need_none (hr.mono (by decide)) (pa_cons (pe_lc (own := [("name", 6)]) (g := gName 6) rfl sc_merged.nd (pi_keys (pv 5)) (blkOk_by (own := [("name", 6)]) (N := N_merged) (sc := (defScope s_merged)) (by decide +kernel)) (fun _ _ _ _ _ => (pg_name (i := 6) sc_merged.nd rfl (Or.inl rfl))) (fun _ _ _ _ _ => (pts_one (pt_cmpR (k_in_seq (K := K) rfl) (pv 6) (pe_df D_hanging (hr.mono (by decide)) (pa_cons (pv 5) (pa_cons (pv 6) pa_nil))) (by rfl)))) (fun _ _ _ _ _ => (pv 6))) pa_nil))) (pss_one (ps_ret (pv 5))))))))), ?_⟩
    intro p hp
    have np : ∀ {d : Addr} {o : HO}, H d = some o → p ≠ d := fun h z => by rw [z] at hp; rw [hp] at h; cases h
    have keepd : ∀ {d : Addr} {o u : HO}, H d = some o → (upd H p u) d = some o := fun h => Same.new hp _ _ h
    refine ⟨_, rfl, d0, k0, rfl, np hd0, upd_same, .inr ⟨od0, keepd hd0⟩, ?_⟩
    rw [upd_upd]
    refine ⟨_, rfl, d1, k1, rfl, np hd1, upd_same, .inr ⟨od1, keepd hd1⟩, big (by omega), ?_⟩
    rw [upd_upd]
    refine ⟨_, rfl, d2, k2, rfl, np hd2, upd_same, .inr ⟨od2, keepd hd2⟩, Nat.le_trans (show k0.length + k1.length + k2.length ≤ 60 by omega) (by decide), ?_⟩
    rw [upd_upd]
    refine ⟨p, _, nc, rfl, .inl upd_same, ec, by omega, fun ys l perm sd hl => ?_⟩
    have ysn : ys.Nodup := perm.nodup_iff.mpr ndc
    have ysm : ∀ n, n ∈ ys ↔ allK s0 s1 s2 n := fun n => by rw [perm.mem_iff, allIff]
    have ysl : ys.length ≤ 60 := by rw [perm.length_eq]; exact lenc
    have s1' := (Same.new (o := .dK (mergeK (mergeK (mergeK [] k0) k1) k2)) hp).trans (Same.new (o := .lst (ys.map V.str)) hl)
    have hys : (upd (upd H p (.dK (mergeK (mergeK (mergeK [] k0) k1) k2))) l (.lst (ys.map V.str))) l = some (.lst (ys.map V.str)) := upd_same
    generalize upd (upd H p (.dK (mergeK (mergeK (mergeK [] k0) k1) k2))) l (.lst (ys.map V.str)) = H1 at s1' hys
    -- rows
    refine ⟨_, rfl, l, rfl, ⟨_, SqL.of hys⟩, fun D hD => dc_gen hD (wk_list (paired_map ys)) (fun n => n) (fun n v H' => ∃ a od u, v = .ref a ∧ H' a = some (.frz od (.lst [u])) ∧ Dp K H' u (oD (c n))) ?_ (by omega) (by rw [List.map_id']; exact ysn) (fun H' s => SqL.of (s _ _ hys)) ?_ ?_⟩
    · rintro n v H5 H6 kp ⟨a, od, u, rfl, ha, du⟩
      exact ⟨a, od, u, rfl, kp _ _ ha rfl, Dp_keep kp _ (still_o _) du⟩
    · rintro x n H' Kt rfl m s2' k1'
      obtain ⟨a0, o0, e0, i0, g0, q0⟩ := StAt.getO (DcAt_same (s1'.trans s2') hx) n
      obtain ⟨a1, o1, e1, i1, g1, q1⟩ := StAt.getO (DcAt_same (s1'.trans s2') hy) n
      obtain ⟨a2, o2, e2, i2, g2, q2⟩ := StAt.getO (DcAt_same (s1'.trans s2') hz) n
      obtain ⟨h0, h1, h2⟩ := shp n
      refine ⟨rfl, _, rfl, _, rfl, a0, e0, i0, _, rfl, o0, g0, _, rfl, a1, e1, i1, _, rfl, o1, g1, _, rfl, a2, e2, i2, _, rfl, o2, g2, _, _, _, _, _, _, rfl, q0, q1, q2, h0, h1, h2, fun pl od us H5 s5 hl5 dus => k1' _ _ s5 ?_⟩
      rw [cm n ((ysm n).mp m)] at dus
      cases dus with
      | cons du dn =>
        cases dn
        exact ⟨pl, od, _, rfl, hl5, du⟩
    · intro kvr H2 s2' hDr hrows
      have s12 := s1'.trans s2'
      have row : ∀ {n : Str} {H' : Hp}, n ∈ ys → Same H2 H' → ∃ a od u, DGet H' D (.str n) (some (.ref a)) ∧ H' a = some (.frz od (.lst [u])) ∧ Dp K H' u (oD (c n)) := by
        intro n H' hn sH
        obtain ⟨b, u, _, rfl, ev, a, od, u2, rfl, ha, du⟩ := pair_get (kf := fun n => n) (Pw := fun n v H' => ∃ a od u, v = .ref a ∧ H' a = some (.frz od (.lst [u])) ∧ Dp K H' u (oD (c n))) hrows (n := n) (by rw [List.map_id']; exact hn)
        refine ⟨a, od, u2, ?_, sH _ _ ha, Dp_same sH _ du⟩
        rw [← ev]
        exact DGet.k (k := Sum.inr b) (sH _ _ hDr)
      -- no name clashes
      refine ⟨_, rfl, l, rfl, ⟨_, SqL.of (s2' _ _ hys)⟩, fun D2 hD2 => lc_pure (K := K) hD2 (wk_list (paired_map ys)) (fun _ => false) (fun n => PyData.str n) (by omega) (fun H' s => SqL.of (s _ _ (s2' _ _ hys))) (fun _ _ _ => rfl) ?_ ?_⟩
      · rintro x n H' Kt Kf rfl m s3 k1' k2'
        obtain ⟨a, od, u, hg, ha, du⟩ := row m s3
        have sl : still (oD (c n)) = true := still_o _
        have shc : SeqAt.shaped (.list [oD (c n)]) = true := by
          obtain ⟨h0, h1, h2⟩ := shp n
          have := cm n ((ysm n).mp m)
          have hs : SeqAt.shaped (oD (c n)) = true := by
            unfold comeL at this
            split at this
            · rw [← (List.cons.inj this).1]; exact h1
            · split at this
              · rw [← (List.cons.inj this).1]; exact h1
              · split at this
                · rw [← (List.cons.inj this).1]; exact h2
                · cases this
          have hc := SeqAt.canLay_of_shaped hs
          have hd : (oD (c n)).depth ≤ 3 := by
            cases c n with
            | none => exact Nat.zero_le _
            | some t =>
              cases t with
              | mv mm =>
                show max 0 (max (max 0 (max 0 (max 0 (max 0 0))) + 1) 0) + 1 ≤ 3
                decide
              | wd ls =>
                show max 0 (max (PyData.depthAll (ls.map letD) + 1) 0) + 1 ≤ 3
                have := depth_lets ls
                omega
          show ((PyData.canLay0 (oD (c n)) && true) && decide (max (oD (c n)).depth 0 + 1 ≤ 64)) = true
          rw [hc, decide_eq_true (by omega)]
          rfl
        refine ⟨rfl, _, rfl, _, rfl, D, _, rfl, hg, Nat.zero_le _, fun q hq => ?_⟩
        refine ⟨.list [oD (c n)], .list [], .lst (.inl (.inr ⟨od, Same.new hq _ _ ha⟩)) (.cons (Dp_same (Same.new hq) _ du) .nil), .lst (SqL.of upd_same) .nil, shc, rfl, false, rfl, ?_⟩
        refine iteF ?_
        exact k2' rfl _ (Same.new hq)
      · intro zs H3 s3 hz3 dz3
        have e0 : (ys.filter fun _ => false) = [] := List.filter_eq_nil_iff.mpr fun _ _ => by decide
        rw [e0] at dz3
        cases dz3
        refine ⟨D2, rfl, SqL.of hz3, fun H4 s4 => ?_⟩
        have s24 := s3.trans s4
        -- state
        refine ⟨_, rfl, l, rfl, ⟨_, SqL.of (s24 _ _ (s2' _ _ hys))⟩, fun D3 hD3 => dc_pure (K := K) hD3 (wk_list (paired_map ys)) (fun n => (c n).isSome) (fun n => n) (fun n => oD (c n)) (by omega) (by rw [List.map_id']; exact ysn) (fun H' s => SqL.of (s _ _ (s24 _ _ (s2' _ _ hys)))) (fun _ _ _ => still_o _) ?_ ?_⟩
        · rintro x n H' Kt Kf rfl m s5 k1' k2'
          obtain ⟨a, od, u, hg, ha, du⟩ := row m (s24.trans s5)
          refine ⟨rfl, _, rfl, _, rfl, D, _, rfl, hg, a, _, _, _, rfl, rfl, .inl (.inr ⟨od, ha⟩), atI_nat (j := 0) rfl, rfl, !decide (u = .non), rfl, ?_⟩
          cases ec' : c n with
          | none =>
            rw [ec'] at du
            cases du.non_eq
            exact k2' (by rw [ec']; rfl) _ (Same.refl _)
          | some t =>
            rw [ec'] at du
            obtain ⟨b, y, rfl, hb, dy⟩ := dp_told du
            refine ⟨_, rfl, _, rfl, _, rfl, D, _, rfl, hg, a, _, _, _, rfl, rfl, .inl (.inr ⟨od, ha⟩), atI_nat (j := 0) rfl, k1' (by rw [ec']; rfl) _ _ (Same.refl _) (by rw [ec']; exact du)⟩
        · intro kv3 H5 s5 hD5 r5
          refine ⟨D3, _, rfl, hD5, True.intro, fun od5 => ?_⟩
          have s45 : Same H (upd H5 D3 (.frz od5 (.dK kv3))) := Same.mut ((s12.trans s24).trans s5) ((s12.trans s24).free hD3)
          let os := ys.filter fun n => (c n).isSome
          let st' : Stt := os.map fun n => (n, (c n).getD (.wd []))
          have kst : keysOf st' = os := by
            show keysOf (os.map fun n => (n, (c n).getD (.wd []))) = os
            unfold keysOf
            rw [List.map_map]
            exact List.map_id' os
          have ndo : os.Nodup := List.Pairwise.filter _ ysn
          have osm : ∀ n, n ∈ os ↔ n ∈ ys ∧ (c n).isSome = true := fun n => List.mem_filter
          have hst : StAt K (upd H5 D3 (.frz od5 (.dK kv3))) (.ref D3) st' := by
            refine ⟨D3, od5, kv3, rfl, upd_same, ?_⟩
            have e : stD st' = os.map fun n => (n, oD (c n)) := by
              show stD (os.map fun n => (n, (c n).getD (.wd []))) = _
              unfold stD
              rw [List.map_map]
              refine List.map_congr_left fun n hn => ?_
              obtain ⟨_, h⟩ := (osm n).mp hn
              show (n, toldD ((c n).getD (.wd []))) = (n, oD (c n))
              cases e : c n with
              | none => rw [e] at h; cases h
              | some t => rfl
            rw [e]
            exact KVD_keep (Keep.mut hD5 rfl) (stillKV_map (fun n => n) (fun n => oD (c n)) (fun n => still_o _) os) r5
          have came : Came s0 s1 s2 c st' := by
            refine ⟨by rw [kst]; exact ndo, fun hall => ?_, fun n hn => ?_, fun n hn => ?_⟩
            · rw [kst]
              have : os = ys := List.filter_eq_self.mpr fun n hn => hall n ((ysm n).mp hn)
              rw [this]
              exact sd
            · by_cases h : (c n).isSome = true
              · have hm : n ∈ os := (osm n).mpr ⟨(ysm n).mpr hn, h⟩
                show (os.map fun n => (n, (c n).getD (.wd []))).lookup n = _
                rw [lookup_mapf (fun n => (c n).getD (.wd [])) hm]
                cases e : c n with
                | none => rw [e] at h; cases h
                | some t => rfl
              · show (os.map fun n => (n, (c n).getD (.wd []))).lookup n = _
                rw [lookup_mapf_none (fun n => (c n).getD (.wd [])) (fun z => h ((osm n).mp z).2)]
                cases e : c n with
                | none => rfl
                | some t => rw [e] at h; exact absurd rfl h
            · show (os.map fun n => (n, (c n).getD (.wd []))).lookup n = _
              exact lookup_mapf_none (fun n => (c n).getD (.wd [])) fun z => hn ((ysm n).mp ((osm n).mp z).1)
          obtain ⟨v, wt, L, r, g⟩ := gd st' came
          have hst0 := hst
          generalize upd H5 D3 (.frz od5 (.dK kv3)) = H6 at s45 hst hst0
          obtain ⟨d6, od6, kv6, e6, hd6, r6⟩ := hst
          have ek6 : kv6.map (·.1) = (keysOf st').map Sum.inr := by
            have := r6.keys
            rw [stD_keys] at this
            exact this
          have lst : (keysOf st').length ≤ 60 := by
            rw [kst]
            exact Nat.le_trans (List.length_filter_le _ _) ysl
          -- what is used has come
          refine ⟨_, rfl, d6, od6, e6, .inl ⟨kv6, hd6, fun D7 hD7 => lc_pure (K := K) hD7 (wk_keys ek6) (fun _ => false) (fun n => PyData.str n) (by omega) (fun H' s => s _ _ hd6) (fun _ _ _ => rfl) ?_ ?_⟩⟩
          · rintro x n H' Kt Kf rfl m s7 k1' k2'
            obtain ⟨t', et'⟩ := of_key m
            obtain ⟨d7, u7, ed7, g7, du7⟩ := (DcAt_same s7 hst0).get (by rw [stD_lookup, et']; rfl)
            refine ⟨rfl, _, rfl, _, rfl, d7, u7, ed7, g7, u7, t', rfl, du7, Nat.le_trans (g.ll n t' et') (by decide), fun us pl H8 hp8 s8 hus em el => ⟨pl, rfl, ⟨_, SqL.of hus⟩, fun D9 hD9 => lc_map (K := K) hD9 (wk_list (paired_map us)) (fun _ => PyData.bool false) (by omega) (fun H' s => SqL.of (s _ _ hus)) (fun _ _ => rfl) ?_ ?_⟩⟩
            · rintro x2 o H9 Kt2 rfl m9 s9 k9
              obtain ⟨ko, _⟩ := g.rank (n := o) (o := n) ⟨t', et', (em o).mp m9⟩
              obtain ⟨to, eto⟩ := of_key ko
              obtain ⟨d10, u10, ed10, g10, du10⟩ := (DcAt_same ((s7.trans s8).trans s9) hst0).get (by rw [stD_lookup, eto]; rfl)
              exact ⟨rfl, _, rfl, _, rfl, d10, _, ed10, g10, k9 _ _ (Same.refl _) (.bl _)⟩
            · intro zs9 H10 s10 hz10 dz10
              have e10 := DpAll.map_bools (ns := us.map fun _ => false) (by rw [List.map_map]; exact dz10)
              subst e10
              refine ⟨D9, _, rfl, SqL.of hz10, false, ?_, ?_⟩
              · rw [show ((us.map fun _ => false).any id) = false from by simp]
              refine iteF ?_
              exact k2' rfl _ (s8.trans s10)
          · intro zs7 H7 s7 hz7 dz7
            have e7 : ((keysOf st').filter fun _ => false) = [] := List.filter_eq_nil_iff.mpr fun _ _ => by decide
            rw [e7] at dz7
            cases dz7
            refine ⟨D7, rfl, SqL.of hz7, fun H8 s8 => ?_⟩
            have s68 := s7.trans s8
            -- no name hangs on itself
            refine ⟨_, rfl, d6, od6, e6, .inl ⟨kv6, s68 _ _ hd6, fun D9 hD9 => lc_pure (K := K) hD9 (wk_keys ek6) (fun _ => false) (fun n => PyData.str n) (by omega) (fun H' s => s _ _ (s68 _ _ hd6)) (fun _ _ _ => rfl) ?_ ?_⟩⟩
            · rintro x n H' Kt Kf rfl m s9 k1' k2'
              refine ⟨rfl, _, rfl, _, rfl, _, rfl, _, st', n, rfl, DcAt_same (s68.trans s9) hst0, m, g.small, fun us pl H10 hp10 s10 hus _ em => ?_⟩
              refine ⟨pl, _, rfl, .inl (SqL.of hus), rfl, flat_strs _, false, ?_, ?_⟩
              · show V.bl (if false = true then !inV (.str n) (us.map V.str) else inV (.str n) (us.map V.str)) = _
                rw [if_neg (show ¬ false = true by decide), inV_strs]
                exact bl_f fun z => g.noloop ((em n).mp z)
              refine iteF ?_
              exact k2' rfl _ s10
            · intro zs9 H9 s9 hz9 dz9
              rw [e7] at dz9
              cases dz9
              refine ⟨D9, rfl, SqL.of hz9, fun H10 s10 => ?_⟩
              exact ⟨_, rfl, k _ st' _ (s45.trans ((s68.trans s9).trans s10)) (DcAt_same ((s68.trans s9).trans s10) hst0) came⟩
end
end Bk
set_option Elab.async false
set_option linter.all false
set_option maxRecDepth 100000
set_option maxHeartbeats 4000000
namespace Bk
open PySem PySem.Spec PyProof.Rows L2 Gap
/-! ### a house: its parts -/
def fl (a1 a2 a3 a4 : Addr) (z : Str) : List (Str × V) := [("states", .ref a1), ("elders", .ref a2), ("deeds", .ref a3), ("ways", .ref a4), ("stand", .str z)]
theorem n12 : ("states" : Str) ≠ "elders" := by decide +kernel
theorem n13 : ("states" : Str) ≠ "deeds" := by decide +kernel
theorem n14 : ("states" : Str) ≠ "ways" := by decide +kernel
theorem n15 : ("states" : Str) ≠ "stand" := by decide +kernel
theorem n23 : ("elders" : Str) ≠ "deeds" := by decide +kernel
theorem n24 : ("elders" : Str) ≠ "ways" := by decide +kernel
theorem n25 : ("elders" : Str) ≠ "stand" := by decide +kernel
theorem n34 : ("deeds" : Str) ≠ "ways" := by decide +kernel
theorem n35 : ("deeds" : Str) ≠ "stand" := by decide +kernel
theorem n45 : ("ways" : Str) ≠ "stand" := by decide +kernel
theorem lk_hit {n : Str} {v : V} {r : List (Str × V)} : List.lookup n ((n, v) :: r) = some v := by rw [List.lookup_cons, beq_self_eq_true]
theorem lk_skip {n m : Str} {v : V} {r : List (Str × V)} (h : n ≠ m) : List.lookup n ((m, v) :: r) = List.lookup n r := by rw [List.lookup_cons, str_ne h]
section
variable {a1 a2 a3 a4 : Addr} {z : Str}
theorem fl_1 : (fl a1 a2 a3 a4 z).lookup ("states" : Str) = some (.ref a1) := lk_hit
theorem fl_2 : (fl a1 a2 a3 a4 z).lookup ("elders" : Str) = some (.ref a2) := (lk_skip n12.symm).trans lk_hit
theorem fl_3 : (fl a1 a2 a3 a4 z).lookup ("deeds" : Str) = some (.ref a3) := (lk_skip n13.symm).trans ((lk_skip n23.symm).trans lk_hit)
theorem fl_4 : (fl a1 a2 a3 a4 z).lookup ("ways" : Str) = some (.ref a4) := (lk_skip n14.symm).trans ((lk_skip n24.symm).trans ((lk_skip n34.symm).trans lk_hit))
theorem fl_5 : (fl a1 a2 a3 a4 z).lookup ("stand" : Str) = some (.str z) := (lk_skip n15.symm).trans ((lk_skip n25.symm).trans ((lk_skip n35.symm).trans ((lk_skip n45.symm).trans lk_hit)))
theorem fl_no {m : Str} (h : m ∉ (["states", "elders", "deeds", "ways", "stand"] : List Str)) : (fl a1 a2 a3 a4 z).lookup m = none := by
  simp only [List.mem_cons, List.not_mem_nil, or_false, not_or] at h
  obtain ⟨h1, h2, h3, h4, h5⟩ := h
  exact (lk_skip h1).trans ((lk_skip h2).trans ((lk_skip h3).trans ((lk_skip h4).trans ((lk_skip h5).trans rfl))))
theorem pf_hit {n : Str} {v u : V} {r : List (Str × V)} : putF n v ((n, u) :: r) = (n, v) :: r := if_pos rfl
theorem pf_skip {n m : Str} {v u : V} {r : List (Str × V)} (h : m ≠ n) : putF n v ((m, u) :: r) = (m, u) :: putF n v r := if_neg h
theorem pf_1 {b : Addr} : putF "states" (.ref b) (fl a1 a2 a3 a4 z) = fl b a2 a3 a4 z := pf_hit
theorem pf_2 {b : Addr} : putF "elders" (.ref b) (fl a1 a2 a3 a4 z) = fl a1 b a3 a4 z := (pf_skip n12).trans (congrArg (List.cons _) pf_hit)
theorem pf_3 {b : Addr} : putF "deeds" (.ref b) (fl a1 a2 a3 a4 z) = fl a1 a2 b a4 z := (pf_skip n13).trans (congrArg (List.cons _) ((pf_skip n23).trans (congrArg (List.cons _) pf_hit)))
theorem pf_4 {b : Addr} : putF "ways" (.ref b) (fl a1 a2 a3 a4 z) = fl a1 a2 a3 b z := (pf_skip n14).trans (congrArg (List.cons _) ((pf_skip n24).trans (congrArg (List.cons _) ((pf_skip n34).trans (congrArg (List.cons _) pf_hit)))))
theorem pf_5 {y : Str} : putF "stand" (.str y) (fl a1 a2 a3 a4 z) = fl a1 a2 a3 a4 y := (pf_skip n15).trans (congrArg (List.cons _) ((pf_skip n25).trans (congrArg (List.cons _) ((pf_skip n35).trans (congrArg (List.cons _) ((pf_skip n45).trans (congrArg (List.cons _) pf_hit)))))))
end
structure Wy where
  nm : Str
  tr : List Int
  pl : Nat
structure Hs where
  sts : List Stt
  els : List (List Int)
  ways : List Wy
  stand : Str
def intsD (l : List Int) : PyData := .tuple (l.map PyData.int)
def wyD (w : Wy) : PyData := .tuple [.str w.nm, intsD w.tr, .int (w.pl : Int)]
theorem still_ints (l : List Int) : still (intsD l) = true := stillAll_map PyData.int (fun _ => rfl) l
theorem still_wy (w : Wy) : still (wyD w) = true := by
  show (true && (still (intsD w.tr) && (true && true))) = true
  rw [still_ints]
  rfl
theorem dp_ints {K : PySem.W.Frag} {H : Hp} {v : V} {l : List Int} (h : Dp K H v (intsD l)) : ∃ a, v = .ref a ∧ SqT K H a (l.map V.int) := by
  obtain ⟨a, xs, e, q, r⟩ := h.tup_of
  exact ⟨a, e, by rw [← r.map_ints]; exact q⟩
theorem mk_ints {K : PySem.W.Frag} {H : Hp} {a : Addr} {l : List Int} (h : SqT K H a (l.map V.int)) : Dp K H (.ref a) (intsD l) := .tup h (DpAll.of_ints l)
theorem dp_wy {K : PySem.W.Frag} {H : Hp} {v : V} {w : Wy} (h : Dp K H v (wyD w)) : ∃ a b, v = .ref a ∧ SqT K H a [.str w.nm, .ref b, .int (w.pl : Int)] ∧ SqT K H b (w.tr.map V.int) := by
  cases h with | tup q r => cases r with | cons r1 r => cases r with | cons r2 r => cases r with | cons r3 r =>
    cases r
    obtain ⟨b, e, hb⟩ := dp_ints r2
    subst e
    rw [r1.str_eq, r3.int_eq] at q
    exact ⟨_, b, rfl, q, hb⟩
theorem mk_wy {K : PySem.W.Frag} {H : Hp} {a : Addr} {y : V} {w : Wy} (h : SqT K H a [.str w.nm, y, .int (w.pl : Int)]) (hy : Dp K H y (intsD w.tr)) : Dp K H (.ref a) (wyD w) := .tup h (.cons (.str _) (.cons hy (.cons (.int _) .nil)))
/-- a house stands at p -/
structure HouseAt (K : PySem.W.Frag) (CA : Addr) (H : Hp) (p : Addr) (hs : Hs) : Prop where
  ex : ∃ dx a1 a2 a3 a4 vs ds, H p = some (.ins CA dx (fl a1 a2 a3 a4 hs.stand)) ∧ SqT K H a1 vs ∧ Paired (fun v st => StAt K H v st) vs hs.sts ∧ Dp K H (.ref a2) (.tuple (hs.els.map intsD)) ∧ SqT K H a3 ds ∧ ds.length = hs.sts.length ∧ Dp K H (.ref a4) (.tuple (hs.ways.map wyD))
/-- all but p stays -/
def SameX (p : Addr) (H H' : Hp) : Prop := ∀ b o, b ≠ p → H b = some o → H' b = some o
theorem SameX.of {p : Addr} {H H' : Hp} (s : Same H H') : SameX p H H' := fun b o _ e => s b o e
theorem SameX.trans {p : Addr} {H H1 H2 : Hp} (a : SameX p H H1) (b : SameX p H1 H2) : SameX p H H2 := fun c o n e => b c o n (a c o n e)
theorem SameX.keep {p : Addr} {H H' : Hp} {u : HO} (s : SameX p H H') (h : H p = some u) (f : isFix u = false) : Keep H H' := fun b o e g => by
  refine s b o (fun z => ?_) e
  subst z
  rw [h] at e; cases e
  rw [f] at g; cases g
theorem SameX.upd {p : Addr} {H : Hp} {o : HO} : SameX p H (upd H p o) := fun b u n e => by rw [upd_ne n]; exact e
theorem SameX.free {p q : Addr} {H H' : Hp} (s : SameX p H H') (n : q ≠ p) (h : H' q = none) : H q = none := by
  cases e : H q with
  | none => rfl
  | some u => rw [s q u n e] at h; cases h
theorem sts_keep {K : PySem.W.Frag} {H H' : Hp} (k : Keep H H') {vs : List V} {sts : List Stt} (h : Paired (fun v st => StAt K H v st) vs sts) : Paired (fun v st => StAt K H' v st) vs sts := Paired.mapP h fun _ st z => DcAt_keep k (still_st st) z
theorem HouseAt.keep {K : PySem.W.Frag} {CA : Addr} {H H' : Hp} {p : Addr} {hs : Hs} (h : HouseAt K CA H p hs) (k : Keep H H') (e : H' p = H p) : HouseAt K CA H' p hs := by
  obtain ⟨dx, a1, a2, a3, a4, vs, ds, h1, h2, h3, h4, h5, h6, h7⟩ := h.ex
  exact ⟨dx, a1, a2, a3, a4, vs, ds, e.trans h1, SqT_keep k h2, sts_keep k h3, Dp_keep k _ (stillAll_map intsD still_ints _) h4, SqT_keep k h5, h6, Dp_keep k _ (stillAll_map wyD still_wy _) h7⟩
theorem HouseAt.same {K : PySem.W.Frag} {CA : Addr} {H H' : Hp} {p : Addr} {hs : Hs} (h : HouseAt K CA H p hs) (s : Same H H') : HouseAt K CA H' p hs := by
  obtain ⟨dx, a1, a2, a3, a4, vs, ds, h1, _⟩ := id h.ex
  exact h.keep (Keep.of s) ((s _ _ h1).trans h1.symm)
/-- what the walk asks of the class -/
structure Hc (K : PySem.W.Frag) (CA : Addr) : Prop where
  cl : Cls K CA
  n1 : NoAttr K CA "states"
  n2 : NoAttr K CA "elders"
  n3 : NoAttr K CA "deeds"
  n4 : NoAttr K CA "ways"
  n5 : NoAttr K CA "stand"
def wayOf (hs : Hs) (n : Str) : Option Wy := hs.ways.find? fun w => w.nm == n
section
variable {P : Program} {w : World} {K : PySem.W.Frag} {mg : Str → Option Value} {base : Heap} {CA : Addr}
abbrev s_House_way_of : Stmt := (inClass (topS 58) 1)
abbrev N_House_way_of : List Str := ["self", "name", "way"]
abbrev P_House_way_of : List Str := ["self", "name"]
theorem sc_House_way_of : FnScope N_House_way_of P_House_way_of (defScope s_House_way_of) := ⟨rfl, rfl, rfl, by decide +kernel, rfl, by decide +kernel, by decide +kernel⟩
def spWayOf (K : PySem.W.Frag) (CA : Addr) : Sp := fun vs H Q _ => ∃ (p : Addr) (hs : Hs) (n : Str) (wy : Wy), vs = [.ref p, .str n] ∧ HouseAt K CA H p hs ∧ wayOf hs n = some wy ∧ ∀ u, Dp K H u (wyD wy) → Q u H
theorem ok_way_of (F : AtM K CA "way_of" "House.way_of" s_House_way_of P_House_way_of) (T : Hc K CA) : Md P w K mg base CA 1 "way_of" P_House_way_of (spWayOf K CA) := by
  refine F.ok sc_House_way_of (fun vs H Q E h => ?_) (fun f cdv A outer s H vs Q E hr h => ?_)
  · obtain ⟨p, hs, n, wy, rfl, _⟩ := h
    rfl
  · obtain ⟨p, hs, n, wy, rfl, hh, hw, k⟩ := h
    have Cl := T.cl
    obtain ⟨dx, a1, a2, a3, a4, vs, ds, h1, h2, h3, h4, h5, h6, h7⟩ := hh.ex
    obtain ⟨a4', xs, e4, q4, r4⟩ := h7.tup_of
    cases e4
    refine ⟨_, (pss_cons (ps_for PassesOwn.never rfl (k_pi_tup (K := K) rfl (k_fld (K := K) rfl (pv 0) rfl)) (pg_name (i := 2) sc_House_way_of.nd rfl (Or.inl rfl)) (pss_one (ps_if (pt_cmpR op_eq (pe_ix (k_ix_tup (K := K) rfl) (pv 2) pe_int (fun _ _ => rfl)) (pv 1) (nomark _)) (pss_one (ps_ret (pv 2))) pss_nil))) (pss_one ps_never)), ?_⟩
    refine ⟨_, rfl, p, CA, dx, _, _, rfl, h1, T.cl, T.n4, fl_4, a4, rfl, ⟨_, q4⟩, ?_⟩
    refine for_it (wk_tup (K := K) (a := a4) (DpAll.paired r4)) (fun i σ' H' => ∃ o, σ' = [some (.ref p), some (.str n), o] ∧ H' = H ∧ ∀ j, j < i → ∀ w0, hs.ways[j]? = some w0 → w0.nm ≠ n) ⟨none, rfl, rfl, fun j h => absurd h (Nat.not_lt_zero j)⟩ (fun i σ' H' _ ⟨_, _, e, _⟩ => by rw [e]; exact q4) ?_ ?_
    · rintro i y σ' H' H'' hi ⟨o, rfl, rfl, no⟩ ⟨rfl, w0, ew, rw0⟩
      obtain ⟨a, b, rfl, ha, hb⟩ := dp_wy rw0
      refine ⟨_, rfl, a, _, _, _, rfl, rfl, ha, atI_nat (j := 0) rfl, _, rfl, rfl, _, rfl, ?_⟩
      refine ite2 (fun e => ?_) (fun e => ?_)
      · have e1 : w0.nm = n := V.str.inj (of_decide_eq_true e)
        have : wayOf hs n = some w0 := by
          unfold wayOf
          rw [List.find?_eq_some_iff_getElem]
          obtain ⟨hl, eg⟩ := List.getElem?_eq_some_iff.mp ew
          refine ⟨by rw [e1]; exact beq_self_eq_true n, i, hl, eg, fun j hj => ?_⟩
          have := no j hj _ (List.getElem?_eq_getElem (by omega))
          simp [str_ne this]
        rw [hw] at this
        cases this
        exact ⟨_, rfl, k _ rw0⟩
      · refine ⟨_, rfl, rfl, fun j hj w1 ew1 => ?_⟩
        by_cases ej : j = i
        · subst ej
          rw [ew] at ew1
          cases ew1
          exact fun z => e (by rw [z]; exact decide_eq_true rfl)
        · exact no j (by omega) w1 ew1
    · rintro σ' H' ⟨o, rfl, rfl, no⟩
      unfold wayOf at hw
      obtain ⟨hn, j, hj, ej, _⟩ := List.find?_eq_some_iff_getElem.mp hw
      exact absurd (eq_of_beq hn) (no j hj wy (by rw [List.getElem?_eq_getElem hj, ej]))
abbrev s_House_present : Stmt := (inClass (topS 58) 10)
abbrev N_House_present : List Str := ["self", "name", "trail", "place"]
abbrev P_House_present : List Str := ["self"]
theorem sc_House_present : FnScope N_House_present P_House_present (defScope s_House_present) := ⟨rfl, rfl, rfl, by decide +kernel, rfl, by decide +kernel, by decide +kernel⟩
def spPresent (K : PySem.W.Frag) (CA : Addr) : Sp := fun vs H Q _ => ∃ (p : Addr) (hs : Hs) (wy : Wy) (i : Int), vs = [.ref p] ∧ HouseAt K CA H p hs ∧ wayOf hs hs.stand = some wy ∧ wy.tr[wy.pl]? = some i ∧ Q (.int i) H
theorem ok_present (F : AtM K CA "present" "House.present" s_House_present P_House_present) (T : Hc K CA) (M_way_of : Md P w K mg base CA 1 "way_of" P_House_way_of (spWayOf K CA)) : Md P w K mg base CA 2 "present" P_House_present (spPresent K CA) := by
  refine F.ok sc_House_present (fun vs H Q E h => ?_) (fun f cdv A outer s H vs Q E hr h => ?_)
  · obtain ⟨p, hs, wy, i, rfl, _⟩ := h
    rfl
  · obtain ⟨p, hs, wy, i, rfl, hh, hw, hi, k⟩ := h
    have Cl := T.cl
    obtain ⟨dx, a1, a2, a3, a4, vs, ds, h1, h2, h3, h4, h5, h6, h7⟩ := hh.ex
    refine ⟨_, (pss_cons (ps_asg (pe_md M_way_of Cl (hr.mono (by decide)) (pv 0) (pa_cons (k_fld (K := K) rfl (pv 0) rfl) pa_nil)) (k_pg_tup (K := K) rfl rfl (pgs_cons (pg_name (i := 1) sc_House_present.nd rfl (Or.inl rfl)) (pgs_cons (pg_name (i := 2) sc_House_present.nd rfl (Or.inl rfl)) (pgs_cons (pg_name (i := 3) sc_House_present.nd rfl (Or.inl rfl)) pgs_nil))))) (pss_one (ps_ret (pe_ix (k_ix_tup (K := K) rfl) (pv 2) (pv 3) (fun _ _ => rfl))))), ?_⟩
    refine ⟨_, rfl, p, dx, _, rfl, h1, fl_no (by decide +kernel), _, rfl, p, CA, dx, _, _, rfl, h1, T.cl, T.n5, fl_5, p, hs, _, wy, rfl, hh, hw, fun u du => ?_⟩
    obtain ⟨a, b, rfl, ha, hb⟩ := dp_wy du
    refine ⟨a, _, rfl, ha, rfl, _, _, rfl, _, _, rfl, _, _, rfl, rfl, ?_⟩
    exact ⟨_, rfl, _, rfl, b, _, _, _, rfl, rfl, hb, atI_nat (by rw [List.getElem?_map, hi]; rfl), k⟩
abbrev s_House_branches : Stmt := (inClass (topS 58) 15)
abbrev N_House_branches : List Str := ["self", "way"]
abbrev P_House_branches : List Str := ["self"]
theorem sc_House_branches : FnScope N_House_branches P_House_branches (defScope s_House_branches) := ⟨rfl, rfl, rfl, by decide +kernel, rfl, by decide +kernel, by decide +kernel⟩
def spBranches (K : PySem.W.Frag) (CA : Addr) : Sp := fun vs H Q _ => ∃ (p : Addr) (hs : Hs), vs = [.ref p] ∧ HouseAt K CA H p hs ∧ hs.ways.length ≤ 1000 ∧ ∀ l H', H l = none → Same H H' → H' l = some (.lst ((hs.ways.map (·.nm)).map V.str)) → Q (.ref l) H'
theorem ok_branches (F : AtM K CA "branches" "House.branches" s_House_branches P_House_branches) (T : Hc K CA) : Md P w K mg base CA 1 "branches" P_House_branches (spBranches K CA) := by
  refine F.ok sc_House_branches (fun vs H Q E h => ?_) (fun f cdv A outer s H vs Q E hr h => ?_)
  · obtain ⟨p, hs, rfl, _⟩ := h
    rfl
  · obtain ⟨p, hs, rfl, hh, hl, k⟩ := h
    have Cl := T.cl
    obtain ⟨dx, a1, a2, a3, a4, vs, ds, h1, h2, h3, h4, h5, h6, h7⟩ := hh.ex
    obtain ⟨a4', xs, e4, q4, r4⟩ := h7.tup_of
    cases e4
    refine ⟨_, (pss_one (ps_ret (pe_lc (own := [("way", 1)]) (g := gName 1) (tt := tYes) rfl sc_House_branches.nd (k_pi_tup (K := K) rfl (k_fld (K := K) rfl (pv 0) rfl)) (blkOk_by (own := [("way", 1)]) (N := N_House_branches) (sc := (defScope s_House_branches)) (by decide +kernel)) (fun _ _ _ _ _ => (pg_name (i := 1) sc_House_branches.nd rfl (Or.inl rfl))) (fun _ _ _ _ _ => pts_nil) (fun _ _ _ _ _ => (pe_ix (k_ix_tup (K := K) rfl) (pv 1) pe_int (fun _ _ => rfl)))))), ?_⟩
    refine ⟨_, rfl, p, CA, dx, _, _, rfl, h1, T.cl, T.n4, fl_4, a4, rfl, ⟨_, q4⟩, fun D hD => lc_map (K := K) hD (wk_tup (DpAll.paired r4)) (fun w => PyData.str w.nm) (by omega) (fun H' s => SqT_same s q4) (fun _ _ => rfl) ?_ ?_⟩
    · rintro x w0 H' Kt r m s1 k1
      obtain ⟨a, b, rfl, ha, hb⟩ := dp_wy r
      exact ⟨rfl, _, rfl, a, _, _, _, rfl, rfl, SqT_same s1 ha, atI_nat (j := 0) rfl, k1 _ _ (Same.refl _) (.str _)⟩
    · intro ys H' s1 hy dy
      have e := DpAll.map_strs (ns := hs.ways.map (·.nm)) (by rw [List.map_map]; exact dy)
      subst e
      exact k _ _ hD s1 hy
end
end Bk
set_option Elab.async false
set_option linter.all false
set_option maxRecDepth 100000
set_option maxHeartbeats 4000000
namespace Bk
open PySem PySem.Spec PyProof.Rows L2 Gap
theorem slT_take {K : PySem.W.Frag} {H : Hp} {a : Addr} {xs : List V} {n : Nat} {i : Int} {Q : VK} (h : SqT K H a xs) (e : i = (n : Int)) (k : ∀ p H', Same H H' → SqT K H' p (xs.take n) → Q (.ref p) H') : rSlA K (.ref a) none (some i) H Q := by
  subst e
  have ec : cutV xs none (some (n : Int)) = xs.take n := by
    unfold cutV
    rw [HT.sIx_none, HT.sIx_nat, List.drop_zero, Nat.sub_zero]
    by_cases hn : n ≤ xs.length
    · rw [Nat.min_eq_left hn]
    · rw [Nat.min_eq_right (by omega), List.take_length, List.take_of_length_le (by omega)]
  refine ⟨a, xs, rfl, h, fun w => k a H (Same.refl _) ?_, fun _ p hp => ?_⟩
  · have := w.2
    rw [HT.sIx_nat] at this
    rw [List.take_of_length_le (by omega)]
    exact h
  · rw [ec]
    exact k p _ (Same.new hp) (SqT.of upd_same)
theorem inV_ints (n : Int) : ∀ ys : List Int, inV (.int n) (ys.map V.int) = decide (n ∈ ys)
  | [] => rfl
  | y :: ys => by
    have ih := inV_ints n ys
    show ((y == n) || inV (.int n) (ys.map V.int)) = _
    rw [ih]
    by_cases e : y = n
    · subst e
      simp
    · have e2 : (y == n) = false := by simpa using e
      rw [e2, Bool.false_or]
      have : (n ∈ y :: ys) ↔ n ∈ ys := by
        rw [List.mem_cons]
        exact ⟨fun h => h.elim (fun z => absurd z.symm e) id, .inr⟩
      exact decide_eq_decide.mpr this.symm
theorem flat_ints (ys : List Int) : (ys.map V.int).all flatV = true := by
  rw [List.all_map]
  exact List.all_eq_true.mpr fun _ _ => rfl
theorem shaped_ints (ns : List Int) : SeqAt.shaped (.list (ns.map PyData.int)) = true := by
  have h1 : ∀ l : List Int, PyData.canLayAll0 (l.map PyData.int) = true := by
    intro l
    induction l with
    | nil => rfl
    | cons a l ih =>
      show (true && PyData.canLayAll0 (l.map PyData.int)) = true
      rw [ih]; rfl
  have h2 : ∀ l : List Int, PyData.depthAll (l.map PyData.int) = 0 := by
    intro l
    induction l with
    | nil => rfl
    | cons a l ih =>
      show max 0 (PyData.depthAll (l.map PyData.int)) = 0
      rw [ih]; rfl
  show (PyData.canLayAll0 (ns.map PyData.int) && decide (PyData.depthAll (ns.map PyData.int) + 1 ≤ 64)) = true
  rw [h1, h2]
  rfl
theorem paired_snoc {α : Type} {F : V → α → Prop} {vs : List V} {l : List α} {v : V} {a : α} (h : Paired F vs l) (x : F v a) : Paired F (vs ++ [v]) (l ++ [a]) := pair_append h (.cons x .nil)
theorem paired_at {α : Type} {R : V → α → Prop} : ∀ {xs : List V} {its : List α} {i : Nat} {a : α}, Paired R xs its → its[i]? = some a → ∃ x, xs[i]? = some x ∧ R x a
  | _, _, _, _, .nil, e => by simp at e
  | _, _, 0, _, .cons r _, e => by simp at e; subst e; exact ⟨_, rfl, r⟩
  | _, _, i + 1, a, .cons _ t, e => by
    obtain ⟨u, h1, h2⟩ := paired_at (i := i) (a := a) t (by simpa using e)
    exact ⟨u, by simpa using h1, h2⟩
def moved (hs : Hs) (tr : List Int) (pl : Nat) : Hs := { hs with ways := hs.ways.map fun w => if w.nm = hs.stand then ⟨hs.stand, tr, pl⟩ else w }
/-- a moment made -/
def madeHs (hs : Hs) (wy : Wy) (st : Stt) (es : List Int) : Hs :=
  moved { hs with sts := hs.sts ++ [st], els := hs.els ++ [es] } (wy.tr.take (wy.pl + 1) ++ [(hs.sts.length : Int)]) (wy.pl + 1)
/-- elders of all ages, as the walk goes -/
def ae (els : List (List Int)) : Nat → List Int → List Int → Option (List Int)
  | 0, _, _ => none
  | m + 1, F, L =>
    if 1000 < F.length + L.length then none else
    match L.getLast? with
    | none => some F
    | some one =>
      if one ∈ F then ae els m F L.dropLast
      else if one < 0 then none
      else match els[one.toNat]? with
        | some es => if 1000 < L.length + es.length then none else ae els m (F ++ [one]) (L.dropLast ++ es)
        | none => none
section
variable {P : Program} {w : World} {K : PySem.W.Frag} {mg : Str → Option Value} {base : Heap} {CA : Addr}
abbrev s_House_moved_to : Stmt := (inClass (topS 58) 2)
abbrev N_House_moved_to : List Str := ["self", "trail", "place", "here", "way"]
abbrev P_House_moved_to : List Str := ["self", "trail", "place"]
theorem sc_House_moved_to : FnScope N_House_moved_to P_House_moved_to (defScope s_House_moved_to) := ⟨rfl, rfl, rfl, by decide +kernel, rfl, by decide +kernel, by decide +kernel⟩
def spMovedTo (K : PySem.W.Frag) (CA : Addr) : Sp := fun vs H Q _ => ∃ (p : Addr) (hs : Hs) (t : V) (tr : List Int) (pl : Nat) (i : Int), vs = [.ref p, t, .int (pl : Int)] ∧ HouseAt K CA H p hs ∧ Dp K H t (intsD tr) ∧ tr[pl]? = some i ∧ hs.ways.length ≤ 1000 ∧
  ∀ H', SameX p H H' → HouseAt K CA H' p (moved hs tr pl) → Q (.int i) H'
theorem ok_moved_to (F : AtM K CA "moved_to" "House.moved_to" s_House_moved_to P_House_moved_to) (T : Hc K CA) (C : Gs K mg) : Md P w K mg base CA 1 "moved_to" P_House_moved_to (spMovedTo K CA) := by
  refine F.ok sc_House_moved_to (fun vs H Q E h => ?_) (fun f cdv A outer s H vs Q E hr h => ?_)
  · obtain ⟨p, hs, t, tr, pl, i, rfl, _⟩ := h
    rfl
  · obtain ⟨p, hs, t, tr, pl, i, rfl, hh, dt, hi, hl, k⟩ := h
    have Cl := T.cl
    obtain ⟨dx, a1, a2, a3, a4, vs, ds, h1, h2, h3, h4, h5, h6, h7⟩ := hh.ex
    obtain ⟨a4', xs, e4, q4, r4⟩ := h7.tup_of
    cases e4
    obtain ⟨b, rfl, hb⟩ := dp_ints dt
    refine ⟨_, (pss_cons (ps_set (i := 3) sc_House_moved_to.nd rfl (Or.inr rfl) (k_fld (K := K) rfl (pv 0) rfl)) (pss_cons (ps_fld (pv 0) (pe_callTy (k_tuple_of (K := K) rfl) (by rfl) C.b_tuple (by decide +kernel) (pa_cons (pe_lc (own := [("way", 4)]) (g := gName 4) (tt := tYes) rfl sc_House_moved_to.nd (k_pi_tup (K := K) rfl (k_fld (K := K) rfl (pv 0) rfl)) (blkOk_by (own := [("way", 4)]) (N := N_House_moved_to) (sc := (defScope s_House_moved_to)) (by decide +kernel)) (fun _ _ _ _ _ => (pg_name (i := 4) sc_House_moved_to.nd rfl (Or.inl rfl))) (fun _ _ _ _ _ => pts_nil) (fun _ _ _ _ _ => (pe_ifExp (pt_cmpR op_eq (pe_ix (k_ix_tup (K := K) rfl) (pv 4) pe_int (fun _ _ => rfl)) (pv 3) (nomark _)) (pe_tup (pa_cons (pv 3) (pa_cons (pv 1) (pa_cons (pv 2) pa_nil)))) (pv 4)))) pa_nil)) rfl) (pss_one (ps_ret (pe_ix (k_ix_tup (K := K) rfl) (pv 1) (pv 2) (fun _ _ => rfl)))))), ?_⟩
    refine ⟨_, rfl, p, CA, dx, _, _, rfl, h1, T.cl, T.n5, fl_5, ?_⟩
    let f : Wy → Wy := fun w => if w.nm = hs.stand then ⟨hs.stand, tr, pl⟩ else w
    refine ⟨_, rfl, p, CA, dx, _, _, rfl, h1, T.cl, T.n4, fl_4, a4, rfl, ⟨_, q4⟩, fun D hD => lc_map (K := K) hD (wk_tup (DpAll.paired r4)) (fun w => wyD (f w)) (by omega) (fun H' s => SqT_same s q4) (fun _ _ => still_wy _) ?_ ?_⟩
    · rintro x w0 H' Kt r m s1 k1
      obtain ⟨a, c, rfl, ha, hc⟩ := dp_wy r
      refine ⟨rfl, _, rfl, a, _, _, _, rfl, rfl, SqT_same s1 ha, atI_nat (j := 0) rfl, _, rfl, rfl, _, rfl, ?_⟩
      refine ite2 (fun e => ?_) (fun e => ?_)
      · have e1 : w0.nm = hs.stand := V.str.inj (of_decide_eq_true e)
        refine ⟨_, rfl, _, rfl, _, rfl, by show 3 ≤ sizeLine; decide, fun q hq => k1 _ _ (Same.new hq) ?_⟩
        show Dp K _ _ (wyD (if w0.nm = hs.stand then ⟨hs.stand, tr, pl⟩ else w0))
        rw [if_pos e1]
        exact mk_wy (SqT.of upd_same) (Dp_same (s1.trans (Same.new hq)) _ (mk_ints hb))
      · have e1 : ¬ w0.nm = hs.stand := fun z => e (by rw [z]; exact decide_eq_true rfl)
        refine ⟨_, rfl, k1 _ _ (Same.refl _) ?_⟩
        show Dp K _ _ (wyD (if w0.nm = hs.stand then ⟨hs.stand, tr, pl⟩ else w0))
        rw [if_neg e1]
        exact Dp_same s1 _ r
    · intro ys H1 s1 hy dy
      refine ⟨D, _, rfl, .inl ⟨SqL.of hy, fun l hl => ?_⟩⟩
      have pl' : l ≠ p := fun z => by rw [z, s1 _ _ h1] at hl; cases hl
      have h1' : (upd H1 l (.tup ys)) p = some (.ins CA dx (fl a1 a2 a3 a4 hs.stand)) := by rw [upd_ne pl'.symm]; exact s1 _ _ h1
      refine ⟨_, rfl, p, CA, dx, _, rfl, h1', T.cl, T.n4, by show 5 < 1000; decide, ?_⟩
      rw [pf_4]
      have s2 : SameX p H (upd (upd H1 l (.tup ys)) p (.ins CA dx (fl a1 a2 a3 l hs.stand))) := ((SameX.of s1).trans (SameX.of (Same.new hl))).trans SameX.upd
      have kp : Keep H (upd (upd H1 l (.tup ys)) p (.ins CA dx (fl a1 a2 a3 l hs.stand))) := s2.keep h1 rfl
      refine ⟨_, rfl, _, rfl, b, _, _, _, rfl, rfl, SqT_keep kp hb, atI_nat (by rw [List.getElem?_map, hi]; rfl), k _ s2 ?_⟩
      refine ⟨dx, a1, a2, a3, l, vs, ds, upd_same, SqT_keep kp h2, sts_keep kp h3, Dp_keep kp _ (stillAll_map intsD still_ints _) h4, SqT_keep kp h5, h6, ?_⟩
      show Dp K _ (.ref l) (.tuple ((hs.ways.map f).map wyD))
      rw [List.map_map]
      have kp2 : Keep H1 (upd (upd H1 l (.tup ys)) p (.ins CA dx (fl a1 a2 a3 l hs.stand))) := (Keep.new hl).trans (Keep.mut h1' rfl)
      refine .tup (SqT.of ?_) (DpAll_keep kp2 _ (stillAll_map (fun w => wyD (f w)) (fun _ => still_wy _) _) dy)
      rw [upd_ne pl', upd_same]
abbrev s_House_made : Stmt := (inClass (topS 58) 3)
abbrev N_House_made : List Str := ["self", "state", "elders", "deed", "name", "trail", "place"]
abbrev P_House_made : List Str := ["self", "state", "elders", "deed"]
theorem sc_House_made : FnScope N_House_made P_House_made (defScope s_House_made) := ⟨rfl, rfl, rfl, by decide +kernel, rfl, by decide +kernel, by decide +kernel⟩
def spMade (K : PySem.W.Frag) (CA : Addr) : Sp := fun vs H Q _ => ∃ (p : Addr) (hs : Hs) (u ev de : V) (st : Stt) (es : List Int) (wy : Wy), vs = [.ref p, u, ev, de] ∧ HouseAt K CA H p hs ∧ StAt K H u st ∧ Dp K H ev (intsD es) ∧ hs.sts.length ≤ 100 ∧ hs.els.length ≤ 100 ∧ hs.ways.length ≤ 1000 ∧ wayOf hs hs.stand = some wy ∧ wy.pl < wy.tr.length ∧ wy.tr.length ≤ 1000 ∧
  ∀ H', SameX p H H' → HouseAt K CA H' p (madeHs hs wy st es) → Q (.int (hs.sts.length : Int)) H'
theorem ok_made (F : AtM K CA "made" "House.made" s_House_made P_House_made) (T : Hc K CA) (C : Gs K mg) (M_way_of : Md P w K mg base CA 1 "way_of" P_House_way_of (spWayOf K CA)) (M_moved_to : Md P w K mg base CA 1 "moved_to" P_House_moved_to (spMovedTo K CA)) : Md P w K mg base CA 2 "made" P_House_made (spMade K CA) := by
  refine F.ok sc_House_made (fun vs H Q E h => ?_) (fun f cdv A outer s H vs Q E hr h => ?_)
  · obtain ⟨p, hs, u, ev, de, st, es, wy, rfl, _⟩ := h
    rfl
  · obtain ⟨p, hs, u, ev, de, st, es, wy, rfl, hh, hu', dev, hl1, hl2, hl3, hw, hpl, htl, k⟩ := h
    have Cl := T.cl
    obtain ⟨dx, a1, a2, a3, a4, vs, ds, h1, h2, h3, h4, h5, h6, h7⟩ := hh.ex
    have hvl : vs.length = hs.sts.length := Paired.length h3
    obtain ⟨a2', xs2, e2, q2, r2⟩ := h4.tup_of
    cases e2
    have x2l : xs2.length = hs.els.length := by rw [DpAll.length r2, List.length_map]
    have sz : ∀ {n : Nat}, n ≤ 2000 → n ≤ sizeLine := fun h => Nat.le_trans h (by decide)
    refine ⟨_, (pss_cons (ps_if (pt_cmpR op_eq (pe_callB (k_len (K := K) rfl) (by rfl) C.len (by decide +kernel) (pa_cons (k_fld (K := K) rfl (pv 0) rfl) pa_nil)) (pe_globE rfl C.MOST_MOMENTS) (nomark _)) (pss_one ps_never) pss_nil) (pss_cons (ps_asg (pe_md M_way_of Cl (hr.mono (by decide)) (pv 0) (pa_cons (k_fld (K := K) rfl (pv 0) rfl) pa_nil)) (k_pg_tup (K := K) rfl rfl (pgs_cons (pg_name (i := 4) sc_House_made.nd rfl (Or.inl rfl)) (pgs_cons (pg_name (i := 5) sc_House_made.nd rfl (Or.inl rfl)) (pgs_cons (pg_name (i := 6) sc_House_made.nd rfl (Or.inl rfl)) pgs_nil))))) (pss_cons (ps_fld (pv 0) (pe_tup (k_star (K := K) rfl (k_fld (K := K) rfl (pv 0) rfl) (pa_cons (pv 1) pa_nil))) rfl) (pss_cons (ps_fld (pv 0) (pe_tup (k_star (K := K) rfl (k_fld (K := K) rfl (pv 0) rfl) (pa_cons (pv 2) pa_nil))) rfl) (pss_cons (ps_fld (pv 0) (pe_tup (k_star (K := K) rfl (k_fld (K := K) rfl (pv 0) rfl) (pa_cons (pv 3) pa_nil))) rfl) (pss_one (ps_ret (pe_md M_moved_to Cl (hr.mono (by decide)) (pv 0) (pa_cons (pe_tup (k_star (K := K) rfl (pe_slice (k_sl_tup (K := K) rfl) (pv 5) po_none (po_some (pe_op op_add (pv 6) pe_int))) (pa_cons (pe_op op_sub (pe_callB (k_len (K := K) rfl) (by rfl) C.len (by decide +kernel) (pa_cons (k_fld (K := K) rfl (pv 0) rfl) pa_nil)) pe_int) pa_nil))) (pa_cons (pe_op op_add (pv 6) pe_int) pa_nil)))))))))), ?_⟩
    refine ⟨_, rfl, p, CA, dx, _, _, rfl, h1, T.cl, T.n1, fl_1, .ref a1, vs.length, rfl, len_tup h2 rfl, rfl, false, ?_, ?_⟩
    · exact bl_f fun z => by have := V.int.inj z; omega
    refine iteF ?_
    refine ⟨_, rfl, p, dx, _, rfl, h1, fl_no (by decide +kernel), _, rfl, p, CA, dx, _, _, rfl, h1, T.cl, T.n5, fl_5, p, hs, _, wy, rfl, hh, hw, fun wv dwv => ?_⟩
    obtain ⟨wa, wb, rfl, hwa, hwb⟩ := dp_wy dwv
    refine ⟨wa, _, rfl, hwa, rfl, _, _, rfl, _, _, rfl, _, _, rfl, rfl, ?_⟩
    -- self.states
    refine ⟨_, rfl, p, CA, dx, _, _, rfl, h1, T.cl, T.n1, fl_1, a1, vs, rfl, .inl h2, _, rfl, by rw [List.length_append, List.length_singleton]; exact sz (by omega), fun b1 hb1 => ?_⟩
    have nb1 : b1 ≠ p := fun z => by rw [z, h1] at hb1; cases hb1
    refine ⟨_, rfl, p, CA, dx, _, rfl, by rw [upd_ne nb1.symm]; exact h1, T.cl, T.n1, by show 5 < 1000; decide, ?_⟩
    rw [pf_1]
    have s1 : SameX p H (upd (upd H b1 (.tup (vs ++ [u]))) p (.ins CA dx (fl b1 a2 a3 a4 hs.stand))) := (SameX.of (Same.new hb1)).trans SameX.upd
    have e1 : (upd (upd H b1 (.tup (vs ++ [u]))) p (.ins CA dx (fl b1 a2 a3 a4 hs.stand))) p = some (.ins CA dx (fl b1 a2 a3 a4 hs.stand)) := upd_same
    have t1 : (upd (upd H b1 (.tup (vs ++ [u]))) p (.ins CA dx (fl b1 a2 a3 a4 hs.stand))) b1 = some (.tup (vs ++ [u])) := by rw [upd_ne nb1, upd_same]
    generalize upd (upd H b1 (.tup (vs ++ [u]))) p (.ins CA dx (fl b1 a2 a3 a4 hs.stand)) = H1 at s1 e1 t1
    have k1 := s1.keep h1 rfl
    -- self.elders
    refine ⟨_, rfl, p, CA, dx, _, _, rfl, e1, T.cl, T.n2, fl_2, a2, xs2, rfl, .inl (SqT_keep k1 q2), _, rfl, by rw [List.length_append, List.length_singleton]; exact sz (by omega), fun b2 hb2 => ?_⟩
    have nb2 : b2 ≠ p := fun z => by rw [z, e1] at hb2; cases hb2
    refine ⟨_, rfl, p, CA, dx, _, rfl, by rw [upd_ne nb2.symm]; exact e1, T.cl, T.n2, by show 5 < 1000; decide, ?_⟩
    rw [pf_2]
    have s2 : SameX p H1 (upd (upd H1 b2 (.tup (xs2 ++ [ev]))) p (.ins CA dx (fl b1 b2 a3 a4 hs.stand))) := (SameX.of (Same.new hb2)).trans SameX.upd
    have e2 : (upd (upd H1 b2 (.tup (xs2 ++ [ev]))) p (.ins CA dx (fl b1 b2 a3 a4 hs.stand))) p = some (.ins CA dx (fl b1 b2 a3 a4 hs.stand)) := upd_same
    have t2 : (upd (upd H1 b2 (.tup (xs2 ++ [ev]))) p (.ins CA dx (fl b1 b2 a3 a4 hs.stand))) b2 = some (.tup (xs2 ++ [ev])) := by rw [upd_ne nb2, upd_same]
    generalize upd (upd H1 b2 (.tup (xs2 ++ [ev]))) p (.ins CA dx (fl b1 b2 a3 a4 hs.stand)) = H2 at s2 e2 t2
    have k2 := s2.keep e1 rfl
    have k12 := k1.trans k2
    -- self.deeds
    refine ⟨_, rfl, p, CA, dx, _, _, rfl, e2, T.cl, T.n3, fl_3, a3, ds, rfl, .inl (SqT_keep k12 h5), _, rfl, by rw [List.length_append, List.length_singleton]; exact sz (by omega), fun b3 hb3 => ?_⟩
    have nb3 : b3 ≠ p := fun z => by rw [z, e2] at hb3; cases hb3
    refine ⟨_, rfl, p, CA, dx, _, rfl, by rw [upd_ne nb3.symm]; exact e2, T.cl, T.n3, by show 5 < 1000; decide, ?_⟩
    rw [pf_3]
    have s3 : SameX p H2 (upd (upd H2 b3 (.tup (ds ++ [de]))) p (.ins CA dx (fl b1 b2 b3 a4 hs.stand))) := (SameX.of (Same.new hb3)).trans SameX.upd
    have e3 : (upd (upd H2 b3 (.tup (ds ++ [de]))) p (.ins CA dx (fl b1 b2 b3 a4 hs.stand))) p = some (.ins CA dx (fl b1 b2 b3 a4 hs.stand)) := upd_same
    have t3 : (upd (upd H2 b3 (.tup (ds ++ [de]))) p (.ins CA dx (fl b1 b2 b3 a4 hs.stand))) b3 = some (.tup (ds ++ [de])) := by rw [upd_ne nb3, upd_same]
    generalize upd (upd H2 b3 (.tup (ds ++ [de]))) p (.ins CA dx (fl b1 b2 b3 a4 hs.stand)) = H3 at s3 e3 t3
    have k3 := s3.keep e2 rfl
    have k13 := k12.trans k3
    have s13 := (s1.trans s2).trans s3
    have hh3 : HouseAt K CA H3 p { hs with sts := hs.sts ++ [st], els := hs.els ++ [es] } := by
      refine ⟨dx, b1, b2, b3, a4, vs ++ [u], ds ++ [de], e3, SqT_keep (k2.trans k3) (SqT.of t1), paired_snoc (sts_keep k13 h3) (DcAt_keep k13 (still_st st) hu'), ?_, SqT.of t3, by simp [h6], Dp_keep k13 _ (stillAll_map wyD still_wy _) h7⟩
      rw [show ((hs.els ++ [es]).map intsD) = hs.els.map intsD ++ [intsD es] from by simp]
      exact .tup (SqT_keep k3 (SqT.of t2)) (DpAll.append (DpAll_keep k13 _ (stillAll_map intsD still_ints _) r2) (.cons (Dp_keep k13 _ (still_ints es) dev) .nil))
    -- self.moved_to
    refine ⟨_, rfl, p, dx, _, rfl, e3, fl_no (by decide +kernel), _, rfl, _, rfl, _, _, rfl, rfl, _, rfl, ?_⟩
    refine slT_take (n := wy.pl + 1) (SqT_keep k13 hwb) (by omega) fun b4 H4 s4 hb4 => ?_
    refine ⟨b4, _, rfl, .inl hb4, ?_⟩
    refine ⟨_, rfl, p, CA, dx, _, _, rfl, s4 _ _ e3, T.cl, T.n1, fl_1, .ref b1, (vs ++ [u]).length, rfl, len_tup (SqT_same s4 (SqT_keep (k2.trans k3) (SqT.of t1))) rfl, _, _, rfl, rfl, ?_⟩
    refine ⟨by rw [List.length_append, List.length_singleton]; exact sz (by rw [List.length_take, List.length_map]; omega), fun b5 hb5 => ?_⟩
    refine ⟨_, rfl, _, _, rfl, rfl, ?_⟩
    have hl : (fun (i j : Int) => V.int (i - j)) (((vs ++ [u]).length : Nat) : Int) 1 = .int (hs.sts.length : Int) := by
      show V.int ((((vs ++ [u]).length : Nat) : Int) - 1) = _
      rw [List.length_append, List.length_singleton]
      exact congrArg V.int (by omega)
    rw [hl]
    have s45 := s4.trans (Same.new (o := .tup ((wy.tr.map V.int).take (wy.pl + 1) ++ [.int (hs.sts.length : Int)])) hb5)
    refine ⟨p, _, .ref b5, wy.tr.take (wy.pl + 1) ++ [(hs.sts.length : Int)], wy.pl + 1, (hs.sts.length : Int), rfl, hh3.same s45, mk_ints (SqT.of ?_), ?_, hl3, fun H6 s6 hh6 => k H6 ((s13.trans (SameX.of s45)).trans s6) hh6⟩
    · rw [upd_same, List.map_append, List.map_take]
      rfl
    · rw [List.getElem?_append_right (by rw [List.length_take]; omega), List.length_take, Nat.min_eq_left (by omega), Nat.sub_self]
      rfl
end
end Bk
set_option Elab.async false
set_option linter.all false
set_option maxRecDepth 100000
set_option maxHeartbeats 4000000
namespace Bk
open PySem PySem.Spec PyProof.Rows L2 Gap
section
variable {P : Program} {w : World} {K : PySem.W.Frag} {mg : Str → Option Value} {base : Heap} {CA : Addr}
abbrev s_House_do : Stmt := (inClass (topS 58) 4)
abbrev N_House_do : List Str := ["self", "deed", "number"]
abbrev P_House_do : List Str := ["self", "deed"]
theorem sc_House_do : FnScope N_House_do P_House_do (defScope s_House_do) := ⟨rfl, rfl, rfl, by decide +kernel, rfl, by decide +kernel, by decide +kernel⟩
def spDo (K : PySem.W.Frag) (CA : Addr) : Sp := fun vs H Q _ => ∃ (p : Addr) (hs : Hs) (u : V) (st : Stt) (wy : Wy) (j : Nat) (dd : Deed), vs = [.ref p, u] ∧ HouseAt K CA H p hs ∧ hs.sts.length ≤ 100 ∧ hs.els.length ≤ 100 ∧ hs.ways.length ≤ 1000 ∧ wayOf hs hs.stand = some wy ∧ wy.tr[wy.pl]? = some (j : Int) ∧ wy.tr.length ≤ 1000 ∧
  hs.sts[j]? = some st ∧ Dp K H u (deedD dd) ∧ DForm dd ∧ (keysOf st).Nodup ∧ st.length ≤ 39 ∧ BPre st dd ∧ ∀ st' H', BPost st dd st' → SameX p H H' → HouseAt K CA H' p (madeHs hs wy st' [(j : Int)]) → Q (.int (hs.sts.length : Int)) H'
theorem ok_do (F : AtM K CA "do" "House.do" s_House_do P_House_do) (T : Hc K CA) (M_present : Md P w K mg base CA 2 "present" P_House_present (spPresent K CA)) (M_made : Md P w K mg base CA 2 "made" P_House_made (spMade K CA)) (D_behind : Df P w K mg base 7 "behind" P_behind (spBehind K)) : Md P w K mg base CA 8 "do" P_House_do (spDo K CA) := by
  refine F.ok sc_House_do (fun vs H Q E h => ?_) (fun f cdv A outer s H vs Q E hr h => ?_)
  · obtain ⟨p, hs, u, st, wy, j, dd, rfl, _⟩ := h
    rfl
  · obtain ⟨p, hs, u, st, wy, j, dd, rfl, hh, hl1, hl2, hl3, hw, hi, htl, hst, du, df, nd, len, pre, k⟩ := h
    have Cl := T.cl
    obtain ⟨dx, a1, a2, a3, a4, vs, ds, h1, h2, h3, h4, h5, h6, h7⟩ := hh.ex
    obtain ⟨x, ex, hx⟩ := paired_at h3 hst
    refine ⟨_, (pss_cons (ps_set (i := 2) sc_House_do.nd rfl (Or.inl rfl) (pe_md0 M_present Cl (hr.mono (by decide)) (pv 0))) (pss_one (ps_ret (pe_md M_made Cl (hr.mono (by decide)) (pv 0) (pa_cons (pe_df D_behind (hr.mono (by decide)) (pa_cons (pe_ix (k_ix_tup (K := K) rfl) (k_fld (K := K) rfl (pv 0) rfl) (pv 2) (fun _ _ => rfl)) (pa_cons (pv 1) pa_nil))) (pa_cons (pe_tup (pa_cons (pv 2) pa_nil)) (pa_cons (pv 1) pa_nil))))))), ?_⟩
    refine ⟨_, rfl, p, dx, _, rfl, h1, fl_no (by decide +kernel), p, hs, wy, (j : Int), rfl, hh, hw, hi, ?_⟩
    refine ⟨_, rfl, p, dx, _, rfl, h1, fl_no (by decide +kernel), _, rfl, p, CA, dx, _, _, rfl, h1, T.cl, T.n1, fl_1, _, rfl, a1, vs, _, _, rfl, rfl, h2, atI_nat ex, _, rfl, x, u, st, dd, rfl, hx, du, df, nd, len, pre, fun y st' H1 s1 hy post => ?_⟩
    refine ⟨_, rfl, by show 1 ≤ sizeLine; decide, fun q hq => ⟨_, rfl, p, hs, y, .ref q, u, st', [(j : Int)], wy, rfl, hh.same (s1.trans (Same.new hq)), DcAt_same (Same.new hq) hy, mk_ints (SqT.of upd_same), hl1, hl2, hl3, hw, (List.getElem?_eq_some_iff.mp hi).1, htl, fun H2 s2 hh2 => k st' H2 post ((SameX.of (s1.trans (Same.new hq))).trans s2) hh2⟩⟩
abbrev s_House_go : Stmt := (inClass (topS 58) 9)
abbrev N_House_go : List Str := ["self", "name", "way"]
abbrev P_House_go : List Str := ["self", "name"]
theorem sc_House_go : FnScope N_House_go P_House_go (defScope s_House_go) := ⟨rfl, rfl, rfl, by decide +kernel, rfl, by decide +kernel, by decide +kernel⟩
def spGo (K : PySem.W.Frag) (CA : Addr) : Sp := fun vs H Q _ => ∃ (p : Addr) (hs : Hs) (n : Str) (wy : Wy) (i : Int), vs = [.ref p, .str n] ∧ HouseAt K CA H p hs ∧ wayOf hs n = some wy ∧ wy.tr[wy.pl]? = some i ∧ ∀ H', SameX p H H' → HouseAt K CA H' p { hs with stand := n } → Q (.int i) H'
theorem ok_go (F : AtM K CA "go" "House.go" s_House_go P_House_go) (T : Hc K CA) (M_present : Md P w K mg base CA 2 "present" P_House_present (spPresent K CA)) (M_way_of : Md P w K mg base CA 1 "way_of" P_House_way_of (spWayOf K CA)) : Md P w K mg base CA 3 "go" P_House_go (spGo K CA) := by
  refine F.ok sc_House_go (fun vs H Q E h => ?_) (fun f cdv A outer s H vs Q E hr h => ?_)
  · obtain ⟨p, hs, n, wy, i, rfl, _⟩ := h
    rfl
  · obtain ⟨p, hs, n, wy, i, rfl, hh, hw, hi, k⟩ := h
    have Cl := T.cl
    obtain ⟨dx, a1, a2, a3, a4, vs, ds, h1, h2, h3, h4, h5, h6, h7⟩ := hh.ex
    have en : wy.nm = n := by
      unfold wayOf at hw
      have h : (wy.nm == n) = true := List.find?_some (p := fun w : Wy => w.nm == n) hw
      exact eq_of_beq h
    refine ⟨_, (pss_cons (ps_set (i := 2) sc_House_go.nd rfl (Or.inl rfl) (pe_md M_way_of Cl (hr.mono (by decide)) (pv 0) (pa_cons (pv 1) pa_nil))) (pss_cons (ps_fld (pv 0) (pe_ix (k_ix_tup (K := K) rfl) (pv 2) pe_int (fun _ _ => rfl)) rfl) (pss_one (ps_ret (pe_md0 M_present Cl (hr.mono (by decide)) (pv 0)))))), ?_⟩
    refine ⟨_, rfl, p, dx, _, rfl, h1, fl_no (by decide +kernel), _, rfl, p, hs, n, wy, rfl, hh, hw, fun u du => ?_⟩
    obtain ⟨a, b, rfl, ha, hb⟩ := dp_wy du
    refine ⟨_, rfl, a, _, _, _, rfl, rfl, ha, atI_nat (j := 0) rfl, _, rfl, p, CA, dx, _, rfl, h1, T.cl, T.n5, by show 5 < 1000; decide, ?_⟩
    rw [pf_5, en]
    have s1 : SameX p H (upd H p (.ins CA dx (fl a1 a2 a3 a4 n))) := SameX.upd
    have k1 := s1.keep h1 rfl
    have hh1 : HouseAt K CA (upd H p (.ins CA dx (fl a1 a2 a3 a4 n))) p { hs with stand := n } :=
      ⟨dx, a1, a2, a3, a4, vs, ds, upd_same, SqT_keep k1 h2, sts_keep k1 h3, Dp_keep k1 _ (stillAll_map intsD still_ints _) h4, SqT_keep k1 h5, h6, Dp_keep k1 _ (stillAll_map wyD still_wy _) h7⟩
    exact ⟨_, rfl, p, dx, _, rfl, upd_same, fl_no (by decide +kernel), p, _, wy, i, rfl, hh1, hw, hi, k _ s1 hh1⟩
abbrev s_House_branch : Stmt := (inClass (topS 58) 8)
abbrev N_House_branch : List Str := ["self", "name", "old", "trail", "place"]
abbrev P_House_branch : List Str := ["self", "name"]
theorem sc_House_branch : FnScope N_House_branch P_House_branch (defScope s_House_branch) := ⟨rfl, rfl, rfl, by decide +kernel, rfl, by decide +kernel, by decide +kernel⟩
def spBranch (K : PySem.W.Frag) (CA : Addr) : Sp := fun vs H Q _ => ∃ (p : Addr) (hs : Hs) (n : Str) (wy : Wy), vs = [.ref p, .str n] ∧ HouseAt K CA H p hs ∧ nameOk n ∧ n ∉ hs.ways.map (·.nm) ∧ hs.ways.length ≤ 5 ∧ wayOf hs hs.stand = some wy ∧ wy.pl < wy.tr.length ∧
  ∀ H', SameX p H H' → HouseAt K CA H' p { hs with ways := hs.ways ++ [⟨n, wy.tr.take (wy.pl + 1), wy.pl⟩] } → Q .non H'
theorem ok_branch (F : AtM K CA "branch" "House.branch" s_House_branch P_House_branch) (T : Hc K CA) (C : Gs K mg) (D_is_name : Df P w K mg base 1 "is_name" P_is_name spIsName) (M_branches : Md P w K mg base CA 1 "branches" P_House_branches (spBranches K CA)) (M_way_of : Md P w K mg base CA 1 "way_of" P_House_way_of (spWayOf K CA)) : Md P w K mg base CA 2 "branch" P_House_branch (spBranch K CA) := by
  refine F.ok sc_House_branch (fun vs H Q E h => ?_) (fun f cdv A outer s H vs Q E hr h => ?_)
  · obtain ⟨p, hs, n, wy, rfl, _⟩ := h
    rfl
  · obtain ⟨p, hs, n, wy, rfl, hh, nk, nin, hl, hw, hpl, k⟩ := h
    have Cl := T.cl
    obtain ⟨dx, a1, a2, a3, a4, vs, ds, h1, h2, h3, h4, h5, h6, h7⟩ := hh.ex
    refine ⟨_, (pss_cons (ps_if (PW.pt (pw_or (pt_not (pt_val (pe_df D_is_name (hr.mono (by decide)) (pa_cons (pv 1) pa_nil)))) (pw_or1 (pt_cmpR (k_in_seq (K := K) rfl) (pv 1) (pe_md0 M_branches Cl (hr.mono (by decide)) (pv 0)) (by rfl))))) (pss_one ps_never) pss_nil) (pss_cons (ps_if (pt_cmpR op_eq (pe_callB (k_len (K := K) rfl) (by rfl) C.len (by decide +kernel) (pa_cons (k_fld (K := K) rfl (pv 0) rfl) pa_nil)) (pe_globE rfl C.MOST_BRANCHES) (nomark _)) (pss_one ps_never) pss_nil) (pss_cons (ps_asg (pe_md M_way_of Cl (hr.mono (by decide)) (pv 0) (pa_cons (k_fld (K := K) rfl (pv 0) rfl) pa_nil)) (k_pg_tup (K := K) rfl rfl (pgs_cons (pg_name (i := 2) sc_House_branch.nd rfl (Or.inl rfl)) (pgs_cons (pg_name (i := 3) sc_House_branch.nd rfl (Or.inl rfl)) (pgs_cons (pg_name (i := 4) sc_House_branch.nd rfl (Or.inl rfl)) pgs_nil))))) (pss_one (ps_fld (pv 0) (pe_tup (k_star (K := K) rfl (k_fld (K := K) rfl (pv 0) rfl) (pa_cons (pe_tup (pa_cons (pv 1) (pa_cons (pe_slice (k_sl_tup (K := K) rfl) (pv 3) po_none (po_some (pe_op op_add (pv 4) pe_int))) (pa_cons (pv 4) pa_nil)))) pa_nil))) rfl))))), ?_⟩
    refine ⟨_, rfl, n, rfl, nk, fun H1 s1 => ⟨true, rfl, ?_⟩⟩
    refine iteF ?_
    refine ⟨_, rfl, _, rfl, p, dx, _, rfl, s1 _ _ h1, fl_no (by decide +kernel), p, hs, rfl, hh.same s1, by omega, fun l H2 hl2 s2 hl2' => ?_⟩
    refine ⟨l, _, rfl, .inl (SqL.of hl2'), rfl, flat_strs _, false, ?_, ?_⟩
    · show V.bl (if false = true then !inV (.str n) ((hs.ways.map (·.nm)).map V.str) else inV (.str n) ((hs.ways.map (·.nm)).map V.str)) = _
      rw [if_neg (show ¬ false = true by decide), inV_strs]
      exact bl_f nin
    refine iteF ?_
    have s12 := s1.trans s2
    have e2 := s12 _ _ h1
    obtain ⟨a4', xs, e4, q4, r4⟩ := (Dp_same s12 _ h7).tup_of
    cases e4
    have xl : xs.length = hs.ways.length := by rw [DpAll.length r4, List.length_map]
    refine ⟨_, rfl, p, CA, dx, _, _, rfl, e2, T.cl, T.n4, fl_4, .ref a4, xs.length, rfl, len_tup q4 rfl, rfl, false, ?_, ?_⟩
    · exact bl_f fun z => by have := V.int.inj z; omega
    refine iteF ?_
    refine ⟨_, rfl, p, dx, _, rfl, e2, fl_no (by decide +kernel), _, rfl, p, CA, dx, _, _, rfl, e2, T.cl, T.n5, fl_5, p, hs, _, wy, rfl, hh.same s12, hw, fun wv dwv => ?_⟩
    obtain ⟨wa, wb, rfl, hwa, hwb⟩ := dp_wy dwv
    refine ⟨wa, _, rfl, hwa, rfl, _, _, rfl, _, _, rfl, _, _, rfl, rfl, ?_⟩
    refine ⟨_, rfl, p, CA, dx, _, _, rfl, e2, T.cl, T.n4, fl_4, a4, xs, rfl, .inl q4, ?_⟩
    refine ⟨_, rfl, _, rfl, _, rfl, _, _, rfl, rfl, _, rfl, ?_⟩
    refine slT_take (n := wy.pl + 1) hwb (by omega) fun b4 H4 s4 hb4 => ?_
    refine ⟨_, rfl, by show 3 ≤ sizeLine; decide, fun q hq => ⟨by rw [List.length_append, List.length_singleton]; exact Nat.le_trans (show xs.length + 1 ≤ 1000 by omega) (by decide), fun b5 hb5 => ?_⟩⟩
    have nb5 : b5 ≠ p := fun z => by
      rw [z, Same.new hq _ _ (s4 _ _ e2)] at hb5; cases hb5
    have e5 : (upd (upd H4 q (.tup [.str n, .ref b4, .int (wy.pl : Int)])) b5 (.tup (xs ++ [.ref q]))) p = some (.ins CA dx (fl a1 a2 a3 a4 hs.stand)) := Same.new hb5 _ _ (Same.new hq _ _ (s4 _ _ e2))
    refine ⟨_, rfl, p, CA, dx, _, rfl, e5, T.cl, T.n4, by show 5 < 1000; decide, ?_⟩
    rw [pf_4]
    have sA := ((s12.trans s4).trans (Same.new (o := .tup [.str n, .ref b4, .int (wy.pl : Int)]) hq)).trans (Same.new (o := .tup (xs ++ [.ref q])) hb5)
    have k5 : Keep (upd (upd H4 q (.tup [.str n, .ref b4, .int (wy.pl : Int)])) b5 (.tup (xs ++ [.ref q]))) (upd (upd (upd H4 q (.tup [.str n, .ref b4, .int (wy.pl : Int)])) b5 (.tup (xs ++ [.ref q]))) p (.ins CA dx (fl a1 a2 a3 b5 hs.stand))) := Keep.mut e5 rfl
    have kA := (Keep.of sA).trans k5
    refine k _ ((SameX.of sA).trans SameX.upd) ?_
    refine ⟨dx, a1, a2, a3, b5, vs, ds, upd_same, SqT_keep kA h2, sts_keep kA h3, Dp_keep kA _ (stillAll_map intsD still_ints _) h4, SqT_keep kA h5, h6, ?_⟩
    show Dp K _ (.ref b5) (.tuple ((hs.ways ++ [(⟨n, wy.tr.take (wy.pl + 1), wy.pl⟩ : Wy)]).map wyD))
    rw [List.map_append]
    have sB := (s4.trans (Same.new (o := .tup [.str n, .ref b4, .int (wy.pl : Int)]) hq)).trans (Same.new (o := .tup (xs ++ [.ref q])) hb5)
    refine .tup (SqT_keep k5 (SqT.of upd_same)) (DpAll.append (DpAll_keep ((Keep.of sB).trans k5) _ (stillAll_map wyD still_wy _) r4) (.cons (mk_wy (SqT_keep k5 (SqT.of (Same.new hb5 _ _ upd_same))) (mk_ints (SqT_keep (((Keep.new hq).trans (Keep.new hb5)).trans k5) ?_))) .nil))
    rw [List.map_take]
    exact hb4
abbrev s_House_state : Stmt := (inClass (topS 58) 11)
abbrev N_House_state : List Str := ["self"]
abbrev P_House_state : List Str := ["self"]
theorem sc_House_state : FnScope N_House_state P_House_state (defScope s_House_state) := ⟨rfl, rfl, rfl, by decide +kernel, rfl, by decide +kernel, by decide +kernel⟩
def spState (K : PySem.W.Frag) (CA : Addr) : Sp := fun vs H Q _ => ∃ (p : Addr) (hs : Hs) (wy : Wy) (j : Nat) (st : Stt), vs = [.ref p] ∧ HouseAt K CA H p hs ∧ wayOf hs hs.stand = some wy ∧ wy.tr[wy.pl]? = some (j : Int) ∧ hs.sts[j]? = some st ∧ ∀ y H', Same H H' → StAt K H' y st → Q y H'
theorem ok_state (F : AtM K CA "state" "House.state" s_House_state P_House_state) (T : Hc K CA) (C : Gs K mg) (M_present : Md P w K mg base CA 2 "present" P_House_present (spPresent K CA)) : Md P w K mg base CA 3 "state" P_House_state (spState K CA) := by
  refine F.ok sc_House_state (fun vs H Q E h => ?_) (fun f cdv A outer s H vs Q E hr h => ?_)
  · obtain ⟨p, hs, wy, j, st, rfl, _⟩ := h
    rfl
  · obtain ⟨p, hs, wy, j, st, rfl, hh, hw, hi, hst, k⟩ := h
    have Cl := T.cl
    obtain ⟨dx, a1, a2, a3, a4, vs, ds, h1, h2, h3, h4, h5, h6, h7⟩ := hh.ex
    obtain ⟨x, ex, d, od, kvs, rfl, hd, hkv⟩ := paired_at h3 hst
    refine ⟨_, (pss_one (ps_ret (pe_frz (pe_callTy call_dictD (by rfl) C.b_dict (by decide +kernel) (pa_cons (pe_ix (k_ix_tup (K := K) rfl) (k_fld (K := K) rfl (pv 0) rfl) (pe_md0 M_present Cl (hr.mono (by decide)) (pv 0)) (fun _ _ => rfl)) pa_nil))))), ?_⟩
    refine ⟨_, rfl, p, CA, dx, _, _, rfl, h1, T.cl, T.n1, fl_1, _, rfl, p, dx, _, rfl, h1, fl_no (by decide +kernel), p, hs, wy, (j : Int), rfl, hh, hw, hi, a1, vs, _, _, rfl, rfl, h2, atI_nat ex, ?_⟩
    refine ⟨d, kvs, rfl, .inr ⟨od, hd⟩, fun q hq => ⟨q, _, rfl, upd_same, True.intro, fun od2 => ?_⟩⟩
    rw [upd_upd]
    exact k _ _ (Same.new hq) ⟨q, od2, kvs, rfl, upd_same, KVD_same (Same.new hq) hkv⟩
abbrev s_House_need_moment : Stmt := (inClass (topS 58) 12)
abbrev N_House_need_moment : List Str := ["self", "number"]
abbrev P_House_need_moment : List Str := ["self", "number"]
theorem sc_House_need_moment : FnScope N_House_need_moment P_House_need_moment (defScope s_House_need_moment) := ⟨rfl, rfl, rfl, by decide +kernel, rfl, by decide +kernel, by decide +kernel⟩
def spNeedMoment (K : PySem.W.Frag) (CA : Addr) : Sp := fun vs H Q _ => ∃ (p : Addr) (hs : Hs) (j : Nat), vs = [.ref p, .int (j : Int)] ∧ HouseAt K CA H p hs ∧ j < hs.sts.length ∧ Q .non H
theorem ok_need_moment (F : AtM K CA "need_moment" "House.need_moment" s_House_need_moment P_House_need_moment) (T : Hc K CA) (C : Gs K mg) (D_is_number : Df P w K mg base 1 "is_number" P_is_number spIsNumber) : Md P w K mg base CA 2 "need_moment" P_House_need_moment (spNeedMoment K CA) := by
  refine F.ok sc_House_need_moment (fun vs H Q E h => ?_) (fun f cdv A outer s H vs Q E hr h => ?_)
  · obtain ⟨p, hs, j, rfl, _⟩ := h
    rfl
  · obtain ⟨p, hs, j, rfl, hh, hj, k⟩ := h
    have Cl := T.cl
    obtain ⟨dx, a1, a2, a3, a4, vs, ds, h1, h2, h3, h4, h5, h6, h7⟩ := hh.ex
    have hvl : vs.length = hs.sts.length := Paired.length h3
    refine ⟨_, (pss_one (ps_if (PW.pt (pw_or (pt_not (pt_val (pe_df D_is_number (hr.mono (by decide)) (pa_cons (pv 1) pa_nil)))) (pw_or1 (pt_not (pt_chain op_le op_lt pe_int (pv 1) (pe_callB (k_len (K := K) rfl) (by rfl) C.len (by decide +kernel) (pa_cons (k_fld (K := K) rfl (pv 0) rfl) pa_nil))))))) (pss_one ps_never) pss_nil)), ?_⟩
    refine ⟨_, rfl, _, rfl, true, rfl, ?_⟩
    refine iteF ?_
    refine ⟨_, rfl, _, _, rfl, rfl, true, bl_t (by omega), ?_⟩
    refine iteT ?_
    refine ⟨_, rfl, p, CA, dx, _, _, rfl, h1, T.cl, T.n1, fl_1, .ref a1, vs.length, rfl, len_tup h2 rfl, _, _, rfl, rfl, true, bl_t (by omega), ?_⟩
    refine iteF ?_
    exact k
abbrev s_House_state_at : Stmt := (inClass (topS 58) 13)
abbrev N_House_state_at : List Str := ["self", "number"]
abbrev P_House_state_at : List Str := ["self", "number"]
theorem sc_House_state_at : FnScope N_House_state_at P_House_state_at (defScope s_House_state_at) := ⟨rfl, rfl, rfl, by decide +kernel, rfl, by decide +kernel, by decide +kernel⟩
def spStateAt (K : PySem.W.Frag) (CA : Addr) : Sp := fun vs H Q _ => ∃ (p : Addr) (hs : Hs) (j : Nat) (st : Stt), vs = [.ref p, .int (j : Int)] ∧ HouseAt K CA H p hs ∧ hs.sts[j]? = some st ∧ ∀ y H', Same H H' → StAt K H' y st → Q y H'
theorem ok_state_at (F : AtM K CA "state_at" "House.state_at" s_House_state_at P_House_state_at) (T : Hc K CA) (C : Gs K mg) (M_need_moment : Md P w K mg base CA 2 "need_moment" P_House_need_moment (spNeedMoment K CA)) : Md P w K mg base CA 3 "state_at" P_House_state_at (spStateAt K CA) := by
  refine F.ok sc_House_state_at (fun vs H Q E h => ?_) (fun f cdv A outer s H vs Q E hr h => ?_)
  · obtain ⟨p, hs, j, st, rfl, _⟩ := h
    rfl
  · obtain ⟨p, hs, j, st, rfl, hh, hst, k⟩ := h
    have Cl := T.cl
    obtain ⟨dx, a1, a2, a3, a4, vs, ds, h1, h2, h3, h4, h5, h6, h7⟩ := hh.ex
    obtain ⟨x, ex, d, od, kvs, rfl, hd, hkv⟩ := paired_at h3 hst
    refine ⟨_, (pss_cons (ps_expr (pe_md M_need_moment Cl (hr.mono (by decide)) (pv 0) (pa_cons (pv 1) pa_nil))) (pss_one (ps_ret (pe_frz (pe_callTy call_dictD (by rfl) C.b_dict (by decide +kernel) (pa_cons (pe_ix (k_ix_tup (K := K) rfl) (k_fld (K := K) rfl (pv 0) rfl) (pv 1) (fun _ _ => rfl)) pa_nil)))))), ?_⟩
    refine ⟨_, rfl, p, dx, _, rfl, h1, fl_no (by decide +kernel), _, rfl, p, hs, j, rfl, hh, (List.getElem?_eq_some_iff.mp hst).1, ?_⟩
    refine ⟨_, rfl, p, CA, dx, _, _, rfl, h1, T.cl, T.n1, fl_1, _, rfl, a1, vs, _, _, rfl, rfl, h2, atI_nat ex, ?_⟩
    refine ⟨d, kvs, rfl, .inr ⟨od, hd⟩, fun q hq => ⟨q, _, rfl, upd_same, True.intro, fun od2 => ?_⟩⟩
    rw [upd_upd]
    exact k _ _ (Same.new hq) ⟨q, od2, kvs, rfl, upd_same, KVD_same (Same.new hq) hkv⟩
end
end Bk
set_option Elab.async false
set_option linter.all false
set_option maxRecDepth 100000
set_option maxHeartbeats 4000000
namespace Bk
open PySem PySem.Spec PyProof.Rows L2 Gap
theorem ints_last (a : List Int) (x : Int) : ((a ++ [x]).map V.int)[((a ++ [x]).map V.int).length - 1]? = some (.int x) := by
  rw [List.map_append, List.map_singleton, List.length_append, List.length_singleton, Nat.add_sub_cancel, List.getElem?_append_right (Nat.le_refl _), Nat.sub_self]
  rfl
theorem ints_dropLast (a : List Int) (x : Int) : ((a ++ [x]).map V.int).dropLast = a.map V.int := by
  rw [List.map_append, List.map_singleton, List.dropLast_concat]
/-- a new house -/
def newHs : Hs := ⟨[[]], [[]], [⟨"main", [0], 0⟩], "main"⟩
theorem pf_nil {n : Str} {v : V} : putF n v [] = [(n, v)] := rfl
theorem pf_new {a1 a2 a3 a4 : Addr} {z : Str} : putF "stand" (.str z) (putF "ways" (.ref a4) (putF "deeds" (.ref a3) (putF "elders" (.ref a2) (putF "states" (.ref a1) [])))) = fl a1 a2 a3 a4 z := by
  rw [pf_nil, pf_skip n12, pf_nil, pf_skip n13, pf_skip n23, pf_nil, pf_skip n14, pf_skip n24, pf_skip n34, pf_nil, pf_skip n15, pf_skip n25, pf_skip n35, pf_skip n45, pf_nil]
  rfl
/-- how a new house is made -/
structure Nw (P : Program) (w : World) (K : PySem.W.Frag) (mg : Str → Option Value) (base : Heap) (CA : Addr) (k : Nat) (sp : Sp) : Prop where
  ex : ∃ (f : Addr) (fd : FuncData), Mk K CA f ∧ FnOk P w K mg base CX0 k f fd ["self"] sp ∧ Binds K fd ["self"] [] ∧ mg "House" = some (.ref CA)
def tNew (CA : Addr) (sp : Sp) : TE := fun _ H Q => ∀ x dx, H x = none → H dx = none → dx ≠ x → sp [.ref x] (upd (upd H dx (.own x)) x (.ins CA dx [])) (fun v H2 => v = .non ∧ Q (.ref x) H2) E0
theorem pe_new {X : Cx} {CA : Addr} {k : Nat} {sp : Sp} {p pos : Pos} (D : Nw X.prog X.w X.K X.mg X.base CA k sp) (hr : Room (k + 1) X.A) (hg : Gl X "House" := by rfl) : PE X (.Call (.Name "House" p) [] [] pos) (tNew CA sp) := by
  obtain ⟨f, fd, M, F, b, m⟩ := D.ex
  have h := pe_make0 (ds := []) (dvs := []) (E := E0) M F hr hg m b .nil pass0 (by decide) (p := p) (pos := pos)
  exact ⟨fun pins s σ H Q I hw => h.run pins s σ H Q I fun x dx h1 h2 h3 => hw x dx h1 h2 h3⟩
section
variable {P : Program} {w : World} {K : PySem.W.Frag} {mg : Str → Option Value} {base : Heap} {CA : Addr}
abbrev s_House___init__ : Stmt := (inClass (topS 58) 0)
abbrev N_House___init__ : List Str := ["self"]
abbrev P_House___init__ : List Str := ["self"]
theorem sc_House___init__ : FnScope N_House___init__ P_House___init__ (defScope s_House___init__) := ⟨rfl, rfl, rfl, by decide +kernel, rfl, by decide +kernel, by decide +kernel⟩
def spInit (K : PySem.W.Frag) (CA : Addr) : Sp := fun vs H Q _ => ∃ (p dx : Addr), vs = [.ref p] ∧ H p = some (.ins CA dx []) ∧ ∀ H', SameX p H H' → HouseAt K CA H' p newHs → Q .non H'
theorem ok_init {f : Addr} {fd : FuncData} (F : Fun K "__init__" "House.__init__" s_House___init__ f fd) (T : Hc K CA) (C : Gs K mg) : FnOk P w K mg base CX0 1 f fd ["self"] (spInit K CA) := by
  refine F.ok sc_House___init__ (fun vs H Q E h => ?_) (fun cdv A outer s H vs Q E hr h => ?_)
  · obtain ⟨p, dx, rfl, _⟩ := h
    rfl
  · obtain ⟨p, dx, rfl, hp, k⟩ := h
    refine ⟨_, (pss_cons (ps_fld (pv 0) (pe_tup (pa_cons (pe_frz pe_dnewK) pa_nil)) rfl) (pss_cons (ps_fld (pv 0) (pe_tup (pa_cons (pe_tup pa_nil) pa_nil)) rfl) (pss_cons (ps_fld (pv 0) (pe_tup (pa_cons pe_non pa_nil)) rfl) (pss_cons (ps_fld (pv 0) (pe_tup (pa_cons (pe_tup (pa_cons (pe_globE rfl C.MAIN) (pa_cons (pe_tup (pa_cons pe_int pa_nil)) (pa_cons pe_int pa_nil)))) pa_nil)) rfl) (pss_one (ps_fld (pv 0) (pe_globE rfl C.MAIN) rfl)))))), ?_⟩
    -- self.states
    intro d hd
    refine ⟨d, _, rfl, upd_same, True.intro, fun od => ?_⟩
    rw [upd_upd]
    refine ⟨by show 1 ≤ sizeLine; decide, fun a1 ha1 => ?_⟩
    have sA : Same H (upd (upd H d (.frz od (.dK []))) a1 (.tup [.ref d])) := (Same.new hd).trans (Same.new ha1)
    have hda : (upd (upd H d (.frz od (.dK []))) a1 (.tup [.ref d])) d = some (.frz od (.dK [])) := Same.new ha1 _ _ upd_same
    have haa : (upd (upd H d (.frz od (.dK []))) a1 (.tup [.ref d])) a1 = some (.tup [.ref d]) := upd_same
    generalize upd (upd H d (.frz od (.dK []))) a1 (.tup [.ref d]) = H1 at sA hda haa
    refine ⟨_, rfl, p, CA, dx, _, rfl, sA _ _ hp, T.cl, T.n1, by show 0 < 1000; decide, ?_⟩
    have k1 : Keep H1 (upd H1 p (.ins CA dx (putF "states" (.ref a1) []))) := Keep.mut (sA _ _ hp) rfl
    have x1 : SameX p H (upd H1 p (.ins CA dx (putF "states" (.ref a1) []))) := (SameX.of sA).trans SameX.upd
    have e1 : (upd H1 p (.ins CA dx (putF "states" (.ref a1) []))) p = some (.ins CA dx (putF "states" (.ref a1) [])) := upd_same
    have hd1 := k1 _ _ hda rfl
    have ha1' := k1 _ _ haa rfl
    generalize upd H1 p (.ins CA dx (putF "states" (.ref a1) [])) = H2 at k1 x1 e1 hd1 ha1'
    -- self.elders
    refine ⟨Nat.zero_le _, fun b hb => ⟨by show 1 ≤ sizeLine; decide, fun a2 ha2 => ?_⟩⟩
    have sB : Same H2 (upd (upd H2 b (.tup [])) a2 (.tup [.ref b])) := (Same.new hb).trans (Same.new ha2)
    refine ⟨_, rfl, p, CA, dx, _, rfl, sB _ _ e1, T.cl, T.n2, by show 1 < 1000; decide, ?_⟩
    have kB : Keep (upd (upd H2 b (.tup [])) a2 (.tup [.ref b])) (upd (upd (upd H2 b (.tup [])) a2 (.tup [.ref b])) p (.ins CA dx (putF "elders" (.ref a2) (putF "states" (.ref a1) [])))) := Keep.mut (sB _ _ e1) rfl
    have x2 : SameX p H (upd (upd (upd H2 b (.tup [])) a2 (.tup [.ref b])) p (.ins CA dx (putF "elders" (.ref a2) (putF "states" (.ref a1) [])))) := (x1.trans (SameX.of sB)).trans SameX.upd
    have e2 : (upd (upd (upd H2 b (.tup [])) a2 (.tup [.ref b])) p (.ins CA dx (putF "elders" (.ref a2) (putF "states" (.ref a1) [])))) p = some (.ins CA dx (putF "elders" (.ref a2) (putF "states" (.ref a1) []))) := upd_same
    have hel : Dp K (upd (upd (upd H2 b (.tup [])) a2 (.tup [.ref b])) p (.ins CA dx (putF "elders" (.ref a2) (putF "states" (.ref a1) [])))) (.ref a2) (.tuple [intsD []]) :=
      .tup (SqT_keep kB (SqT.of upd_same)) (.cons (mk_ints (SqT_keep kB (SqT.of (Same.new ha2 _ _ upd_same)))) .nil)
    have hd2 := kB _ _ (sB _ _ hd1) rfl
    have ha12 := kB _ _ (sB _ _ ha1') rfl
    generalize upd (upd (upd H2 b (.tup [])) a2 (.tup [.ref b])) p (.ins CA dx (putF "elders" (.ref a2) (putF "states" (.ref a1) []))) = H3 at x2 e2 hel hd2 ha12
    -- self.deeds
    refine ⟨by show 1 ≤ sizeLine; decide, fun a3 ha3 => ?_⟩
    have sC : Same H3 (upd H3 a3 (.tup [.non])) := Same.new ha3
    refine ⟨_, rfl, p, CA, dx, _, rfl, sC _ _ e2, T.cl, T.n3, by show 2 < 1000; decide, ?_⟩
    have kC : Keep (upd H3 a3 (.tup [.non])) (upd (upd H3 a3 (.tup [.non])) p (.ins CA dx (putF "deeds" (.ref a3) (putF "elders" (.ref a2) (putF "states" (.ref a1) []))))) := Keep.mut (sC _ _ e2) rfl
    have kC2 := (Keep.of sC).trans kC
    have x3 : SameX p H (upd (upd H3 a3 (.tup [.non])) p (.ins CA dx (putF "deeds" (.ref a3) (putF "elders" (.ref a2) (putF "states" (.ref a1) []))))) := (x2.trans (SameX.of sC)).trans SameX.upd
    have e3 : (upd (upd H3 a3 (.tup [.non])) p (.ins CA dx (putF "deeds" (.ref a3) (putF "elders" (.ref a2) (putF "states" (.ref a1) []))))) p = some (.ins CA dx (putF "deeds" (.ref a3) (putF "elders" (.ref a2) (putF "states" (.ref a1) [])))) := upd_same
    have hdd : SqT K (upd (upd H3 a3 (.tup [.non])) p (.ins CA dx (putF "deeds" (.ref a3) (putF "elders" (.ref a2) (putF "states" (.ref a1) []))))) a3 [.non] := SqT_keep kC (SqT.of upd_same)
    have hel3 := Dp_keep kC2 _ rfl hel
    have hd3 := kC2 _ _ hd2 rfl
    have ha13 := kC2 _ _ ha12 rfl
    generalize upd (upd H3 a3 (.tup [.non])) p (.ins CA dx (putF "deeds" (.ref a3) (putF "elders" (.ref a2) (putF "states" (.ref a1) [])))) = H4 at x3 e3 hdd hel3 hd3 ha13
    -- self.ways
    refine ⟨by show 1 ≤ sizeLine; decide, fun c1 hc1 => ⟨by show 3 ≤ sizeLine; decide, fun c2 hc2 => ⟨by show 1 ≤ sizeLine; decide, fun a4 ha4 => ?_⟩⟩⟩
    have sD : Same H4 (upd (upd (upd H4 c1 (.tup [.int 0])) c2 (.tup [.str "main", .ref c1, .int 0])) a4 (.tup [.ref c2])) := ((Same.new hc1).trans (Same.new hc2)).trans (Same.new ha4)
    refine ⟨_, rfl, p, CA, dx, _, rfl, sD _ _ e3, T.cl, T.n4, by show 3 < 1000; decide, ?_⟩
    have kD : Keep (upd (upd (upd H4 c1 (.tup [.int 0])) c2 (.tup [.str "main", .ref c1, .int 0])) a4 (.tup [.ref c2])) (upd (upd (upd (upd H4 c1 (.tup [.int 0])) c2 (.tup [.str "main", .ref c1, .int 0])) a4 (.tup [.ref c2])) p (.ins CA dx (putF "ways" (.ref a4) (putF "deeds" (.ref a3) (putF "elders" (.ref a2) (putF "states" (.ref a1) [])))))) := Keep.mut (sD _ _ e3) rfl
    have kD2 := (Keep.of sD).trans kD
    have x4 : SameX p H (upd (upd (upd (upd H4 c1 (.tup [.int 0])) c2 (.tup [.str "main", .ref c1, .int 0])) a4 (.tup [.ref c2])) p (.ins CA dx (putF "ways" (.ref a4) (putF "deeds" (.ref a3) (putF "elders" (.ref a2) (putF "states" (.ref a1) [])))))) := (x3.trans (SameX.of sD)).trans SameX.upd
    have e4 : (upd (upd (upd (upd H4 c1 (.tup [.int 0])) c2 (.tup [.str "main", .ref c1, .int 0])) a4 (.tup [.ref c2])) p (.ins CA dx (putF "ways" (.ref a4) (putF "deeds" (.ref a3) (putF "elders" (.ref a2) (putF "states" (.ref a1) [])))))) p = some (.ins CA dx (putF "ways" (.ref a4) (putF "deeds" (.ref a3) (putF "elders" (.ref a2) (putF "states" (.ref a1) []))))) := upd_same
    have hwy : Dp K (upd (upd (upd (upd H4 c1 (.tup [.int 0])) c2 (.tup [.str "main", .ref c1, .int 0])) a4 (.tup [.ref c2])) p (.ins CA dx (putF "ways" (.ref a4) (putF "deeds" (.ref a3) (putF "elders" (.ref a2) (putF "states" (.ref a1) [])))))) (.ref a4) (.tuple [wyD ⟨"main", [0], 0⟩]) :=
      .tup (SqT_keep kD (SqT.of upd_same)) (.cons (mk_wy (SqT_keep kD (SqT.of (Same.new ha4 _ _ upd_same))) (mk_ints (SqT_keep kD (SqT.of (Same.new ha4 _ _ (Same.new hc2 _ _ upd_same)))))) .nil)
    have hdd4 := SqT_keep kD2 hdd
    have hel4 := Dp_keep kD2 _ rfl hel3
    have hd4 := kD2 _ _ hd3 rfl
    have ha14 := kD2 _ _ ha13 rfl
    generalize upd (upd (upd (upd H4 c1 (.tup [.int 0])) c2 (.tup [.str "main", .ref c1, .int 0])) a4 (.tup [.ref c2])) p (.ins CA dx (putF "ways" (.ref a4) (putF "deeds" (.ref a3) (putF "elders" (.ref a2) (putF "states" (.ref a1) []))))) = H5 at x4 e4 hwy hdd4 hel4 hd4 ha14
    -- self.stand
    refine ⟨_, rfl, p, CA, dx, _, rfl, e4, T.cl, T.n5, by show 4 < 1000; decide, ?_⟩
    rw [pf_new]
    have kE : Keep H5 (upd H5 p (.ins CA dx (fl a1 a2 a3 a4 "main"))) := Keep.mut e4 rfl
    refine k _ (x4.trans SameX.upd) ⟨dx, a1, a2, a3, a4, [.ref d], [.non], upd_same, SqT_keep kE (SqT.of ha14), .cons ?_ .nil, Dp_keep kE _ rfl hel4, SqT_keep kE hdd4, rfl, Dp_keep kE _ rfl hwy⟩
    exact ⟨d, od, [], rfl, kE _ _ hd4 rfl, .nil⟩
abbrev s_House_follow : Stmt := (inClass (topS 58) 21)
abbrev N_House_follow : List Str := ["self", "other"]
abbrev P_House_follow : List Str := ["self", "other"]
theorem sc_House_follow : FnScope N_House_follow P_House_follow (defScope s_House_follow) := ⟨rfl, rfl, rfl, by decide +kernel, rfl, by decide +kernel, by decide +kernel⟩
def spFollow (K : PySem.W.Frag) (CA : Addr) : Sp := fun vs H Q _ => ∃ (p q : Addr) (h0 hs : Hs), vs = [.ref p, .ref q] ∧ p ≠ q ∧ HouseAt K CA H p h0 ∧ HouseAt K CA H q hs ∧ ∀ H', SameX p H H' → HouseAt K CA H' p hs → Q .non H'
theorem ok_follow (F : AtM K CA "follow" "House.follow" s_House_follow P_House_follow) (T : Hc K CA) : Md P w K mg base CA 1 "follow" P_House_follow (spFollow K CA) := by
  refine F.ok sc_House_follow (fun vs H Q E h => ?_) (fun f cdv A outer s H vs Q E hr h => ?_)
  · obtain ⟨p, q, h0, hs, rfl, _⟩ := h
    rfl
  · obtain ⟨p, q, h0, hs, rfl, pq, hh0, hh, k⟩ := h
    obtain ⟨dx, a1, a2, a3, a4, vs, ds, h1, _⟩ := hh0.ex
    obtain ⟨ex, b1, b2, b3, b4, vs', ds', g1, g2, g3, g4, g5, g6, g7⟩ := hh.ex
    refine ⟨_, (pss_cons (ps_fld (pv 0) (k_fld (K := K) rfl (pv 1) rfl) rfl) (pss_cons (ps_fld (pv 0) (k_fld (K := K) rfl (pv 1) rfl) rfl) (pss_cons (ps_fld (pv 0) (k_fld (K := K) rfl (pv 1) rfl) rfl) (pss_cons (ps_fld (pv 0) (k_fld (K := K) rfl (pv 1) rfl) rfl) (pss_one (ps_fld (pv 0) (k_fld (K := K) rfl (pv 1) rfl) rfl)))))), ?_⟩
    have up : ∀ {H' : Hp} {fs : List (Str × V)}, H' q = some (.ins CA ex (fl b1 b2 b3 b4 hs.stand)) → (upd H' p (.ins CA dx fs)) q = some (.ins CA ex (fl b1 b2 b3 b4 hs.stand)) := fun h => by rw [upd_ne pq.symm]; exact h
    refine ⟨_, rfl, q, CA, ex, _, _, rfl, g1, T.cl, T.n1, fl_1, _, rfl, p, CA, dx, _, rfl, h1, T.cl, T.n1, by show 5 < 1000; decide, ?_⟩
    rw [pf_1]
    refine ⟨_, rfl, q, CA, ex, _, _, rfl, up g1, T.cl, T.n2, fl_2, _, rfl, p, CA, dx, _, rfl, upd_same, T.cl, T.n2, by show 5 < 1000; decide, ?_⟩
    rw [pf_2]
    refine ⟨_, rfl, q, CA, ex, _, _, rfl, up (up g1), T.cl, T.n3, fl_3, _, rfl, p, CA, dx, _, rfl, upd_same, T.cl, T.n3, by show 5 < 1000; decide, ?_⟩
    rw [pf_3]
    refine ⟨_, rfl, q, CA, ex, _, _, rfl, up (up (up g1)), T.cl, T.n4, fl_4, _, rfl, p, CA, dx, _, rfl, upd_same, T.cl, T.n4, by show 5 < 1000; decide, ?_⟩
    rw [pf_4]
    refine ⟨_, rfl, q, CA, ex, _, _, rfl, up (up (up (up g1))), T.cl, T.n5, fl_5, _, rfl, p, CA, dx, _, rfl, upd_same, T.cl, T.n5, by show 5 < 1000; decide, ?_⟩
    rw [pf_5, upd_upd, upd_upd, upd_upd, upd_upd]
    have s : SameX p H (upd H p (.ins CA dx (fl b1 b2 b3 b4 hs.stand))) := SameX.upd
    have kk := s.keep h1 rfl
    exact k _ s ⟨dx, b1, b2, b3, b4, vs', ds', upd_same, SqT_keep kk g2, sts_keep kk g3, Dp_keep kk _ (stillAll_map intsD still_ints _) g4, SqT_keep kk g5, g6, Dp_keep kk _ (stillAll_map wyD still_wy _) g7⟩
abbrev s_House_twin : Stmt := (inClass (topS 58) 22)
abbrev N_House_twin : List Str := ["self", "found"]
abbrev P_House_twin : List Str := ["self"]
theorem sc_House_twin : FnScope N_House_twin P_House_twin (defScope s_House_twin) := ⟨rfl, rfl, rfl, by decide +kernel, rfl, by decide +kernel, by decide +kernel⟩
def spTwin (K : PySem.W.Frag) (CA : Addr) : Sp := fun vs H Q _ => ∃ (p : Addr) (hs : Hs), vs = [.ref p] ∧ HouseAt K CA H p hs ∧ ∀ q H', H q = none → Same H H' → HouseAt K CA H' q hs → Q (.ref q) H'
theorem ok_twin (F : AtM K CA "twin" "House.twin" s_House_twin P_House_twin) (T : Hc K CA) (D_House : Nw P w K mg base CA 1 (spInit K CA)) (M_follow : Md P w K mg base CA 1 "follow" P_House_follow (spFollow K CA)) : Md P w K mg base CA 3 "twin" P_House_twin (spTwin K CA) := by
  refine F.ok sc_House_twin (fun vs H Q E h => ?_) (fun f cdv A outer s H vs Q E hr h => ?_)
  · obtain ⟨p, hs, rfl, _⟩ := h
    rfl
  · obtain ⟨p, hs, rfl, hh, k⟩ := h
    have Cl := T.cl
    obtain ⟨dx, a1, a2, a3, a4, vs, ds, h1, _⟩ := id hh.ex
    refine ⟨_, (pss_cons (ps_set (i := 1) sc_House_twin.nd rfl (Or.inl rfl) (pe_new D_House (hr.mono (by decide)))) (pss_cons (ps_expr (pe_md M_follow Cl (hr.mono (by decide)) (pv 1) (pa_cons (pv 0) pa_nil))) (pss_one (ps_ret (pv 1))))), ?_⟩
    intro q dq hq hdq ne
    have qp : q ≠ p := fun z => by rw [z, h1] at hq; cases hq
    have s0 : Same H (upd (upd H dq (.own q)) q (.ins CA dq [])) := fun b o e => by
      rw [upd_ne (ne_of_none e hq), upd_ne (ne_of_none e hdq)]
      exact e
    refine ⟨q, dq, rfl, upd_same, fun H1 s1 hh1 => ⟨rfl, ?_⟩⟩
    have s01 : Same H H1 := fun b o e => s1 b o (ne_of_none e hq) (s0 b o e)
    obtain ⟨ex, b1, b2, b3, b4, vs', ds', g1, _⟩ := id hh1.ex
    refine ⟨_, rfl, q, ex, _, rfl, g1, fl_no (by decide +kernel), _, rfl, q, p, newHs, hs, rfl, qp, hh1, hh.same s01, fun H2 s2 hh2 => ?_⟩
    refine ⟨_, rfl, k q H2 hq (fun b o e => s2 b o (ne_of_none e hq) (s01 b o e)) hh2⟩
end
end Bk
set_option Elab.async false
set_option linter.all false
set_option maxRecDepth 100000
set_option maxHeartbeats 4000000
namespace Bk
open PySem PySem.Spec PyProof.Rows L2 Gap
theorem ae_le {els : List (List Int)} {m : Nat} {F L R : List Int} (h : ae els m F L = some R) : F.length + L.length ≤ 1000 := by
  cases m with
  | zero => cases h
  | succ m =>
    unfold ae at h
    split at h
    · cases h
    · omega
theorem ae_nil {els : List (List Int)} {m : Nat} {F R : List Int} (h : ae els m F [] = some R) : F = R := by
  cases m with
  | zero => cases h
  | succ m =>
    unfold ae at h
    split at h
    · cases h
    · simpa using h
theorem ae_in {els : List (List Int)} {m : Nat} {F La R : List Int} {x : Int} (h : ae els m F (La ++ [x]) = some R) (hx : x ∈ F) : ∃ m', m' < m ∧ ae els m' F La = some R := by
  cases m with
  | zero => cases h
  | succ m =>
    unfold ae at h
    split at h
    · cases h
    · rw [List.getLast?_concat, List.dropLast_concat] at h
      simp only [if_pos hx] at h
      exact ⟨m, Nat.lt_succ_self _, h⟩
theorem ae_out {els : List (List Int)} {m : Nat} {F La R : List Int} {x : Int} (h : ae els m F (La ++ [x]) = some R) (hx : x ∉ F) : ∃ m' j es, m' < m ∧ x = (j : Nat) ∧ els[j]? = some es ∧ (La ++ [x]).length + es.length ≤ 1000 ∧ ae els m' (F ++ [x]) (La ++ es) = some R := by
  cases m with
  | zero => cases h
  | succ m =>
    unfold ae at h
    split at h
    · cases h
    · rw [List.getLast?_concat, List.dropLast_concat] at h
      simp only [if_neg hx] at h
      split at h
      · cases h
      · rename_i hn
        split at h
        · rename_i es he
          split at h
          · cases h
          · exact ⟨m, x.toNat, es, Nat.lt_succ_self _, by omega, he, by omega, h⟩
        · cases h
section
variable {P : Program} {w : World} {K : PySem.W.Frag} {mg : Str → Option Value} {base : Heap} {CA : Addr}
abbrev s_House_all_elders : Stmt := (inClass (topS 58) 19)
abbrev N_House_all_elders : List Str := ["self", "number", "found", "left", "one"]
abbrev P_House_all_elders : List Str := ["self", "number"]
theorem sc_House_all_elders : FnScope N_House_all_elders P_House_all_elders (defScope s_House_all_elders) := ⟨rfl, rfl, rfl, by decide +kernel, rfl, by decide +kernel, by decide +kernel⟩
def spElders (K : PySem.W.Frag) (CA : Addr) : Sp := fun vs H Q _ => ∃ (p : Addr) (hs : Hs) (n : Int) (m : Nat) (R : List Int), vs = [.ref p, .int n] ∧ HouseAt K CA H p hs ∧ ae hs.els m [] [n] = some R ∧ ∀ l H', H l = none → Same H H' → H' l = some (.lst (R.map V.int)) → Q (.ref l) H'
theorem ok_all_elders (F : AtM K CA "all_elders" "House.all_elders" s_House_all_elders P_House_all_elders) (T : Hc K CA) : Md P w K mg base CA 1 "all_elders" P_House_all_elders (spElders K CA) := by
  refine F.ok sc_House_all_elders (fun vs H Q E h => ?_) (fun f cdv A outer s H vs Q E hr h => ?_)
  · obtain ⟨p, hs, n, m, R, rfl, _⟩ := h
    rfl
  · obtain ⟨p, hs, n, m, R, rfl, hh, hm, k⟩ := h
    obtain ⟨dx, a1, a2, a3, a4, vs, ds, h1, h2, h3, h4, h5, h6, h7⟩ := hh.ex
    obtain ⟨a2', xs2, e2, q2, r2⟩ := h4.tup_of
    cases e2
    refine ⟨_, (pss_cons (ps_par (i := 2) (j := 3) rfl sc_House_all_elders.nd rfl rfl (by decide) rfl rfl (pa_cons (pe_lst pa_nil) (pa_cons (pe_lst (pa_cons (pv 1) pa_nil)) pa_nil)) (by rfl)) (pss_cons (ps_while PassesOwn.never (pt_cmpR (k_neD (K := K) rfl hr.units64) (pv 3) (pe_lst pa_nil) (nomark _)) (pss_cons (ps_set (i := 4) sc_House_all_elders.nd rfl (Or.inl rfl) (k_bm0 (K := K) rfl PySem.F.plainAttrs_list PySem.F.slot_list_pop PySem.F.type_list_pop mt_pop (pv 3))) (pss_one (ps_if (pt_cmpR (k_notIn_seq (K := K) rfl) (pv 4) (pv 2) (by rfl)) (pss_cons (ps_expr (k_bm (K := K) rfl PySem.F.plainAttrs_list PySem.F.slot_list_append PySem.F.type_list_append mt_append (pv 2) (pa_cons (pv 4) pa_nil))) (pss_one (ps_set (i := 3) sc_House_all_elders.nd rfl (Or.inl rfl) (pe_lst (k_star (K := K) rfl (pv 3) (k_star (K := K) rfl (pe_ix (k_ix_tup (K := K) rfl) (k_fld (K := K) rfl (pv 0) rfl) (pv 4) (fun _ _ => rfl)) pa_nil)))))) pss_nil)))) (pss_one (ps_ret (pv 2))))), ?_⟩
    refine ⟨Nat.zero_le _, fun pf hpf => ⟨_, rfl, by show 1 ≤ sizeLine; decide, fun pl hpl => ⟨_, _, rfl, ?_⟩⟩⟩
    have plf : pl ≠ pf := fun z => by rw [z, upd_same] at hpl; cases hpl
    have hpl0 : H pl = none := by rw [upd_ne plf] at hpl; exact hpl
    let W : Nat → L2.St → Hp → Prop := fun m σ H' => ∃ (Fs Ls : List Int) (pl : Addr) (o : Option V), σ = [some (.ref p), some (.int n), some (.ref pf), some (.ref pl), o] ∧ Same H H' ∧ H pl = none ∧ pl ≠ pf ∧ H' pf = some (.lst (Fs.map V.int)) ∧ H' pl = some (.lst (Ls.map V.int)) ∧ ae hs.els m Fs Ls = some R
    refine ⟨W, ⟨m, [], [n], pl, none, rfl, (Same.new hpf).trans (Same.new hpl), hpl0, plf, Same.new hpl _ _ upd_same, upd_same, hm⟩, ?_⟩
    rintro m σ H2 ⟨Fs, Ls, pl, o, rfl, s2, hpl0, plf, hf, hl, ha⟩
    have hle := ae_le ha
    refine ⟨_, rfl, Nat.zero_le _, fun q hq => ⟨.list (Ls.map PyData.int), .list [], .lst (SqL.of (Same.new hq _ _ hl)) (DpAll.of_ints Ls), .lst (SqL.of upd_same) .nil, shaped_ints Ls, rfl, _, rfl, ?_⟩⟩
    rw [eqv_nil]
    have s3 : Same H (upd H2 q (.lst [])) := s2.trans (Same.new hq)
    have hf3 : (upd H2 q (.lst [])) pf = some (.lst (Fs.map V.int)) := Same.new hq _ _ hf
    have hl3 : (upd H2 q (.lst [])) pl = some (.lst (Ls.map V.int)) := Same.new hq _ _ hl
    generalize upd H2 q (.lst []) = H3 at s3 hf3 hl3
    refine ite2 (fun e => ?_) (fun e => ?_)
    · obtain ⟨La, x, rfl⟩ := not_nil (l := Ls) (by cases Ls with | nil => simp at e | cons _ _ => rfl)
      refine ⟨fun σ' H' => ∃ m', m' < m ∧ W m' σ' H', fun _ _ h => h, ?_⟩
      refine ⟨_, rfl, .inl ⟨rfl, _, SqL.of hl3⟩, pl, _, _, rfl, rfl, hl3, ints_last La x, ?_⟩
      rw [ints_dropLast]
      have s4 : Same H (upd H3 pl (.lst (La.map V.int))) := Same.mut s3 hpl0
      have hf4 : (upd H3 pl (.lst (La.map V.int))) pf = some (.lst (Fs.map V.int)) := by rw [upd_ne plf.symm]; exact hf3
      have hl4 : (upd H3 pl (.lst (La.map V.int))) pl = some (.lst (La.map V.int)) := upd_same
      generalize upd H3 pl (.lst (La.map V.int)) = H4 at s4 hf4 hl4
      refine ⟨_, rfl, _, rfl, pf, _, rfl, .inl (SqL.of hf4), rfl, flat_ints _, _, rfl, ?_⟩
      show if (if true = true then !inV (.int x) (Fs.map V.int) else inV (.int x) (Fs.map V.int)) = true then _ else _
      rw [if_pos rfl, inV_ints]
      refine ite2 (fun e2 => ?_) (fun e2 => ?_)
      · have nx : x ∉ Fs := by simpa using e2
        obtain ⟨m', j, es, hm', rfl, he, hsz, ha'⟩ := ae_out ha nx
        refine ⟨_, rfl, .inl ⟨rfl, _, SqL.of hf4⟩, _, rfl, pf, _, _, rfl, rfl, hf4, by rw [List.length_map]; exact small1000 (by omega), ?_⟩
        have s5 : Same H (upd H4 pf (.lst (Fs.map V.int ++ [.int (j : Int)]))) := Same.mut s4 hpf
        have hf5 : (upd H4 pf (.lst (Fs.map V.int ++ [.int (j : Int)]))) pf = some (.lst ((Fs ++ [(j : Int)]).map V.int)) := by rw [upd_same, List.map_append]; rfl
        have hl5 : (upd H4 pf (.lst (Fs.map V.int ++ [.int (j : Int)]))) pl = some (.lst (La.map V.int)) := by rw [upd_ne plf]; exact hl4
        generalize upd H4 pf (.lst (Fs.map V.int ++ [.int (j : Int)])) = H5 at s5 hf5 hl5
        obtain ⟨y, ey, dy⟩ := paired_at r2.paired he
        obtain ⟨eb, rfl, heb⟩ := dp_ints (Dp_same s5 _ dy)
        refine ⟨_, rfl, pl, _, rfl, .inr (SqL.of hl5), ?_⟩
        refine ⟨_, rfl, p, CA, dx, _, _, rfl, s5 _ _ h1, T.cl, T.n2, fl_2, _, rfl, a2, xs2, _, _, rfl, rfl, SqT_same s5 q2, atI_nat ey, eb, _, rfl, .inl heb, ?_⟩
        refine ⟨?_, fun p2 hp2 => ?_⟩
        · rw [List.length_append, List.length_append, List.length_map, List.length_map, List.length_nil]
          rw [List.length_append] at hsz
          exact Nat.le_trans (show La.length + (es.length + 0) ≤ 1000 by omega) (by decide)
        refine ⟨m', hm', Fs ++ [(j : Int)], La ++ es, p2, _, rfl, s5.trans (Same.new hp2), s5.free hp2, ?_, Same.new hp2 _ _ hf5, ?_, ha'⟩
        · exact fun z => by rw [z, hf5] at hp2; cases hp2
        · rw [upd_same, List.append_nil, List.map_append]
      · have nx : x ∈ Fs := by simpa using e2
        obtain ⟨m', hm', ha'⟩ := ae_in ha nx
        exact ⟨m', hm', Fs, La, pl, _, rfl, s4, hpl0, plf, hf4, hl4, ha'⟩
    · have hnil : Ls = [] := by
        cases Ls with
        | nil => rfl
        | cons a b => exact absurd rfl e
      subst hnil
      cases ae_nil ha
      exact ⟨_, rfl, k pf _ hpf s3 hf3⟩
abbrev s_House_merge : Stmt := (inClass (topS 58) 20)
abbrev N_House_merge : List Str := ["self", "name", "way", "number", "other", "mine", "common", "state", "one"]
abbrev P_House_merge : List Str := ["self", "name"]
theorem sc_House_merge : FnScope N_House_merge P_House_merge (defScope s_House_merge) := ⟨rfl, rfl, rfl, by decide +kernel, rfl, by decide +kernel, by decide +kernel⟩
def spMerge (K : PySem.W.Frag) (CA : Addr) : Sp := fun vs H Q _ => ∃ (p : Addr) (hs : Hs) (n : Str) (wo ws : Wy) (i j c : Nat) (m1 m2 : Nat) (R1 R2 : List Int) (s0 s1 s2 : Stt) (cf : Str → Option Told), vs = [.ref p, .str n] ∧ HouseAt K CA H p hs ∧ hs.sts.length ≤ 100 ∧ hs.els.length ≤ 100 ∧ hs.ways.length ≤ 1000 ∧
  wayOf hs n = some wo ∧ wo.tr[wo.pl]? = some (j : Int) ∧ wayOf hs hs.stand = some ws ∧ ws.tr[ws.pl]? = some (i : Int) ∧ ws.tr.length ≤ 1000 ∧ ae hs.els m1 [] [(i : Int)] = some R1 ∧ (j : Int) ∉ R1 ∧ ae hs.els m2 [] [(j : Int)] = some R2 ∧ R2.length ≤ 1000 ∧
  (c : Int) ∈ R2 ∧ (c : Int) ∈ R1 ∧ (∀ y, y ∈ R2 → y ∈ R1 → y ≤ (c : Int)) ∧ hs.sts[c]? = some s0 ∧ hs.sts[i]? = some s1 ∧ hs.sts[j]? = some s2 ∧
  (keysOf s0).Nodup ∧ (keysOf s1).Nodup ∧ (keysOf s2).Nodup ∧ s0.length + s1.length + s2.length ≤ 60 ∧
  (∀ n, SeqAt.shaped (oD (s0.lookup n)) = true ∧ SeqAt.shaped (oD (s1.lookup n)) = true ∧ SeqAt.shaped (oD (s2.lookup n)) = true) ∧ (∀ n, allK s0 s1 s2 n → comeL (s0.lookup n) (s1.lookup n) (s2.lookup n) = [cf n]) ∧
  (∀ st', Came s0 s1 s2 cf st' → ∃ v w L r, Good st' v w L r) ∧ ∀ st' H', Came s0 s1 s2 cf st' → SameX p H H' → HouseAt K CA H' p (madeHs hs ws st' [(i : Int), (j : Int)]) → Q (.int (hs.sts.length : Int)) H'
theorem ok_merge (F : AtM K CA "merge" "House.merge" s_House_merge P_House_merge) (T : Hc K CA) (C : Gs K mg) (M_way_of : Md P w K mg base CA 1 "way_of" P_House_way_of (spWayOf K CA)) (M_present : Md P w K mg base CA 2 "present" P_House_present (spPresent K CA)) (M_all_elders : Md P w K mg base CA 1 "all_elders" P_House_all_elders (spElders K CA))
    (M_made : Md P w K mg base CA 2 "made" P_House_made (spMade K CA)) (D_merged : Df P w K mg base 5 "merged" P_merged (spMerged K)) (D_need_room : Df P w K mg base 5 "need_room" P_need_room (spNeedRoom K)) : Md P w K mg base CA 6 "merge" P_House_merge (spMerge K CA) := by
  refine F.ok sc_House_merge (fun vs H Q E h => ?_) (fun f cdv A outer s H vs Q E hr h => ?_)
  · obtain ⟨p, hs, n, wo, ws, i, j, c, m1, m2, R1, R2, s0, s1, s2, cf, rfl, _⟩ := h
    rfl
  · obtain ⟨p, hs, n, wo, ws, i, j, c, m1, m2, R1, R2, s0, s1, s2, cf, rfl, hh, hl1, hl2, hl3, hwo, hj, hws, hi, htl, hR1, njR, hR2, hR2l, cR2, cR1, cmax, hs0, hs1, hs2, nd0, nd1, nd2, len, shp, cm, gd, k⟩ := h
    have Cl := T.cl
    obtain ⟨dx, a1, a2, a3, a4, vs, ds, h1, h2, h3, h4, h5, h6, h7⟩ := hh.ex
    obtain ⟨x0, ex0, hx0⟩ := paired_at h3 hs0
    obtain ⟨x1, ex1, hx1⟩ := paired_at h3 hs1
    obtain ⟨x2, ex2, hx2⟩ := paired_at h3 hs2
    refine ⟨_, (pss_cons (ps_par (i := 2) (j := 3) rfl sc_House_merge.nd rfl rfl (by decide) rfl rfl (pa_cons (pe_md M_way_of Cl (hr.mono (by decide)) (pv 0) (pa_cons (pv 1) pa_nil)) (pa_cons (pe_md0 M_present Cl (hr.mono (by decide)) (pv 0)) pa_nil)) (by rfl)) (pss_cons (ps_asg (pe_tup (pa_cons (pe_ix (k_ix_tup (K := K) rfl) (pe_ix (k_ix_tup (K := K) rfl) (pv 2) pe_int (fun _ _ => rfl)) (pe_ix (k_ix_tup (K := K) rfl) (pv 2) pe_int (fun _ _ => rfl)) (fun _ _ => rfl)) (pa_cons (pe_md M_all_elders Cl (hr.mono (by decide)) (pv 0) (pa_cons (pv 3) pa_nil)) pa_nil))) (k_pg_tup (K := K) rfl rfl (pgs_cons (pg_name (i := 4) sc_House_merge.nd rfl (Or.inl rfl)) (pgs_cons (pg_name (i := 5) sc_House_merge.nd rfl (Or.inr rfl)) pgs_nil)))) (pss_cons (ps_if (pt_cmpR (k_in_seq (K := K) rfl) (pv 4) (pv 5) (by rfl)) (pss_one (ps_ret (pv 3))) pss_nil) (pss_cons (ps_set (i := 6) sc_House_merge.nd rfl (Or.inl rfl) (pe_callB (k_max (K := K) rfl rfl) (by rfl) C.max (by decide +kernel) (pa_cons (pe_lc (own := [("one", 8)]) (g := gName 8) rfl sc_House_merge.nd (k_pi_list (K := K) rfl (pe_md M_all_elders Cl (hr.mono (by decide)) (pv 0) (pa_cons (pv 4) pa_nil))) (blkOk_by (own := [("one", 8)]) (N := N_House_merge) (sc := (defScope s_House_merge)) (by decide +kernel)) (fun _ _ _ _ _ => (pg_name (i := 8) sc_House_merge.nd rfl (Or.inl rfl))) (fun _ _ _ _ _ => (pts_one (pt_cmpR (k_in_seq (K := K) rfl) (pv 8) (pv 5) (by rfl)))) (fun _ _ _ _ _ => (pv 8))) pa_nil))) (pss_cons (ps_set (i := 7) sc_House_merge.nd rfl (Or.inl rfl) (pe_df D_merged (hr.mono (by decide)) (pa_cons (pe_ix (k_ix_tup (K := K) rfl) (k_fld (K := K) rfl (pv 0) rfl) (pv 6) (fun _ _ => rfl)) (pa_cons (pe_ix (k_ix_tup (K := K) rfl) (k_fld (K := K) rfl (pv 0) rfl) (pv 3) (fun _ _ => rfl)) (pa_cons (pe_ix (k_ix_tup (K := K) rfl) (k_fld (K := K) rfl (pv 0) rfl) (pv 4) (fun _ _ => rfl)) pa_nil))))) (pss_one (ps_ret (pe_md M_made Cl (hr.mono (by decide)) (pv 0) (pa_cons (pe_df D_need_room (hr.mono (by decide)) (pa_cons (pv 7) pa_nil)) (pa_cons (pe_tup (pa_cons (pv 3) (pa_cons (pv 4) pa_nil))) (pa_cons (pe_tup (pa_cons pe_str (pa_cons (pe_ix (k_ix_tup (K := K) rfl) (pv 2) pe_int (fun _ _ => rfl)) pa_nil))) pa_nil))))))))))), ?_⟩
    refine ⟨_, rfl, p, dx, _, rfl, h1, fl_no (by decide +kernel), _, rfl, p, hs, n, wo, rfl, hh, hwo, fun u du => ?_⟩
    obtain ⟨wa, wb, rfl, hwa, hwb⟩ := dp_wy du
    refine ⟨_, rfl, p, dx, _, rfl, h1, fl_no (by decide +kernel), p, hs, ws, (i : Int), rfl, hh, hws, hi, _, _, rfl, ?_⟩
    refine ⟨_, rfl, wa, _, _, _, rfl, rfl, hwa, atI_nat (j := 1) rfl, _, rfl, wa, _, _, _, rfl, rfl, hwa, atI_nat (j := 2) rfl, wb, _, _, _, rfl, rfl, hwb, atI_nat (by rw [List.getElem?_map, hj]; rfl), ?_⟩
    refine ⟨_, rfl, p, dx, _, rfl, h1, fl_no (by decide +kernel), _, rfl, p, hs, (i : Int), m1, R1, rfl, hh, hR1, fun l H1 hl s1' hl1' => ?_⟩
    refine ⟨by show 2 ≤ sizeLine; decide, fun q hq => ⟨q, _, rfl, SqT.of upd_same, rfl, _, _, rfl, _, _, rfl, rfl, ?_⟩⟩
    have sA := s1'.trans (Same.new (o := .tup [.int (j : Int), .ref l]) hq)
    have hlA : (upd H1 q (.tup [.int (j : Int), .ref l])) l = some (.lst (R1.map V.int)) := Same.new hq _ _ hl1'
    generalize upd H1 q (.tup [.int (j : Int), .ref l]) = H2 at sA hlA
    refine ⟨_, rfl, _, rfl, l, _, rfl, .inl (SqL.of hlA), rfl, flat_ints _, false, ?_, ?_⟩
    · show V.bl (if false = true then !inV (.int (j : Int)) (R1.map V.int) else inV (.int (j : Int)) (R1.map V.int)) = _
      rw [if_neg (show ¬ false = true by decide), inV_ints]
      exact bl_f njR
    refine iteF ?_
    -- common
    refine ⟨_, rfl, p, dx, _, rfl, sA _ _ h1, fl_no (by decide +kernel), _, rfl, p, hs, (j : Int), m2, R2, rfl, hh.same sA, hR2, fun l2 H3 hlb s3 hl2' => ?_⟩
    refine ⟨l2, rfl, ⟨_, SqL.of hl2'⟩, fun D hD => lc_pure (K := K) hD (wk_list (paired_map R2)) (fun y => decide (y ∈ R1)) (fun y => PyData.int y) (by omega) (fun H' s => SqL.of (s _ _ hl2')) (fun _ _ _ => rfl) ?_ ?_⟩
    · rintro x y H' Kt Kf rfl mem s4 k1 k2
      refine ⟨rfl, _, rfl, _, rfl, l, _, rfl, .inl (SqL.of (s4 _ _ (s3 _ _ hlA))), rfl, flat_ints _, _, rfl, ?_⟩
      show if (if false = true then !inV (.int y) (R1.map V.int) else inV (.int y) (R1.map V.int)) = true then _ else _
      rw [if_neg (show ¬ false = true by decide), inV_ints]
      exact ite2 (fun e => ⟨_, rfl, k1 e _ _ (Same.refl _) (.int _)⟩) (fun e => k2 (by simpa using e) _ (Same.refl _))
    · intro zs H4 s4 hz dz
      have ez := DpAll.map_ints dz
      subst ez
      have cin : (c : Int) ∈ R2.filter fun y => decide (y ∈ R1) := List.mem_filter.mpr ⟨cR2, decide_eq_true cR1⟩
      refine ⟨D, _, rfl, SqL.of hz, List.length_pos_of_mem cin, fun mx hmx hle => ?_⟩
      have emx : mx = (c : Int) := by
        obtain ⟨h1, h2⟩ := List.mem_filter.mp hmx
        have a := hle _ cin
        have b := cmax mx h1 (of_decide_eq_true h2)
        omega
      subst emx
      have s14 := (sA.trans s3).trans s4
      have hhp := s14 _ _ h1
      have ht := SqT_same s14 h2
      refine ⟨_, rfl, p, CA, dx, _, _, rfl, hhp, T.cl, T.n1, fl_1, _, rfl, a1, vs, _, _, rfl, rfl, ht, atI_nat ex0, ?_⟩
      refine ⟨_, rfl, p, CA, dx, _, _, rfl, hhp, T.cl, T.n1, fl_1, _, rfl, a1, vs, _, _, rfl, rfl, ht, atI_nat ex1, ?_⟩
      refine ⟨_, rfl, p, CA, dx, _, _, rfl, hhp, T.cl, T.n1, fl_1, _, rfl, a1, vs, _, _, rfl, rfl, ht, atI_nat ex2, ?_⟩
      refine ⟨x0, x1, x2, s0, s1, s2, cf, rfl, DcAt_same s14 hx0, DcAt_same s14 hx1, DcAt_same s14 hx2, nd0, nd1, nd2, len, shp, cm, gd, fun u st' H5 s5 hu5 came => ?_⟩
      obtain ⟨v, wt, L, r, g⟩ := gd st' came
      have s15 := s14.trans s5
      refine ⟨_, rfl, p, dx, _, rfl, s15 _ _ h1, fl_no (by decide +kernel), _, rfl, u, st', v, wt, L, r, rfl, hu5, g, fun H6 s6 => ?_⟩
      have s16 := s15.trans s6
      refine ⟨_, rfl, _, rfl, by show 2 ≤ sizeLine; decide, fun q2 hq2 => ?_⟩
      have s17 := s16.trans (Same.new (o := .tup [.int (i : Int), .int (j : Int)]) hq2)
      refine ⟨_, rfl, wa, _, _, _, rfl, rfl, SqT_same s17 hwa, atI_nat (j := 0) rfl, by show 2 ≤ sizeLine; decide, fun q3 hq3 => ?_⟩
      have s18 := s17.trans (Same.new (o := .tup [.str "merge", .str wo.nm]) hq3)
      refine ⟨p, hs, u, .ref q2, .ref q3, st', [(i : Int), (j : Int)], ws, rfl, hh.same s18, DcAt_same ((s6.trans (Same.new hq2)).trans (Same.new hq3)) hu5, mk_ints (SqT.of (Same.new hq3 _ _ upd_same)), hl1, hl2, hl3, hws, (List.getElem?_eq_some_iff.mp hi).1, htl, fun H7 s7 hh7 => k st' H7 came ((SameX.of s18).trans s7) hh7⟩
end
end Bk
set_option Elab.async false
set_option linter.all false
set_option maxRecDepth 100000
set_option maxHeartbeats 4000000
namespace Bk
open PySem PySem.Spec PyProof.Rows L2 Gap
def oM (st : Stt) (v : Str → Mv) (n : Str) : PyData := if n ∈ keysOf st then mvD (v n) else .none
theorem shaped_oM (st : Stt) (v : Str → Mv) (n : Str) : SeqAt.shaped (oM st v n) = true := by
  unfold oM
  split
  · exact shaped_mv _
  · rfl
theorem DcAt.getO {K : PySem.W.Frag} {H : Hp} {y : V} {st : Stt} {v : Str → Mv} {os : List Str} (pm : os.Perm (keysOf st)) (h : DcAt K H y (os.map fun n => (n, mvD (v n)))) (n : Str) : ∃ a o, y = .ref a ∧ IsD H a ∧ DGet H a (.str n) o ∧ Dp K H (o.getD .non) (oM st v n) := by
  obtain ⟨a, e, d⟩ := DcAt.isD h
  by_cases hn : n ∈ keysOf st
  · obtain ⟨a', u, e', g, du⟩ := h.get (lookup_mapf (fun n => mvD (v n)) (pm.mem_iff.mpr hn))
    rw [e] at e'
    cases e'
    refine ⟨a, some u, e, d, g, ?_⟩
    unfold oM
    rw [if_pos hn]
    exact du
  · obtain ⟨a', e', g⟩ := h.none (n := n) (lookup_none (by rw [List.map_map]; intro z; exact hn ((pm.mem_iff).mp (by simpa using z))))
    rw [e] at e'
    cases e'
    refine ⟨a, Option.none, e, d, g, ?_⟩
    unfold oM
    rw [if_neg hn]
    exact .non
def difM (s1 s2 : Stt) (v1 v2 : Str → Mv) (n : Str) : Bool := !PyData.eqv (oM s1 v1 n) (oM s2 v2 n)
section
variable {P : Program} {w : World} {K : PySem.W.Frag} {mg : Str → Option Value} {base : Heap} {CA : Addr}
abbrev s_changed : Stmt := (topS 59)
abbrev N_changed : List Str := ["house", "one", "other", "here", "there", "name"]
abbrev P_changed : List Str := ["house", "one", "other"]
theorem sc_changed : FnScope N_changed P_changed (defScope s_changed) := ⟨rfl, rfl, rfl, by decide +kernel, rfl, by decide +kernel, by decide +kernel⟩
def spChanged (K : PySem.W.Frag) (CA : Addr) : Sp := fun vs H Q _ => ∃ (p : Addr) (hs : Hs) (i j : Nat) (s1 s2 : Stt) (v1 v2 : Str → Mv) (w1 w2 L1 L2 r1 r2 : Str → Nat), vs = [.ref p, .int (i : Int), .int (j : Int)] ∧ HouseAt K CA H p hs ∧ hs.sts[i]? = some s1 ∧ hs.sts[j]? = some s2 ∧ Good s1 v1 w1 L1 r1 ∧ Good s2 v2 w2 L2 r2 ∧
  ∀ (ns : List Str) l H', ns.Nodup → (∀ n, n ∈ ns ↔ n ∈ keysOf s1 ∨ n ∈ keysOf s2) → sortedS ns = true → Same H H' → H' l = some (.lst ((ns.filter (difM s1 s2 v1 v2)).map V.str)) → Q (.ref l) H'
theorem ok_changed (F : At K mg "changed" s_changed P_changed) (T : Hc K CA) (C : Gs K mg) (M_state_at : Md P w K mg base CA 3 "state_at" P_House_state_at (spStateAt K CA)) (D_values : Df P w K mg base 4 "values" P_values (spValues K)) : Df P w K mg base 5 "changed" P_changed (spChanged K CA) := by
  refine F.ok sc_changed (fun vs H Q E h => ?_) (fun f cdv A outer s H vs Q E hr h => ?_)
  · obtain ⟨p, hs, i, j, s1, s2, v1, v2, w1, w2, L1, L2, r1, r2, rfl, _⟩ := h
    rfl
  · obtain ⟨p, hs, i, j, s1, s2, v1, v2, w1, w2, L1, L2, r1, r2, rfl, hh, hs1, hs2, g1, g2, k⟩ := h
    have hu := hu_of hr
    have Cl := T.cl
    obtain ⟨dx, a1, a2, a3, a4, vs, ds, h1, h2, h3, h4, h5, h6, h7⟩ := hh.ex
    refine ⟨_, (pss_cons (ps_asg (pe_tup (pa_cons (pe_df D_values (hr.mono (by decide)) (pa_cons (pe_md M_state_at Cl (hr.mono (by decide)) (pv 0) (pa_cons (pv 1) pa_nil)) pa_nil)) (pa_cons (pe_df D_values (hr.mono (by decide)) (pa_cons (pe_md M_state_at Cl (hr.mono (by decide)) (pv 0) (pa_cons (pv 2) pa_nil)) pa_nil)) pa_nil))) (k_pg_tup (K := K) rfl rfl (pgs_cons (pg_name (i := 3) sc_changed.nd rfl (Or.inr rfl)) (pgs_cons (pg_name (i := 4) sc_changed.nd rfl (Or.inr rfl)) pgs_nil)))) (pss_one (ps_ret (pe_lc (own := [("name", 5)]) (g := gName 5) rfl sc_changed.nd (k_pi_list (K := K) rfl (pe_callB (k_sortedD rfl) (by rfl) C.sorted (by decide +kernel) (pa_cons (pe_mg2 (pv 3) (pv 4)) pa_nil))) (blkOk_by (own := [("name", 5)]) (N := N_changed) (sc := (defScope s_changed)) (by decide +kernel)) (fun _ _ _ _ _ => (pg_name (i := 5) sc_changed.nd rfl (Or.inl rfl))) (fun _ _ _ _ _ => (pts_one (pt_cmpR (k_neD (K := K) rfl hr.units64) (pe_dget1 hu (pv 3) (pv 5) ⟨rfl, rfl, rfl, rfl⟩) (pe_dget1 hu (pv 4) (pv 5) ⟨rfl, rfl, rfl, rfl⟩) (nomark _)))) (fun _ _ _ _ _ => (pv 5)))))), ?_⟩
    refine ⟨_, rfl, p, dx, _, rfl, h1, fl_no (by decide +kernel), _, rfl, p, hs, i, s1, rfl, hh, hs1, fun y1 H1 t1 hy1 => ?_⟩
    refine ⟨y1, s1, v1, w1, L1, r1, rfl, hy1, g1, fun os1 z1 H2 pm1 t2 hz1 => ?_⟩
    have u2 := t1.trans t2
    refine ⟨_, rfl, p, dx, _, rfl, u2 _ _ h1, fl_no (by decide +kernel), _, rfl, p, hs, j, s2, rfl, hh.same u2, hs2, fun y2 H3 t3 hy2 => ?_⟩
    refine ⟨y2, s2, v2, w2, L2, r2, rfl, hy2, g2, fun os2 z2 H4 pm2 t4 hz2 => ?_⟩
    have u4 := (u2.trans t3).trans t4
    have hz1' := DcAt_same (t3.trans t4) hz1
    refine ⟨by show 2 ≤ sizeLine; decide, fun q hq => ⟨q, _, rfl, SqT.of upd_same, rfl, _, _, rfl, _, _, rfl, rfl, ?_⟩⟩
    have u5 := u4.trans (Same.new (o := .tup [z1, z2]) hq)
    have b1 := DcAt_same (Same.new (o := .tup [z1, z2]) hq) hz1'
    have b2 := DcAt_same (Same.new (o := .tup [z1, z2]) hq) hz2
    generalize upd H4 q (.tup [z1, z2]) = H5 at u5 b1 b2
    obtain ⟨d1, od1, k1, rfl, hd1, r1'⟩ := id b1
    obtain ⟨d2, od2, k2, rfl, hd2, r2'⟩ := id b2
    have ek1 : k1.map (·.1) = os1.map Sum.inr := by have := r1'.keys; rw [List.map_map] at this; exact this.trans (by simp [Function.comp_def])
    have ek2 : k2.map (·.1) = os2.map Sum.inr := by have := r2'.keys; rw [List.map_map] at this; exact this.trans (by simp [Function.comp_def])
    obtain ⟨na, ea, nda, ma, la⟩ := mergeK_keys k1 [] os1 [] rfl ek1 List.nodup_nil
    obtain ⟨nb, eb, ndb, mb, lb⟩ := mergeK_keys k2 _ os2 na ea ek2 nda
    have ll1 : os1.length ≤ 12 := by rw [pm1.length_eq, List.length_map]; exact g1.n12
    have ll2 : os2.length ≤ 12 := by rw [pm2.length_eq, List.length_map]; exact g2.n12
    have kl1 : k1.length = os1.length := by have := congrArg List.length ek1; rw [List.length_map, List.length_map] at this; exact this
    have kl2 : k2.length = os2.length := by have := congrArg List.length ek2; rw [List.length_map, List.length_map] at this; exact this
    simp only [List.length_nil] at la
    intro p6 hp6
    have np : ∀ {d : Addr} {o : HO}, H5 d = some o → p6 ≠ d := fun h z => by rw [z] at hp6; rw [hp6] at h; cases h
    have keepd : ∀ {d : Addr} {o u : HO}, H5 d = some o → (upd H5 p6 u) d = some o := fun h => Same.new hp6 _ _ h
    refine ⟨_, rfl, d1, k1, rfl, np hd1, upd_same, .inr ⟨od1, keepd hd1⟩, ?_⟩
    rw [upd_upd]
    refine ⟨_, rfl, d2, k2, rfl, np hd2, upd_same, .inr ⟨od2, keepd hd2⟩, Nat.le_trans (show k1.length + k2.length ≤ 24 by omega) (by decide), ?_⟩
    rw [upd_upd]
    refine ⟨p6, _, nb, rfl, .inl upd_same, eb, by omega, fun ys l perm sd hl => ?_⟩
    have ysn : ys.Nodup := perm.nodup_iff.mpr ndb
    have ysm : ∀ n, n ∈ ys ↔ n ∈ keysOf s1 ∨ n ∈ keysOf s2 := fun n => by
      rw [perm.mem_iff, mb, ma, pm1.mem_iff, pm2.mem_iff]
      simp
    have ysl : ys.length ≤ 24 := by rw [perm.length_eq]; omega
    have u6 := (Same.new (o := .dK (mergeK (mergeK [] k1) k2)) hp6).trans (Same.new (o := .lst (ys.map V.str)) hl)
    have hys : (upd (upd H5 p6 (.dK (mergeK (mergeK [] k1) k2))) l (.lst (ys.map V.str))) l = some (.lst (ys.map V.str)) := upd_same
    generalize upd (upd H5 p6 (.dK (mergeK (mergeK [] k1) k2))) l (.lst (ys.map V.str)) = H6 at u6 hys
    refine ⟨l, rfl, ⟨_, SqL.of hys⟩, fun D hD => lc_pure (K := K) hD (wk_list (paired_map ys)) (difM s1 s2 v1 v2) (fun n => PyData.str n) (by omega) (fun H' s => SqL.of (s _ _ hys)) (fun _ _ _ => rfl) ?_ ?_⟩
    · rintro x n H' Kt Kf rfl m s2' k1' k2'
      obtain ⟨c1, o1, e1, i1, g1', q1⟩ := DcAt.getO pm1 (DcAt_same (u6.trans s2') b1) n
      obtain ⟨c2, o2, e2, i2, g2', q2⟩ := DcAt.getO pm2 (DcAt_same (u6.trans s2') b2) n
      cases e1
      cases e2
      refine ⟨rfl, _, rfl, _, rfl, i1, _, rfl, o1, g1', _, rfl, _, rfl, i2, _, rfl, o2, g2', _, _, q1, q2, shaped_oM _ _ _, shaped_oM _ _ _, _, rfl, ?_⟩
      exact ite2 (fun e => ⟨_, rfl, k1' e _ _ (Same.refl _) (.str _)⟩) (fun e => k2' (by unfold difM; simpa using e) _ (Same.refl _))
    · intro zs H7 s7 hz dz
      have ez := DpAll.map_strs (ns := ys.filter (difM s1 s2 v1 v2)) dz
      subst ez
      exact k ys D H7 ysn ysm sd ((u5.trans u6).trans s7) hz
end
end Bk
set_option Elab.async false
set_option linter.all false
set_option maxRecDepth 100000
set_option maxHeartbeats 4000000
namespace Bk
open PySem PySem.Spec PyProof.Rows L2 Gap
/-! ### the drawn numbers -/
def srcK (c : Addr) (l m t : Int) : List (Key × V) := [(Sum.inr "cells", .ref c), (Sum.inr "left", .int l), (Sum.inr "mixed", .int m), (Sum.inr "turn", .int t)]
/-- the source s with its cells c -/
def Src (H : Hp) (s c : Addr) : Prop := ∃ (ns : List Int) (l m t : Int), H s = some (.dK (srcK c l m t)) ∧ H c = some (.lst (ns.map V.int))
/-- all but the source stays -/
def SameC (s c : Addr) (H H' : Hp) : Prop := ∀ b o, b ≠ s → b ≠ c → H b = some o → H' b = some o
theorem SameC.refl (s c : Addr) (H : Hp) : SameC s c H H := fun _ _ _ _ h => h
theorem SameC.of {s c : Addr} {H H' : Hp} (e : Same H H') : SameC s c H H' := fun b o _ _ h => e b o h
theorem SameC.trans {s c : Addr} {H H1 H2 : Hp} (a : SameC s c H H1) (b : SameC s c H1 H2) : SameC s c H H2 := fun p o h1 h2 h => b p o h1 h2 (a p o h1 h2 h)
theorem SameC.put1 {s c : Addr} {H : Hp} {o : HO} : SameC s c H (upd H s o) := fun b u h1 _ h => by rw [upd_ne h1]; exact h
theorem SameC.put2 {s c : Addr} {H : Hp} {o : HO} : SameC s c H (upd H c o) := fun b u _ h2 h => by rw [upd_ne h2]; exact h
/-- .. and a third thing, unknown to the first heap -/
theorem SameC.mut {s c p : Addr} {H H' : Hp} {o : HO} (e : SameC s c H H') (h : H p = none) : SameC s c H (upd H' p o) := fun b u h1 h2 hb => by
  rw [upd_ne (ne_of_none hb h)]; exact e b u h1 h2 hb
theorem Src.same {s c : Addr} {H H' : Hp} (h : Src H s c) (e : Same H H') : Src H' s c := by
  obtain ⟨ns, l, m, t, h1, h2⟩ := h
  exact ⟨ns, l, m, t, e _ _ h1, e _ _ h2⟩
theorem Src.ne {s c : Addr} {H : Hp} (h : Src H s c) : c ≠ s := by
  obtain ⟨ns, l, m, t, h1, h2⟩ := h
  intro z; subst z; rw [h1] at h2; cases h2
theorem Src.keep {s c : Addr} {H H' : Hp} (h : Src H s c) (e : SameC s c H H') : Keep H H' := fun b o hb f => by
  obtain ⟨ns, l, m, t, h1, h2⟩ := h
  refine e b o ?_ ?_ hb
  · intro z; subst z; rw [h1] at hb; cases hb; cases f
  · intro z; subst z; rw [h2] at hb; cases hb; cases f
theorem tAnd_pure {ta tb : TT} {σ : L2.St} {H : Hp} {Q : Bool → Hp → Prop} {b1 b2 : Bool} (h1 : ∀ R : Bool → Hp → Prop, R b1 H → ta σ H R) (h2 : ∀ R : Bool → Hp → Prop, R b2 H → tb σ H R) (q : Q (b1 && b2) H) : tAnd ta tb σ H Q := by
  refine h1 _ ?_
  cases b1 with
  | true => exact h2 _ q
  | false => exact q
theorem tOr_pure {ta tb : TT} {σ : L2.St} {H : Hp} {Q : Bool → Hp → Prop} {b1 b2 : Bool} (h1 : ∀ R : Bool → Hp → Prop, R b1 H → ta σ H R) (h2 : ∀ R : Bool → Hp → Prop, R b2 H → tb σ H R) (q : Q (b1 || b2) H) : tOr ta tb σ H Q := by
  refine h1 _ ?_
  cases b1 with
  | true => exact q
  | false => exact h2 _ q
theorem srcK_left {c : Addr} {l m t x : Int} : putK (srcK c l m t) (Sum.inr "left") (.int x) = srcK c x m t := by rfl
theorem srcK_turn {c : Addr} {l m t x : Int} : putK (srcK c l m t) (Sum.inr "turn") (.int x) = srcK c l m x := by rfl
theorem src_cells {c : Addr} {l m t : Int} : valV (srcK c l m t) (Sum.inr "cells") = some (.ref c) := by rfl
theorem src_left {c : Addr} {l m t : Int} : valV (srcK c l m t) (Sum.inr "left") = some (.int l) := by rfl
theorem src_mixed {c : Addr} {l m t : Int} : valV (srcK c l m t) (Sum.inr "mixed") = some (.int m) := by rfl
theorem src_turn {c : Addr} {l m t : Int} : valV (srcK c l m t) (Sum.inr "turn") = some (.int t) := by rfl
theorem src_get {H : Hp} {s c : Addr} {l m t : Int} {x : Str} {v : V} (h : H s = some (.dK (srcK c l m t))) (e : valV (srcK c l m t) (Sum.inr x) = some v) : DGet H s (.str x) (some v) := by
  rw [← e]; exact DGet.k (k := Sum.inr x) h
theorem src_put {H : Hp} {s c : Addr} {l m t : Int} {x : Str} {v : V} {ks : List (Key × V)} (h : H s = some (.dK (srcK c l m t))) (e : putK (srcK c l m t) (Sum.inr x) v = ks) : DPut H s (.str x) v (upd H s (.dK ks)) := by
  rw [← e]; exact .inl ⟨_, Sum.inr x, h, rfl, by show 4 < sizeLine; decide, rfl⟩
section
variable {P : Program} {w : World} {K : PySem.W.Frag} {mg : Str → Option Value} {base : Heap} {CA : Addr}
abbrev s__law_open_cells : Stmt := (topS 61)
abbrev N__law_open_cells : List Str := ["_law_script", "_law_mixed", "_law_cell", "_law_cells"]
abbrev P__law_open_cells : List Str := ["_law_script"]
theorem sc__law_open_cells : FnScope N__law_open_cells P__law_open_cells (defScope s__law_open_cells) := ⟨rfl, rfl, rfl, by decide +kernel, rfl, by decide +kernel, by decide +kernel⟩
def spOpen (K : PySem.W.Frag) : Sp := fun vs H Q _ => ∃ (a : Addr) (ns : List Int), vs = [.ref a] ∧ SqL K H a (ns.map V.int) ∧ ns.length ≤ 63 ∧ ∀ s c H', Same H H' → Src H' s c → Q (.ref s) H'
theorem ok_open (F : At K mg "_law_open_cells" s__law_open_cells P__law_open_cells) (C : Gs K mg) : Df P w K mg base 1 "_law_open_cells" P__law_open_cells (spOpen K) := by
  refine F.ok sc__law_open_cells (fun vs H Q E h => ?_) (fun f cdv A outer s H vs Q E hr h => ?_)
  · obtain ⟨a, ns, rfl, _⟩ := h
    rfl
  · obtain ⟨a, ns, rfl, ha, hn, k⟩ := h
    refine ⟨_, (pss_cons (ps_set (i := 1) sc__law_open_cells.nd rfl (Or.inl rfl) pe_int) (pss_cons (ps_for PassesOwn.never rfl (k_pi_list (K := K) rfl (pv 0)) (pg_name (i := 2) sc__law_open_cells.nd rfl (Or.inl rfl)) (pss_one (ps_set (i := 1) sc__law_open_cells.nd rfl (Or.inl rfl) (pe_op op_mod (pe_callTy call_int1 (by rfl) C.b_int (by decide +kernel) (pa_cons (pe_op op_add (pe_op op_add (pe_op op_mul (pv 1) pe_int) (pe_op op_mul (pv 2) pe_int)) pe_int) pa_nil)) pe_int)))) (pss_cons (ps_setLc (i := 3) (own := [("_law_cell", 2)]) (g := gName 2) (tt := tYes) rfl sc__law_open_cells.nd rfl rfl (sw_true rfl rfl rfl (by decide +kernel)) (k_pi_list (K := K) rfl (pv 0)) (blkOk_by (own := [("_law_cell", 2)]) (N := N__law_open_cells) (sc := (defScope s__law_open_cells)) (by decide +kernel)) (fun _ _ _ _ _ => (pg_name (i := 2) sc__law_open_cells.nd rfl (Or.inl rfl))) (fun _ _ _ _ _ => pts_nil) (fun _ _ _ _ _ => (pe_callB call_abs (by rfl) C.abs (by decide +kernel) (pa_cons (pv 2) pa_nil)))) (pss_one (ps_ret (pe_disp (pps_cons pe_str (k_revL (K := K) rfl (pv 3)) (pps_cons pe_str pe_int (pps_cons pe_str (pv 1) (pps_cons pe_str pe_int pps_nil)))) (by rfl) (by rfl) (fun z => by cases z) (by decide))))))), ?_⟩
    refine ⟨_, rfl, a, rfl, ⟨_, ha⟩, ?_⟩
    refine for_it (wk_list (K := K) (a := a) (paired_map ns)) (fun i σ' H' => ∃ (m : Int) (o2 : Option V), σ' = [some (.ref a), some (.int m), o2, none] ∧ H' = H) ⟨11, none, rfl, rfl⟩ (fun i σ' H' _ ⟨_, _, _, h⟩ => by rw [h]; exact ha) ?_ ?_
    · rintro i x σ' H' H'' hi ⟨m, o2, rfl, rfl⟩ ⟨rfl, n, en, rfl⟩
      exact ⟨_, rfl, _, _, rfl, rfl, .inr ⟨by decide, by decide⟩, _, rfl, _, _, rfl, rfl, .inr ⟨by decide, by decide⟩, _, _, rfl, rfl, _, _, rfl, rfl, .inl ⟨_, rfl, _, _, rfl, rfl, (by show (0 : Int) < 2147483629; decide), _, _, rfl, rfl⟩⟩
    · rintro σ' H' ⟨m, o2, rfl, rfl⟩
      refine ⟨_, rfl, a, rfl, ⟨_, ha⟩, fun D hD => lc_map (K := K) hD (wk_list (paired_map ns)) (fun n => PyData.int (if n < 0 then -n else n)) (by omega) (fun H' s => s.seq ha) (fun _ _ => rfl) ?_ ?_⟩
      · rintro x n H2 Kt rfl mem s2 k1
        exact ⟨rfl, _, rfl, _, rfl, k1 _ _ (Same.refl _) (.int _)⟩
      · intro ys H2 s2 hy dy
        have ey := DpAll.map_ints (ns := ns.map fun n => if n < 0 then -n else n) (by rw [List.map_map]; exact dy)
        subst ey
        intro pd hpd
        refine ⟨_, rfl, D, _, rfl, SqL.of (Same.new hpd _ _ hy), fun pr hpr => ?_⟩
        have np : pr ≠ pd := fun z => by rw [z, upd_same] at hpr; cases hpr
        refine ⟨_, rfl, ?_⟩
        refine ⟨by rw [upd_ne np.symm]; exact upd_same, srcK pr 1 m 0, rfl, by show 4 ≤ 15; decide, ?_⟩
        have e : mergeK [] (srcK pr 1 m 0) = srcK pr 1 m 0 := by rfl
        rw [e]
        refine k pd pr _ ?_ ⟨(ns.map fun n => if n < 0 then -n else n).reverse, 1, m, 0, upd_same, by rw [upd_ne np, upd_same, List.map_reverse]⟩
        exact Same.mut ((s2.trans (Same.new hpd)).trans (Same.new hpr)) (s2.free hpd)
abbrev s__law_pick : Stmt := (topS 62)
abbrev N__law_pick : List Str := ["_law_source", "_law_most", "_law_cells", "_law_left", "_law_turn", "_law_mixed"]
abbrev P__law_pick : List Str := ["_law_source", "_law_most"]
theorem sc__law_pick : FnScope N__law_pick P__law_pick (defScope s__law_pick) := ⟨rfl, rfl, rfl, by decide +kernel, rfl, by decide +kernel, by decide +kernel⟩
def spPick : Sp := fun vs H Q _ => ∃ (s c : Addr) (n : Nat), vs = [.ref s, .int (n : Int)] ∧ Src H s c ∧ 1 ≤ n ∧ n < 1073741824 ∧ ∀ (r : Nat) H', r < n → Src H' s c → SameC s c H H' → Q (.int (r : Int)) H'
theorem ok_pick (F : At K mg "_law_pick" s__law_pick P__law_pick) (C : Gs K mg) : Df P w K mg base 1 "_law_pick" P__law_pick spPick := by
  refine F.ok sc__law_pick (fun vs H Q E h => ?_) (fun f cdv A outer s H vs Q E hr h => ?_)
  · obtain ⟨s, c, n, rfl, _⟩ := h
    rfl
  · obtain ⟨s, c, n, rfl, hs, h1, h2, k⟩ := h
    have hu := hu_of hr
    refine ⟨_, (pss_cons (ps_if (pt_cmpR op_lt (pv 1) pe_int (nomark _)) (pss_one (ps_ret pe_int)) pss_nil) (pss_cons (ps_set (i := 2) sc__law_pick.nd rfl (Or.inl rfl) (pe_dget hu (pv 0) pe_str (fun _ _ => rfl))) (pss_cons (ps_while PassesOwn.never (PW.pt (pw_and (pt_cmpR op_lt (pe_dget hu (pv 0) pe_str (fun _ _ => rfl)) pe_int (nomark _)) (pw_and1 (pt_cmpR op_gt (pe_callB (k_len (K := K) rfl) (by rfl) C.len (by decide +kernel) (pa_cons (pv 2) pa_nil)) pe_int (nomark _))))) (pss_one (ps_dput hu (pv 0) pe_str (k_bm0 (K := K) rfl PySem.F.plainAttrs_list PySem.F.slot_list_pop PySem.F.type_list_pop mt_pop (pv 2)) rfl))) (pss_cons (ps_set (i := 3) sc__law_pick.nd rfl (Or.inl rfl) (pe_dget hu (pv 0) pe_str (fun _ _ => rfl))) (pss_cons (ps_if (pt_cmpR op_gt (pv 3) pe_int (nomark _)) (pss_cons (ps_dput hu (pv 0) pe_str (pe_op op_fdiv (pv 3) (pv 1)) rfl) (pss_one (ps_ret (pe_op op_mod (pe_callTy call_int1 (by rfl) C.b_int (by decide +kernel) (pa_cons (pv 3) pa_nil)) (pv 1))))) pss_nil) (pss_cons (ps_dput hu (pv 0) pe_str (pe_op op_add (pe_dget hu (pv 0) pe_str (fun _ _ => rfl)) pe_int) rfl) (pss_cons (ps_set (i := 4) sc__law_pick.nd rfl (Or.inl rfl) (pe_dget hu (pv 0) pe_str (fun _ _ => rfl))) (pss_cons (ps_set (i := 5) sc__law_pick.nd rfl (Or.inl rfl) (pe_op op_mod (pe_callTy call_int1 (by rfl) C.b_int (by decide +kernel) (pa_cons (pe_op op_add (pe_dget hu (pv 0) pe_str (fun _ _ => rfl)) (pe_op op_mul (pv 4) pe_int)) pa_nil)) pe_int)) (pss_cons (ps_set (i := 5) sc__law_pick.nd rfl (Or.inl rfl) (pe_op op_mod (pe_callTy call_int1 (by rfl) C.b_int (by decide +kernel) (pa_cons (pe_op op_add (pe_op op_mul (pv 5) (pv 5)) (pe_op op_mul (pv 4) pe_int)) pa_nil)) pe_int)) (pss_one (ps_ret (pe_op op_mod (pe_callTy call_int1 (by rfl) C.b_int (by decide +kernel) (pa_cons (pe_op op_fdiv (pv 5) pe_int) pa_nil)) (pv 1))))))))))))), ?_⟩
    refine ⟨_, rfl, _, _, rfl, rfl, _, rfl, ite2 (fun e => ?_) (fun e => ?_)⟩
    · have e1 : (n : Int) < 2 := by simpa using e
      have e2 : n = 1 := by omega
      subst e2
      exact k 0 H (by decide) hs (SameC.refl _ _ _)
    have e1 : ¬ (n : Int) < 2 := by simpa using e
    obtain ⟨ns, l, m, t, q1, q2⟩ := id hs
    have fin : ∀ (x : Int) H', Src H' s c → SameC s c H H' → Q (.int (x % (n : Int))) H' := fun l H' a b => by
      have p1 := Int.emod_nonneg l (show (n : Int) ≠ 0 by omega)
      have p2 := Int.emod_lt_of_pos l (show (0 : Int) < n by omega)
      obtain ⟨r, hr⟩ := Int.eq_ofNat_of_zero_le p1
      rw [hr]
      rw [hr] at p2
      exact k r _ (by omega) a b
    refine ⟨_, rfl, _, _, rfl, src_get q1 src_cells, ?_⟩
    let W : Nat → L2.St → Hp → Prop := fun mm σ H' => ∃ (ns : List Int) (l : Int), σ = [some (.ref s), some (.int (n : Int)), some (.ref c), none, none, none] ∧ mm = ns.length ∧ H' s = some (.dK (srcK c l m t)) ∧ H' c = some (.lst (ns.map V.int)) ∧ SameC s c H H'
    refine ⟨W, ⟨_, ns, l, rfl, rfl, q1, q2, SameC.refl _ _ _⟩, ?_⟩
    rintro mm σ H1 ⟨ns, l, rfl, rfl, q1, q2, s1⟩
    refine tAnd_pure (b1 := decide (l < 2)) (b2 := decide (0 < ns.length)) (fun R q => ⟨_, rfl, _, _, rfl, src_get q1 src_left, _, _, rfl, rfl, _, rfl, q⟩) (fun R q => ⟨_, rfl, _, _, rfl, .inl ⟨_, SqL.of q2, rfl⟩, _, _, rfl, rfl, _, rfl, ?_⟩) ?_
    · rw [List.length_map]
      have e : decide ((0 : Int) < (ns.length : Int)) = decide (0 < ns.length) := decide_eq_decide.mpr (by omega)
      rw [e]
      exact q
    refine ite2 (fun e => ?_) (fun e => ?_)
    · have e2 : 0 < ns.length := by simp at e; omega
      obtain ⟨La, x, rfl⟩ := not_nil (l := ns) (by cases ns with | nil => cases e2 | cons _ _ => rfl)
      refine ⟨fun σ' H' => ∃ m', m' < (La ++ [x]).length ∧ W m' σ' H', fun _ _ h => h, ?_⟩
      refine ⟨_, rfl, .inl ⟨rfl, _, SqL.of q2⟩, c, _, _, rfl, rfl, q2, ints_last La x, ?_⟩
      rw [ints_dropLast]
      have cs : c ≠ s := hs.ne
      have q1' : (upd H1 c (.lst (La.map V.int))) s = some (.dK (srcK c l m t)) := by rw [upd_ne cs.symm]; exact q1
      refine ⟨_, rfl, s, _, rfl, src_put q1' srcK_left, _, by rw [List.length_append]; exact Nat.lt_succ_self _, La, x, rfl, rfl, upd_same, by rw [upd_ne cs]; exact upd_same, (s1.trans SameC.put2).trans SameC.put1⟩
    · clear e
      refine ⟨_, rfl, _, _, rfl, src_get q1 src_left, ?_⟩
      refine ⟨_, rfl, _, _, rfl, rfl, _, rfl, ite2 (fun e => ?_) (fun e => ?_)⟩
      · refine ⟨_, rfl, _, rfl, _, _, rfl, rfl, ⟨by omega, by omega⟩, _, rfl, s, _, rfl, src_put q1 srcK_left, ?_⟩
        have cs : c ≠ s := hs.ne
        refine ⟨_, rfl, .inl ⟨_, rfl, _, rfl, _, _, rfl, rfl, by omega, ?_⟩⟩
        exact fin l _ ⟨ns, _, _, _, upd_same, by rw [upd_ne cs]; exact q2⟩ (s1.trans SameC.put1)
      · have cs : c ≠ s := hs.ne
        refine ⟨_, rfl, _, _, rfl, src_get q1 src_turn, _, _, rfl, rfl, _, rfl, s, _, rfl, src_put q1 srcK_turn, ?_⟩
        have q3 : (upd H1 s (.dK (srcK c l m (t + 1)))) s = some (.dK (srcK c l m (t + 1))) := upd_same
        have q4 : (upd H1 s (.dK (srcK c l m (t + 1)))) c = some (.lst (ns.map V.int)) := by rw [upd_ne cs]; exact q2
        have s3 := s1.trans (SameC.put1 (c := c) (o := .dK (srcK c l m (t + 1))))
        generalize upd H1 s (.dK (srcK c l m (t + 1))) = H2 at q3 q4 s3
        refine ⟨_, rfl, _, _, rfl, src_get q3 src_turn, ?_⟩
        refine ⟨_, rfl, _, _, rfl, src_get q3 src_mixed, _, rfl, _, _, rfl, rfl, .inr ⟨by decide, by decide⟩, _, _, rfl, rfl, .inl ⟨_, rfl, _, _, rfl, rfl, (by show (0 : Int) < 998244353; decide), ?_⟩⟩
        have b1 := Int.emod_nonneg (m + (t + 1) * 104729) (show (998244353 : Int) ≠ 0 by decide)
        have b2 := Int.emod_lt_of_pos (m + (t + 1) * 104729) (show (0 : Int) < 998244353 by decide)
        refine ⟨_, rfl, _, rfl, _, _, rfl, rfl, .inl ⟨by omega, by omega⟩, _, rfl, _, _, rfl, rfl, .inr ⟨by decide, by decide⟩, _, _, rfl, rfl, .inl ⟨_, rfl, _, _, rfl, rfl, (by show (0 : Int) < 2147483647; decide), ?_⟩⟩
        refine ⟨_, rfl, _, _, rfl, rfl, ⟨by decide, by decide⟩, .inl ⟨_, rfl, _, rfl, _, _, rfl, rfl, by omega, ?_⟩⟩
        exact fin _ _ ⟨ns, _, _, _, q3, q4⟩ s3
end
end Bk
set_option Elab.async false
set_option linter.all false
set_option maxRecDepth 100000
set_option maxHeartbeats 4000000
namespace Bk
open PySem PySem.Spec PyProof.Rows L2 Gap
/-- a list of texts, known for good -/
def FzL (H : Hp) (l : Addr) (ns : List Str) : Prop := ∃ o, H l = some (.frz o (.lst (ns.map V.str)))
theorem FzL.keep {H H' : Hp} {l : Addr} {ns : List Str} (h : FzL H l ns) (e : Keep H H') : FzL H' l ns := let ⟨o, h⟩ := h; ⟨o, e _ _ h rfl⟩
theorem FzL.seq {K : PySem.W.Frag} {H : Hp} {l : Addr} {ns : List Str} (h : FzL H l ns) : SqL K H l (ns.map V.str) := let ⟨o, h⟩ := h; .inl (.inr ⟨o, h⟩)
theorem Src.upd {H : Hp} {s c p : Addr} {o : HO} (h : Src H s c) (h1 : p ≠ s) (h2 : p ≠ c) : Src (L2.upd H p o) s c := by
  obtain ⟨ns, l, m, t, q1, q2⟩ := h
  exact ⟨ns, l, m, t, by rw [upd_ne h1.symm]; exact q1, by rw [upd_ne h2.symm]; exact q2⟩
theorem perm_erase {α : Type} : ∀ (l : List α) (i : Nat) (h : i < l.length), (l[i] :: l.eraseIdx i).Perm l
  | a :: l, 0, _ => List.Perm.refl _
  | a :: l, i + 1, h => (List.Perm.swap a _ _).trans ((perm_erase l i (Nat.lt_of_succ_lt_succ h)).cons a)
theorem map_erase {α β : Type} (f : α → β) : ∀ (l : List α) (i : Nat), (l.map f).eraseIdx i = (l.eraseIdx i).map f
  | [], _ => rfl
  | a :: l, 0 => rfl
  | a :: l, i + 1 => by
    show f a :: (l.map f).eraseIdx i = f a :: (l.eraseIdx i).map f
    rw [map_erase f l i]
/-- the drawn moves -/
def mv8 : List Mv := [⟨1, 1, 0, 1⟩, ⟨0, 1, 1, 0⟩, ⟨2, 0, 0, 1⟩, ⟨0, 2, 1, 0⟩, ⟨1, 0 - 1, 1, 0⟩, ⟨2, 0 - 4, 1, 0⟩, ⟨1, 2, 0, 3⟩, ⟨1, 0, 0, 0 - 1⟩]
theorem mv8_ok : ∀ m ∈ mv8, m.ok ∧ bnd m 2 := by unfold Mv.ok bnd; decide +kernel
section
variable {P : Program} {w : World} {K : PySem.W.Frag} {mg : Str → Option Value} {base : Heap} {CA : Addr}
abbrev s__law_any_order : Stmt := (topS 63)
abbrev N__law_any_order : List Str := ["_law_source", "_law_things", "_law_spare", "_law_lap"]
abbrev P__law_any_order : List Str := ["_law_source", "_law_things"]
theorem sc__law_any_order : FnScope N__law_any_order P__law_any_order (defScope s__law_any_order) := ⟨rfl, rfl, rfl, by decide +kernel, rfl, by decide +kernel, by decide +kernel⟩
def spOrder (K : PySem.W.Frag) : Sp := fun vs H Q _ => ∃ (s c a : Addr) (ns : List Str), vs = [.ref s, .ref a] ∧ Src H s c ∧ SqL K H a (ns.map V.str) ∧ ns.length ≤ 63 ∧ ∀ (os : List Str) l H', os.Perm ns → Src H' s c → SameC s c H H' → FzL H' l os → Q (.ref l) H'
theorem ok_order (F : At K mg "_law_any_order" s__law_any_order P__law_any_order) (C : Gs K mg) (D__law_pick : Df P w K mg base 1 "_law_pick" P__law_pick spPick) : Df P w K mg base 2 "_law_any_order" P__law_any_order (spOrder K) := by
  refine F.ok sc__law_any_order (fun vs H Q E h => ?_) (fun f cdv A outer s H vs Q E hr h => ?_)
  · obtain ⟨s, c, a, ns, rfl, _⟩ := h
    rfl
  · obtain ⟨s, c, a, ns, rfl, hs, ha, hn, k⟩ := h
    refine ⟨_, (pss_cons (ps_set (i := 2) sc__law_any_order.nd rfl (Or.inr rfl) (pe_callTy (k_list_of (K := K) rfl) (by rfl) C.b_list (by decide +kernel) (pa_cons (pv 1) pa_nil))) (pss_one (ps_ret (pe_frz (pe_lc (own := [("_law_lap", 3)]) (g := gName 3) (tt := tYes) rfl sc__law_any_order.nd (pi_range1 (by rfl) C.range (pa_cons (pe_callB (k_len (K := K) rfl) (by rfl) C.len (by decide +kernel) (pa_cons (pv 2) pa_nil)) pa_nil)) (blkOk_by (own := [("_law_lap", 3)]) (N := N__law_any_order) (sc := (defScope s__law_any_order)) (by decide +kernel)) (fun _ _ _ _ _ => (pg_name (i := 3) sc__law_any_order.nd rfl (Or.inl rfl))) (fun _ _ _ _ _ => pts_nil) (fun _ _ _ _ _ => (k_bm (K := K) rfl PySem.F.plainAttrs_list PySem.F.slot_list_pop PySem.F.type_list_pop mt_popAt (pv 2) (pa_cons (pe_df D__law_pick (hr.mono (by decide)) (pa_cons (pv 0) (pa_cons (pe_callB (k_len (K := K) rfl) (by rfl) C.len (by decide +kernel) (pa_cons (pv 2) pa_nil)) pa_nil))) pa_nil)))))))), ?_⟩
    refine ⟨_, rfl, a, _, rfl, .inl ha, fun sp hsp => ?_⟩
    have n1 : ∀ {b : Addr} {o : HO}, H b = some o → b ≠ sp := fun h z => by rw [z, hsp] at h; cases h
    have hs1 : Src (upd H sp (.lst (ns.map V.str))) s c := hs.same (Same.new hsp)
    have hsp1 : (upd H sp (.lst (ns.map V.str))) sp = some (.lst (ns.map V.str)) := upd_same
    have sm1 : Same H (upd H sp (.lst (ns.map V.str))) := Same.new hsp
    obtain ⟨ms, l0, m0, t0, hq1, hq2⟩ := id hs
    have nsp : sp ≠ s := (n1 hq1).symm
    have ncp : sp ≠ c := (n1 hq2).symm
    generalize upd H sp (.lst (ns.map V.str)) = H1 at hs1 hsp1 sm1
    refine ⟨_, rfl, _, _, rfl, .inl ⟨_, SqL.of hsp1, rfl⟩, _, rfl, by rw [List.length_map]; omega, by rw [List.length_map]; omega, fun D hD => ?_⟩
    have nD : ∀ {b : Addr} {o : HO}, H1 b = some o → b ≠ D := fun h z => by rw [z, hD] at h; cases h
    have hD0 : H D = none := sm1.free hD
    have eL : ((List.map V.str ns).length : Int).toNat = ns.length := by rw [List.length_map]; rfl
    rw [eL]
    have nDs : D ≠ s := (nD (sm1 _ _ hq1)).symm
    have nDc : D ≠ c := (nD (sm1 _ _ hq2)).symm
    have nDp : D ≠ sp := (nD hsp1).symm
    refine lc_it walk_range (fun i H' => ∃ os rest : List Str, (os ++ rest).Perm ns ∧ os.length = i ∧ Src H' s c ∧ SameC s c H H' ∧ H' sp = some (.lst (rest.map V.str)) ∧ H' D = some (.lst (os.map V.str))) ⟨[], ns, List.Perm.refl _, rfl, hs1.same (Same.new hD), (SameC.of sm1).trans (SameC.of (Same.new hD)), Same.new hD _ _ hsp1, upd_same⟩ (fun _ _ _ _ => trivial) ?_ ?_
    · rintro i x H2 H3 hi ⟨os, rest, pm, hl, hs2, sm2, hsp2, hD2⟩ ⟨rfl, ex⟩
      have hlen : os.length + rest.length = ns.length := by rw [← List.length_append]; exact pm.length_eq
      have hpos : 0 < rest.length := by omega
      refine ⟨rfl, _, rfl, .inl ⟨rfl, _, SqL.of hsp2⟩, _, rfl, _, rfl, _, _, rfl, .inl ⟨_, SqL.of hsp2, rfl⟩, s, c, rest.length, by rw [List.length_map], hs2, hpos, by omega, fun r H4 hr hs4 sm4 => ?_⟩
      have hsp4 := sm4 _ _ nsp ncp hsp2
      have hD4 := sm4 _ _ nDs nDc hD2
      have er : rest[r]? = some rest[r] := List.getElem?_eq_getElem hr
      refine ⟨sp, _, (r : Int), r, .str rest[r], rfl, rfl, hsp4, by omega, by omega, ?_, by rw [List.getElem?_map, er]; rfl, os.map V.str, ?_, ?_, ?_⟩
      · refine (ixN_seq ?_).1
        unfold ixN
        rw [List.length_map, if_pos (by omega), if_pos (by omega)]
        rfl
      · rw [upd_ne nDp]; exact hD4
      · rw [List.length_map]; exact Nat.lt_of_lt_of_le (show os.length < 64 by omega) (by decide)
      refine ⟨os ++ [rest[r]], rest.eraseIdx r, ?_, by rw [List.length_append, hl]; rfl, ?_, ?_, ?_, ?_⟩
      · rw [List.append_assoc]
        exact (List.Perm.append_left os (perm_erase rest r hr)).trans pm
      · exact (hs4.upd nsp ncp).upd nDs nDc
      · exact SameC.mut (SameC.mut (sm2.trans sm4) hsp) hD0
      · rw [upd_ne nDp.symm, upd_same, map_erase]
      · rw [upd_same, List.map_append]; rfl
    · rintro H2 ⟨os, rest, pm, hl, hs2, sm2, hsp2, hD2⟩
      have hlen : os.length + rest.length = ns.length := by rw [← List.length_append]; exact pm.length_eq
      have e0 : rest = [] := List.length_eq_zero_iff.mp (by omega)
      subst e0
      rw [List.append_nil] at pm
      refine ⟨D, _, rfl, hD2, trivial, fun od => k os D _ pm (hs2.upd nDs nDc) (SameC.mut sm2 hD0) ⟨od, upd_same⟩⟩
abbrev s__law_draw_small : Stmt := (topS 64)
abbrev N__law_draw_small : List Str := ["_law_source", "_law_some"]
abbrev P__law_draw_small : List Str := ["_law_source"]
theorem sc__law_draw_small : FnScope N__law_draw_small P__law_draw_small (defScope s__law_draw_small) := ⟨rfl, rfl, rfl, by decide +kernel, rfl, by decide +kernel, by decide +kernel⟩
def spSmall (K : PySem.W.Frag) : Sp := fun vs H Q _ => ∃ (s c : Addr), vs = [.ref s] ∧ Src H s c ∧ ∀ (m : Mv) y H', m.ok → bnd m 2 → Dp K H' y (mvD m) → Src H' s c → SameC s c H H' → Q y H'
theorem ok_small (F : At K mg "_law_draw_small" s__law_draw_small P__law_draw_small) (C : Gs K mg) (D__law_pick : Df P w K mg base 1 "_law_pick" P__law_pick spPick) : Df P w K mg base 2 "_law_draw_small" P__law_draw_small (spSmall K) := by
  refine F.ok sc__law_draw_small (fun vs H Q E h => ?_) (fun f cdv A outer s H vs Q E hr h => ?_)
  · obtain ⟨s, c, rfl, _⟩ := h
    rfl
  · obtain ⟨s, c, rfl, hs, k⟩ := h
    refine ⟨_, (pss_cons (ps_set (i := 1) sc__law_draw_small.nd rfl (Or.inl rfl) (pe_lst (pa_cons (pe_tup (pa_cons pe_int (pa_cons pe_int (pa_cons pe_int (pa_cons pe_int pa_nil))))) (pa_cons (pe_tup (pa_cons pe_int (pa_cons pe_int (pa_cons pe_int (pa_cons pe_int pa_nil))))) (pa_cons (pe_tup (pa_cons pe_int (pa_cons pe_int (pa_cons pe_int (pa_cons pe_int pa_nil))))) (pa_cons (pe_tup (pa_cons pe_int (pa_cons pe_int (pa_cons pe_int (pa_cons pe_int pa_nil))))) (pa_cons (pe_tup (pa_cons pe_int (pa_cons (pe_op op_sub pe_int pe_int) (pa_cons pe_int (pa_cons pe_int pa_nil))))) (pa_cons (pe_tup (pa_cons pe_int (pa_cons (pe_op op_sub pe_int pe_int) (pa_cons pe_int (pa_cons pe_int pa_nil))))) pa_nil)))))))) (pss_one (ps_ret (pe_ix (k_ix_list (K := K) rfl) (pe_op op_cat (pv 1) (pe_lst (pa_cons (pe_tup (pa_cons pe_int (pa_cons pe_int (pa_cons pe_int (pa_cons pe_int pa_nil))))) (pa_cons (pe_tup (pa_cons pe_int (pa_cons pe_int (pa_cons pe_int (pa_cons (pe_op op_sub pe_int pe_int) pa_nil))))) pa_nil)))) (pe_df D__law_pick (hr.mono (by decide)) (pa_cons (pv 0) (pa_cons pe_int pa_nil))) (fun _ _ => rfl))))), ?_⟩
    obtain ⟨H0, e0⟩ : ∃ H0 : Hp, H0 = H := ⟨H, rfl⟩
    rw [← e0] at hs ⊢
    refine ⟨by show 4 ≤ sizeLine; decide, fun p1 h1 => ?_⟩
    have t1 : SqT K (L2.upd H0 p1 (.tup [.int (1), .int (1), .int (0), .int (1)])) p1 [.int (1), .int (1), .int (0), .int (1)] := SqT.of upd_same
    have v1 : Same H0 (L2.upd H0 p1 (.tup [.int (1), .int (1), .int (0), .int (1)])) := Same.new h1
    generalize L2.upd H0 p1 (.tup [.int (1), .int (1), .int (0), .int (1)]) = H1 at t1 v1 ⊢
    refine ⟨by show 4 ≤ sizeLine; decide, fun p2 h2 => ?_⟩
    have t2 : SqT K (L2.upd H1 p2 (.tup [.int (0), .int (1), .int (1), .int (0)])) p2 [.int (0), .int (1), .int (1), .int (0)] := SqT.of upd_same
    have v2 : Same H1 (L2.upd H1 p2 (.tup [.int (0), .int (1), .int (1), .int (0)])) := Same.new h2
    generalize L2.upd H1 p2 (.tup [.int (0), .int (1), .int (1), .int (0)]) = H2 at t2 v2 ⊢
    refine ⟨by show 4 ≤ sizeLine; decide, fun p3 h3 => ?_⟩
    have t3 : SqT K (L2.upd H2 p3 (.tup [.int (2), .int (0), .int (0), .int (1)])) p3 [.int (2), .int (0), .int (0), .int (1)] := SqT.of upd_same
    have v3 : Same H2 (L2.upd H2 p3 (.tup [.int (2), .int (0), .int (0), .int (1)])) := Same.new h3
    generalize L2.upd H2 p3 (.tup [.int (2), .int (0), .int (0), .int (1)]) = H3 at t3 v3 ⊢
    refine ⟨by show 4 ≤ sizeLine; decide, fun p4 h4 => ?_⟩
    have t4 : SqT K (L2.upd H3 p4 (.tup [.int (0), .int (2), .int (1), .int (0)])) p4 [.int (0), .int (2), .int (1), .int (0)] := SqT.of upd_same
    have v4 : Same H3 (L2.upd H3 p4 (.tup [.int (0), .int (2), .int (1), .int (0)])) := Same.new h4
    generalize L2.upd H3 p4 (.tup [.int (0), .int (2), .int (1), .int (0)]) = H4 at t4 v4 ⊢
    refine ⟨_, _, rfl, rfl, by show 4 ≤ sizeLine; decide, fun p5 h5 => ?_⟩
    have t5 : SqT K (L2.upd H4 p5 (.tup [.int (1), .int (0 - 1), .int (1), .int (0)])) p5 [.int (1), .int (0 - 1), .int (1), .int (0)] := SqT.of upd_same
    have v5 : Same H4 (L2.upd H4 p5 (.tup [.int (1), .int (0 - 1), .int (1), .int (0)])) := Same.new h5
    generalize L2.upd H4 p5 (.tup [.int (1), .int (0 - 1), .int (1), .int (0)]) = H5 at t5 v5 ⊢
    refine ⟨_, _, rfl, rfl, by show 4 ≤ sizeLine; decide, fun p6 h6 => ?_⟩
    have t6 : SqT K (L2.upd H5 p6 (.tup [.int (2), .int (0 - 4), .int (1), .int (0)])) p6 [.int (2), .int (0 - 4), .int (1), .int (0)] := SqT.of upd_same
    have v6 : Same H5 (L2.upd H5 p6 (.tup [.int (2), .int (0 - 4), .int (1), .int (0)])) := Same.new h6
    generalize L2.upd H5 p6 (.tup [.int (2), .int (0 - 4), .int (1), .int (0)]) = H6 at t6 v6 ⊢
    refine ⟨by show 6 ≤ sizeLine; decide, fun l1 hl1 => ?_⟩
    have g1 : (L2.upd H6 l1 (.lst [.ref p1, .ref p2, .ref p3, .ref p4, .ref p5, .ref p6])) l1 = some (.lst [.ref p1, .ref p2, .ref p3, .ref p4, .ref p5, .ref p6]) := upd_same
    have w1 : Same H6 (L2.upd H6 l1 (.lst [.ref p1, .ref p2, .ref p3, .ref p4, .ref p5, .ref p6])) := Same.new hl1
    generalize L2.upd H6 l1 (.lst [.ref p1, .ref p2, .ref p3, .ref p4, .ref p5, .ref p6]) = HA at g1 w1 ⊢
    refine ⟨_, rfl, ?_⟩
    refine ⟨by show 4 ≤ sizeLine; decide, fun p7 h7 => ?_⟩
    have t7 : SqT K (L2.upd HA p7 (.tup [.int (1), .int (2), .int (0), .int (3)])) p7 [.int (1), .int (2), .int (0), .int (3)] := SqT.of upd_same
    have v7 : Same HA (L2.upd HA p7 (.tup [.int (1), .int (2), .int (0), .int (3)])) := Same.new h7
    generalize L2.upd HA p7 (.tup [.int (1), .int (2), .int (0), .int (3)]) = H7 at t7 v7 ⊢
    refine ⟨_, _, rfl, rfl, by show 4 ≤ sizeLine; decide, fun p8 h8 => ?_⟩
    have t8 : SqT K (L2.upd H7 p8 (.tup [.int (1), .int (0), .int (0), .int (0 - 1)])) p8 [.int (1), .int (0), .int (0), .int (0 - 1)] := SqT.of upd_same
    have v8 : Same H7 (L2.upd H7 p8 (.tup [.int (1), .int (0), .int (0), .int (0 - 1)])) := Same.new h8
    generalize L2.upd H7 p8 (.tup [.int (1), .int (0), .int (0), .int (0 - 1)]) = H8 at t8 v8 ⊢
    refine ⟨by show 2 ≤ sizeLine; decide, fun l2 hl2 => ?_⟩
    have g2 : (L2.upd H8 l2 (.lst [.ref p7, .ref p8])) l2 = some (.lst [.ref p7, .ref p8]) := upd_same
    have w2 : Same H8 (L2.upd H8 l2 (.lst [.ref p7, .ref p8])) := Same.new hl2
    generalize L2.upd H8 l2 (.lst [.ref p7, .ref p8]) = HB at g2 w2 ⊢
    have g1' := w2 _ _ (v8 _ _ (v7 _ _ g1))
    refine ⟨l1, l2, _, _, rfl, rfl, g1', g2, by show 8 ≤ sizeLine; decide, fun l3 hl3 => ?_⟩
    have g3 : (L2.upd HB l3 (.lst ([.ref p1, .ref p2, .ref p3, .ref p4, .ref p5, .ref p6] ++ [.ref p7, .ref p8]))) l3 = some (.lst [.ref p1, .ref p2, .ref p3, .ref p4, .ref p5, .ref p6, .ref p7, .ref p8]) := upd_same
    have w3 : Same HB (L2.upd HB l3 (.lst ([.ref p1, .ref p2, .ref p3, .ref p4, .ref p5, .ref p6] ++ [.ref p7, .ref p8]))) := Same.new hl3
    generalize L2.upd HB l3 (.lst ([.ref p1, .ref p2, .ref p3, .ref p4, .ref p5, .ref p6] ++ [.ref p7, .ref p8])) = HC at g3 w3 ⊢
    have z8 := w2.trans w3
    have z7 := v8.trans z8
    have z6 := w1.trans (v7.trans z7)
    have z5 := v6.trans z6
    have z4 := v5.trans z5
    have z3 := v4.trans z4
    have z2 := v3.trans z3
    have z1 := v2.trans z2
    have z0 := v1.trans z1
    rw [e0] at z0 hs
    have all : Paired (fun v m => Dp K HC v (mvD m)) [.ref p1, .ref p2, .ref p3, .ref p4, .ref p5, .ref p6, .ref p7, .ref p8] mv8 :=
      .cons (mk_mv (SqT_same z1 t1)) (.cons (mk_mv (SqT_same z2 t2)) (.cons (mk_mv (SqT_same z3 t3)) (.cons (mk_mv (SqT_same z4 t4)) (.cons (mk_mv (SqT_same z5 t5)) (.cons (mk_mv (SqT_same z6 t6)) (.cons (mk_mv (SqT_same z7 t7)) (.cons (mk_mv (SqT_same z8 t8)) .nil)))))))
    obtain ⟨ms, l0, m0, t0, hq1, hq2⟩ := id hs
    have fr : H l3 = none := (v1.trans (v2.trans (v3.trans (v4.trans (v5.trans (v6.trans (w1.trans (v7.trans (v8.trans w2))))))))).free hl3 |> fun h => by rw [e0] at h; exact h
    have n1 : l3 ≠ s := fun z => by rw [z, hq1] at fr; cases fr
    have n2 : l3 ≠ c := fun z => by rw [z, hq2] at fr; cases fr
    refine ⟨_, rfl, s, c, 8, rfl, hs.same z0, by decide, by decide, fun r H' hr hs' sm => ?_⟩
    obtain ⟨v, ev⟩ : ∃ v, [V.ref p1, .ref p2, .ref p3, .ref p4, .ref p5, .ref p6, .ref p7, .ref p8][r]? = some v := ⟨_, List.getElem?_eq_getElem (show r < 8 from hr)⟩
    obtain ⟨m, em, dm⟩ := paired_get all ev
    have mm := mv8_ok m (List.mem_of_getElem? em)
    exact ⟨l3, _, _, v, rfl, rfl, SqL.of (sm _ _ n1 n2 g3), atI_nat ev, k m v H' mm.1 mm.2 (Dp_keep ((hs.same z0).keep sm) _ (still_mv _) dm) hs' ((SameC.of z0).trans sm)⟩
abbrev s__law_draw_letters : Stmt := (topS 65)
abbrev N__law_draw_letters : List Str := ["_law_source", "_law_names", "_law_most", "_law_found", "_law_lap"]
abbrev P__law_draw_letters : List Str := ["_law_source", "_law_names", "_law_most"]
theorem sc__law_draw_letters : FnScope N__law_draw_letters P__law_draw_letters (defScope s__law_draw_letters) := ⟨rfl, rfl, rfl, by decide +kernel, rfl, by decide +kernel, by decide +kernel⟩
def spDLet (K : PySem.W.Frag) : Sp := fun vs H Q _ => ∃ (s c a : Addr) (ns : List Str) (n : Nat), vs = [.ref s, .ref a, .int (n : Int)] ∧ Src H s c ∧ FzL H a ns ∧ 0 < ns.length ∧ ns.length ≤ 63 ∧ n ≤ 63 ∧ ∀ (ls : List (Str × Int)) y H', ls.length ≤ n → (∀ l ∈ ls, l.1 ∈ ns ∧ (l.2 = 1 ∨ l.2 = -1)) → Dp K H' y (.tuple (ls.map letD)) → Src H' s c → SameC s c H H' → Q y H'
theorem ok_dlet (F : At K mg "_law_draw_letters" s__law_draw_letters P__law_draw_letters) (C : Gs K mg) (D__law_pick : Df P w K mg base 1 "_law_pick" P__law_pick spPick) : Df P w K mg base 2 "_law_draw_letters" P__law_draw_letters (spDLet K) := by
  refine F.ok sc__law_draw_letters (fun vs H Q E h => ?_) (fun f cdv A outer s H vs Q E hr h => ?_)
  · obtain ⟨s, c, a, ns, n, rfl, _⟩ := h
    rfl
  · obtain ⟨s, c, a, ns, n, rfl, hs, ha, hn0, hn, hm, k⟩ := h
    refine ⟨_, (pss_cons (ps_set (i := 3) sc__law_draw_letters.nd rfl (Or.inl rfl) (pe_lst pa_nil)) (pss_cons (ps_for PassesOwn.never rfl (pi_range1 (by rfl) C.range (pa_cons (pe_df D__law_pick (hr.mono (by decide)) (pa_cons (pv 0) (pa_cons (pe_op op_add (pv 2) pe_int) pa_nil))) pa_nil)) (pg_name (i := 4) sc__law_draw_letters.nd rfl (Or.inl rfl)) (pss_one (ps_expr (k_bm (K := K) rfl PySem.F.plainAttrs_list PySem.F.slot_list_append PySem.F.type_list_append mt_append (pv 3) (pa_cons (pe_tup (pa_cons (pe_ix (k_ix_list (K := K) rfl) (pv 1) (pe_df D__law_pick (hr.mono (by decide)) (pa_cons (pv 0) (pa_cons (pe_callB (k_len (K := K) rfl) (by rfl) C.len (by decide +kernel) (pa_cons (pv 1) pa_nil)) pa_nil))) (fun _ _ => rfl)) (pa_cons (pe_ix (k_ix_list (K := K) rfl) (pe_lst (pa_cons pe_int (pa_cons (pe_op op_sub pe_int pe_int) pa_nil))) (pe_df D__law_pick (hr.mono (by decide)) (pa_cons (pv 0) (pa_cons pe_int pa_nil))) (fun _ _ => rfl)) pa_nil))) pa_nil))))) (pss_one (ps_ret (pe_callTy (k_tuple_of (K := K) rfl) (by rfl) C.b_tuple (by decide +kernel) (pa_cons (pv 3) pa_nil)))))), ?_⟩
    refine ⟨by show 0 ≤ sizeLine; decide, fun pf hpf => ?_⟩
    obtain ⟨ms, l0, m0, t0, hq1, hq2⟩ := id hs
    have nfs : pf ≠ s := fun z => by rw [z, hq1] at hpf; cases hpf
    have nfc : pf ≠ c := fun z => by rw [z, hq2] at hpf; cases hpf
    have sm1 : Same H (L2.upd H pf (.lst [])) := Same.new hpf
    have hf1 : (L2.upd H pf (.lst [])) pf = some (.lst []) := upd_same
    generalize L2.upd H pf (.lst []) = H1 at sm1 hf1 ⊢
    refine ⟨_, rfl, _, rfl, _, _, rfl, rfl, s, c, n + 1, rfl, hs.same sm1, by omega, by omega, fun z H2 hz hs2 sm2 => ⟨_, rfl, by omega, by omega, ?_⟩⟩
    have eL : ((z : Nat) : Int).toNat = z := rfl
    rw [eL]
    have hf2 := sm2 _ _ nfs nfc hf1
    have s02 := (SameC.of sm1).trans sm2
    have lets : ∀ l : List (Str × Int), stillAll (l.map letD) = true := stillAll_map letD still_let
    refine for_it (wk_range (n := z)) (fun i σ' H' => ∃ (o4 : Option V) (xs : List V) (ls : List (Str × Int)), σ' = [some (.ref s), some (.ref a), some (.int (n : Int)), some (.ref pf), o4] ∧ ls.length = i ∧ (∀ l ∈ ls, l.1 ∈ ns ∧ (l.2 = 1 ∨ l.2 = -1)) ∧ H' pf = some (.lst xs) ∧ DpAll K H' xs (ls.map letD) ∧ Src H' s c ∧ SameC s c H H')
      ⟨none, [], [], rfl, rfl, (fun _ h => nomatch h), hf2, .nil, hs2, s02⟩ (fun _ _ _ _ _ => trivial) ?_ ?_
    · rintro i x σ' Hz H3 hi ⟨o4, xs, ls, rfl, hl, hm3, hf3, dx, hs3, sm3⟩ ⟨rfl, j, ej, rfl⟩
      refine ⟨_, rfl, .inl ⟨rfl, _, SqL.of hf3⟩, ?_⟩
      have ha3 := ha.keep (hs.keep sm3)
      refine ⟨_, rfl, _, rfl, _, rfl, _, _, rfl, .inl ⟨_, ha3.seq, rfl⟩, s, c, ns.length, by rw [List.length_map], hs3, hn0, by omega, fun r H5 hr hs5 sm5 => ?_⟩
      have ha5 := ha3.keep (hs3.keep sm5)
      have er : ns[r]? = some ns[r] := List.getElem?_eq_getElem hr
      refine ⟨a, _, _, .str ns[r], rfl, rfl, ha5.seq, atI_nat (by rw [List.getElem?_map, er]; rfl), ?_⟩
      refine ⟨_, _, rfl, rfl, by show 2 ≤ sizeLine; decide, fun pl hpl => ?_⟩
      have s6 : Same H5 (L2.upd H5 pl (.lst [.int 1, .int (0 - 1)])) := Same.new hpl
      have hl6 : (L2.upd H5 pl (.lst [.int 1, .int (0 - 1)])) pl = some (.lst [.int 1, .int (0 - 1)]) := upd_same
      have nps : pl ≠ s := fun z => by obtain ⟨_, _, _, _, g1, _⟩ := hs5; rw [z, g1] at hpl; cases hpl
      have npc : pl ≠ c := fun z => by obtain ⟨_, _, _, _, _, g1⟩ := hs5; rw [z, g1] at hpl; cases hpl
      generalize L2.upd H5 pl (.lst [.int 1, .int (0 - 1)]) = H6 at s6 hl6 ⊢
      refine ⟨_, rfl, s, c, 2, rfl, hs5.same s6, by decide, by decide, fun r2 H7 hr2 hs7 sm7 => ?_⟩
      obtain ⟨b, eb, hb⟩ : ∃ b : Int, [V.int 1, .int (0 - 1)][r2]? = some (.int b) ∧ (b = 1 ∨ b = -1) := by
        rcases Nat.lt_or_ge r2 1 with h | h
        · have : r2 = 0 := by omega
          subst this
          exact ⟨1, rfl, .inl rfl⟩
        · have : r2 = 1 := by omega
          subst this
          exact ⟨0 - 1, rfl, .inr rfl⟩
      refine ⟨pl, _, _, .int b, rfl, rfl, SqL.of (sm7 _ _ nps npc hl6), atI_nat eb, ?_⟩
      refine ⟨by show 2 ≤ sizeLine; decide, fun pt hpt => ?_⟩
      have sm37 : SameC s c H3 H7 := sm5.trans ((SameC.of s6).trans sm7)
      have hf7 := sm37 _ _ nfs nfc hf3
      have s8 : Same H7 (L2.upd H7 pt (.tup [.str ns[r], .int b])) := Same.new hpt
      have ht8 : (L2.upd H7 pt (.tup [.str ns[r], .int b])) pt = some (.tup [.str ns[r], .int b]) := upd_same
      generalize L2.upd H7 pt (.tup [.str ns[r], .int b]) = H8 at s8 ht8 ⊢
      have hf8 := s8 _ _ hf7
      refine ⟨pf, xs, _, rfl, rfl, hf8, ?_, ?_⟩
      · rw [dx.length, List.length_map, hl]
        exact Nat.lt_of_lt_of_le (show i < 64 by have := hi; rw [List.length_range] at this; omega) (by decide)
      have kk : Keep H8 (L2.upd H8 pf (.lst (xs ++ [.ref pt]))) := Keep.mut hf8 rfl
      have k38 : Keep H3 H8 := (hs3.keep sm37).trans (Keep.of s8)
      refine ⟨_, _, ls ++ [(ns[r], b)], rfl, by rw [List.length_append, hl]; rfl, ?_, upd_same, ?_, (hs7.same s8).upd nfs nfc, SameC.mut ((sm3.trans sm37).trans (SameC.of s8)) hpf⟩
      · intro l hlm
        rcases List.mem_append.mp hlm with h | h
        · exact hm3 l h
        · rw [List.mem_singleton.mp h]
          exact ⟨List.getElem_mem hr, hb⟩
      · rw [List.map_append]
        exact DpAll.append (DpAll_keep (k38.trans kk) _ (lets ls) dx) (.cons (mk_let (SqT_keep kk (SqT.of ht8))) .nil)
    · rintro σ' H3 ⟨o4, xs, ls, rfl, hl, hm3, hf3, dx, hs3, sm3⟩
      rw [List.length_range] at hl
      refine ⟨_, rfl, pf, xs, rfl, .inl ⟨SqL.of hf3, fun l hl' => ?_⟩⟩
      exact k ls (.ref l) _ (by omega) hm3 (.tup (SqT.of upd_same) (DpAll_same (Same.new hl') _ dx)) (hs3.same (Same.new hl')) (sm3.trans (SameC.of (Same.new hl')))
end
end Bk
set_option Elab.async false
set_option linter.all false
set_option maxRecDepth 100000
set_option maxHeartbeats 4000000
namespace Bk
open PySem PySem.Spec PyProof.Rows L2 Gap
theorem slL_take {K : PySem.W.Frag} {H : Hp} {a : Addr} {xs : List V} {n : Nat} {i : Int} {Q : VK} (h : SqL K H a xs) (e : i = (n : Int)) (k : ∀ p, H p = none → Q (.ref p) (upd H p (.lst (xs.take n)))) : rSlL K (.ref a) none (some i) H Q := by
  subst e
  have ec : cutV xs none (some (n : Int)) = xs.take n := by
    unfold cutV
    rw [HT.sIx_none, HT.sIx_nat, List.drop_zero, Nat.sub_zero]
    simp [List.take_eq_take_iff]
  exact ⟨a, xs, rfl, h, fun p hp => by rw [ec]; exact k p hp⟩
theorem pairs_of {K : PySem.W.Frag} {H : Hp} {α : Type} {kf : α → Str} {d : α → PyData} : ∀ {its : List α} {xs : List V}, DpAll K H xs (its.map fun a => .tuple [.str (kf a), d a]) →
    ∃ (ps : List Addr) (kvs : List (Key × V)), xs = ps.map V.ref ∧ Paired (fun p kv => SqT K H p [kV kv.1, kv.2]) ps kvs ∧ KVD K H kvs (its.map fun a => (kf a, d a))
  | [], _, h => by cases h; exact ⟨[], [], rfl, .nil, .nil⟩
  | a :: its, _, h => by
    cases h with
    | cons h1 h2 =>
      obtain ⟨ps, kvs, rfl, q1, q2⟩ := pairs_of h2
      obtain ⟨p, ys, rfl, t1, t2⟩ := h1.tup_of
      cases t2 with
      | cons t3 t4 => cases t4 with
        | cons t5 t6 =>
          cases t6
          rw [t3.str_eq] at t1
          exact ⟨p :: ps, (Sum.inr (kf a), _) :: kvs, rfl, .cons t1 q1, .cons ⟨rfl, t5⟩ q2⟩
/-- dict(pairs), put away -/
theorem dicP_end {K : PySem.W.Frag} {H : Hp} {α : Type} {kf : α → Str} {d : α → PyData} {its : List α} {xs : List V} {a : Addr} {Q : VK} (hs : SqL K H a xs) (h : DpAll K H xs (its.map fun a => .tuple [.str (kf a), d a])) (nd : (its.map kf).Nodup)
    (k : ∀ y H', Same H H' → DcAt K H' y (its.map fun a => (kf a, d a)) → Q y H') : rDicP K [.ref a] H fun x H1 => ∃ d u, x = .ref d ∧ H1 d = some u ∧ Mut (some u) ∧ ∀ od, Q x (upd H1 d (.frz od u)) := by
  obtain ⟨ps, kvs, rfl, q1, q2⟩ := pairs_of h
  refine ⟨a, ps, kvs, rfl, hs, q1, fun p hp => ⟨p, _, rfl, upd_same, trivial, fun od => ?_⟩⟩
  rw [upd_upd]
  have ndk : (kvs.map (·.1)).Nodup := by
    have e2 : (its.map fun a => (kf a, d a)).map (·.1) = its.map kf := by rw [List.map_map]; rfl
    rw [q2.keys, e2]
    exact nodup_inr nd
  rw [mergeK_nil ndk]
  exact k _ _ (Same.new hp) ⟨p, od, kvs, rfl, upd_same, KVD_same (Same.new hp) q2⟩
section
variable {P : Program} {w : World} {K : PySem.W.Frag} {mg : Str → Option Value} {base : Heap} {CA : Addr}
abbrev s__law_all_values : Stmt := (topS 67)
abbrev N__law_all_values : List Str := ["_law_state", "_law_name"]
abbrev P__law_all_values : List Str := ["_law_state"]
theorem sc__law_all_values : FnScope N__law_all_values P__law_all_values (defScope s__law_all_values) := ⟨rfl, rfl, rfl, by decide +kernel, rfl, by decide +kernel, by decide +kernel⟩
def spAll (K : PySem.W.Frag) : Sp := fun vs H Q _ => ∃ (x : V) (st : Stt) (v : Str → Mv) (w L r : Str → Nat), vs = [x] ∧ StAt K H x st ∧ Good st v w L r ∧ ∀ (os : List Str) y H', os.Perm (keysOf st) → Same H H' → DcAt K H' y (os.map fun n => (n, mvD (v n))) → Q y H'
theorem ok_all (F : At K mg "_law_all_values" s__law_all_values P__law_all_values) (C : Gs K mg) (D_value_of : Df P w K mg base 5 "value_of" P_value_of (spValueOf K)) : Df P w K mg base 6 "_law_all_values" P__law_all_values (spAll K) := by
  refine F.ok sc__law_all_values (fun vs H Q E h => ?_) (fun f cdv A outer s H vs Q E hr h => ?_)
  · obtain ⟨x, st, v, w, L, r, rfl, _⟩ := h
    rfl
  · obtain ⟨x, st, v, wt, L, r, rfl, hx, g, k⟩ := h
    have hu := hu_of hr
    refine ⟨_, (pss_one (ps_ret (pe_frz (pe_callTy (k_dictP (K := K) rfl rfl) (by rfl) C.b_dict (by decide +kernel) (pa_cons (pe_lc (own := [("_law_name", 1)]) (g := gName 1) (tt := tYes) rfl sc__law_all_values.nd (k_pi_list (K := K) rfl (pe_callB (k_sortedD rfl) (by rfl) C.sorted (by decide +kernel) (pa_cons (pv 0) pa_nil))) (blkOk_by (own := [("_law_name", 1)]) (N := N__law_all_values) (sc := (defScope s__law_all_values)) (by decide +kernel)) (fun _ _ _ _ _ => (pg_name (i := 1) sc__law_all_values.nd rfl (Or.inl rfl))) (fun _ _ _ _ _ => pts_nil) (fun _ _ _ _ _ => (pe_tup (pa_cons (pv 1) (pa_cons (pe_df D_value_of (hr.mono (by decide)) (pa_cons (pv 0) (pa_cons (pv 1) pa_nil))) pa_nil))))) pa_nil))))), ?_⟩
    obtain ⟨d, od, kvs, rfl, hd, rd⟩ := id hx
    have ek : kvs.map (·.1) = (keysOf st).map Sum.inr := by have := rd.keys; rw [stD_keys] at this; exact this
    have kl : (keysOf st).length ≤ 12 := by rw [List.length_map]; exact g.n12
    refine ⟨_, rfl, d, kvs, keysOf st, rfl, .inr ⟨od, hd⟩, ek, by omega, fun ys l perm sd hl => ?_⟩
    have hys : (upd H l (.lst (ys.map V.str))) l = some (.lst (ys.map V.str)) := upd_same
    have s1 : Same H (upd H l (.lst (ys.map V.str))) := Same.new hl
    generalize upd H l (.lst (ys.map V.str)) = H1 at hys s1
    have ysl : ys.length ≤ 12 := by rw [perm.length_eq]; exact kl
    refine ⟨l, rfl, ⟨_, SqL.of hys⟩, fun D hD => lc_map (K := K) hD (wk_list (paired_map ys)) (fun n => .tuple [.str n, mvD (v n)]) (by omega) (fun H' s => SqL.of (s _ _ hys)) (fun _ _ => rfl) ?_ ?_⟩
    · rintro y n H' Kt rfl mem s2 k1
      refine ⟨rfl, _, rfl, _, rfl, _, rfl, .ref d, n, st, v, wt, L, r, rfl, DcAt_same (s1.trans s2) hx, g, (perm.mem_iff).mp mem, fun u H3 s3 du => ⟨by show 2 ≤ sizeLine; decide, fun p hp => k1 _ _ (s3.trans (Same.new hp)) ?_⟩⟩
      exact .tup (SqT.of upd_same) (.cons (.str _) (.cons (Dp_same (Same.new hp) _ du) .nil))
    · intro zs H2 s2 hz dz
      exact dicP_end (kf := fun n => n) (SqL.of hz) dz (by rw [List.map_id']; exact perm.nodup_iff.mpr g.nd) fun y H3 s3 dy => k ys y H3 perm ((s1.trans s2).trans s3) dy
abbrev s__law_draw_state : Stmt := (topS 66)
abbrev N__law_draw_state : List Str := ["_law_source", "_law_found", "_law_names", "_law_k", "_law_told", "_law_name"]
abbrev P__law_draw_state : List Str := ["_law_source"]
theorem sc__law_draw_state : FnScope N__law_draw_state P__law_draw_state (defScope s__law_draw_state) := ⟨rfl, rfl, rfl, by decide +kernel, rfl, by decide +kernel, by decide +kernel⟩
abbrev six : List Str := ["a", "b", "c", "far", "fa", "z"]
structure Drawn (st : Stt) (r : Str → Nat) : Prop where
  wf : Wf st r 2
  ks : ∀ n ∈ keysOf st, n ∈ six
  n6 : st.length ≤ 6
def okT (ns : List Str) (n : Str) (t : Told) : Prop := (∀ m, t = .mv m → m.ok ∧ bnd m 2) ∧ (lettersOf t).length ≤ 3 ∧ ∃ j, ns[j]? = some n ∧ ∀ l ∈ lettersOf t, l.1 ∈ ns.take j ∧ (l.2 = 1 ∨ l.2 = -1)
def DInv (K : PySem.W.Frag) (H : Hp) (s c fd ln : Addr) (ns : List Str) (i : Nat) (σ' : L2.St) (H' : Hp) : Prop := ∃ (o3 o4 : Option V) (kvs : List (Key × V)) (st : Stt), σ' = [some (.ref s), some (.ref fd), some (.ref ln), o3, o4, none] ∧ Src H' s c ∧ SameC s c H H' ∧ FzL H' ln ns ∧ H' fd = some (.dK kvs) ∧ KVD K H' kvs (stD st) ∧ keysOf st = ns.take i ∧ ∀ n t, (n, t) ∈ st → okT ns n t
theorem DInv.step {K : PySem.W.Frag} {H H7 : Hp} {s c fd ln : Addr} {ns : List Str} {i : Nat} {kvs : List (Key × V)} {st : Stt} {n : Str} {t : Told} {u : V} {o3 : Option V} (nd : ns.Nodup) (en : ns[i]? = some n) (hfd : H fd = none) (nfs : fd ≠ s) (nfc : fd ≠ c) (hs : Src H7 s c) (sm : SameC s c H H7) (hn : FzL H7 ln ns) (hf : H7 fd = some (.dK kvs)) (rk : KVD K H7 kvs (stD st)) (ks : keysOf st = ns.take i) (ok : ∀ n t, (n, t) ∈ st → okT ns n t)
    (du : Dp K H7 u (toldD t)) (ot : okT ns n t) : DInv K H s c fd ln ns (i + 1) [some (.ref s), some (.ref fd), some (.ref ln), o3, some u, none] (upd H7 fd (.dK (putK kvs (Sum.inr n) u))) := by
  have kp : Keep H7 (upd H7 fd (.dK (putK kvs (Sum.inr n) u))) := Keep.mut hf rfl
  have nin : n ∉ ns.take i := fun z => by
    obtain ⟨j, hj, ej⟩ := List.mem_take_iff_getElem.mp z
    have hj2 : j < i := by omega
    have h2 : ns[j]? = some n := by rw [List.getElem?_eq_getElem (by omega)]; exact congrArg some ej
    have := nodup_ix nd en h2
    omega
  refine ⟨o3, some u, _, st ++ [(n, t)], rfl, hs.upd nfs nfc, SameC.mut sm hfd, hn.keep kp, upd_same, ?_, ?_, ?_⟩
  · have := kvd_snoc hf rk (n := n) (by rw [stD_lookup, no_key (by rw [ks]; exact nin)]; rfl) du (still_told t) (still_st st)
    unfold stD
    rw [List.map_append]
    exact this
  · show (st ++ [(n, t)]).map (·.1) = _
    rw [List.map_append, List.take_add_one, en, ← ks]
    rfl
  · intro m x hm
    rcases List.mem_append.mp hm with h | h
    · exact ok m x h
    · cases List.mem_singleton.mp h
      exact ot
def gT (st : Stt) (n : Str) : Told := (st.lookup n).getD (.wd [])
theorem lookup_mapT (f : Str → Told) : ∀ {ys : List Str} {n : Str}, n ∈ ys → (ys.map fun n => (n, f n)).lookup n = some (f n)
  | y :: ys, n, h => by
    rw [List.map_cons, List.lookup_cons]
    cases e : n == y with
    | true => rw [eq_of_beq e]
    | false =>
      rcases List.mem_cons.mp h with z | z
      · rw [z, beq_self_eq_true] at e; cases e
      · exact lookup_mapT f z
def rkS (ns : List Str) (n : Str) : Nat := min (ns.idxOf n) 5
theorem idxOf_at : ∀ {ns : List Str} {j : Nat} {n : Str}, ns.Nodup → ns[j]? = some n → ns.idxOf n = j := by
  intro ns j n nd e
  have hm : n ∈ ns := List.mem_of_getElem? e
  have h := List.idxOf_lt_length_of_mem hm
  exact nodup_ix nd (by rw [List.getElem?_eq_getElem h, List.getElem_idxOf]) e
theorem drawn_of {ns : List Str} {st st' : Stt} (nd : ns.Nodup) (ln : ns.length ≤ 6) (inn : ∀ n ∈ ns, n ∈ six) (ks : keysOf st = ns) (ok : ∀ n t, (n, t) ∈ st → okT ns n t) (pm : (keysOf st').Perm ns) (lk : ∀ n, st'.lookup n = st.lookup n) : Drawn st' (rkS ns) := by
  have kin : ∀ n, n ∈ keysOf st' → n ∈ ns := fun n h => pm.mem_iff.mp h
  have ok2 : ∀ n t, st'.lookup n = some t → okT ns n t := fun n t e => by
    rw [lk] at e
    exact ok n t (lookup_mem e)
  have n6 : st'.length ≤ 6 := by
    have := pm.length_eq
    rw [List.length_map] at this
    omega
  refine ⟨⟨pm.nodup_iff.mpr nd, by omega, fun n hn => ?_, fun n t e l hl => ?_, fun n t e => (ok2 n t e).2.1, fun n m e => (ok2 n _ e).1 m rfl, fun n => Nat.min_le_right _ _⟩, fun n hn => inn n (kin n hn), n6⟩
  · have : ∀ n ∈ six, PyData.strOk n = true := by decide +kernel
    exact this n (inn n (kin n hn))
  · obtain ⟨_, _, j, ej, hj⟩ := ok2 n t e
    obtain ⟨h1, h2⟩ := hj l hl
    have hjl : j < ns.length := (List.getElem?_eq_some_iff.mp ej).1
    refine ⟨pm.mem_iff.mpr (List.mem_of_mem_take h1), h2, ?_⟩
    obtain ⟨j2, hj2, ej2⟩ := List.mem_take_iff_getElem.mp h1
    have e2 : ns.idxOf l.1 = j2 := idxOf_at nd (by rw [List.getElem?_eq_getElem (by omega)]; exact congrArg some ej2)
    unfold rkS
    rw [idxOf_at nd ej, e2]
    omega
def spDState (K : PySem.W.Frag) : Sp := fun vs H Q _ => ∃ (s c : Addr), vs = [.ref s] ∧ Src H s c ∧ ∀ (st : Stt) (r : Str → Nat) y H', Drawn st r → StAt K H' y st → Src H' s c → SameC s c H H' → Q y H'
theorem ok_dstate (F : At K mg "_law_draw_state" s__law_draw_state P__law_draw_state) (C : Gs K mg) (D__law_pick : Df P w K mg base 1 "_law_pick" P__law_pick spPick) (D__law_any_order : Df P w K mg base 2 "_law_any_order" P__law_any_order (spOrder K)) (D__law_draw_small : Df P w K mg base 2 "_law_draw_small" P__law_draw_small (spSmall K)) (D__law_draw_letters : Df P w K mg base 2 "_law_draw_letters" P__law_draw_letters (spDLet K)) : Df P w K mg base 3 "_law_draw_state" P__law_draw_state (spDState K) := by
  refine F.ok sc__law_draw_state (fun vs H Q E h => ?_) (fun f cdv A outer s H vs Q E hr h => ?_)
  · obtain ⟨s, c, rfl, _⟩ := h
    rfl
  · obtain ⟨s, c, rfl, hs, k⟩ := h
    have hu := hu_of hr
    refine ⟨_, (pss_cons (ps_asg (pe_tup (pa_cons pe_dnewK (pa_cons (pe_frz (pe_slice (k_sl_list (K := K) rfl) (pe_df D__law_any_order (hr.mono (by decide)) (pa_cons (pv 0) (pa_cons (pe_lst (pa_cons pe_str (pa_cons pe_str (pa_cons pe_str (pa_cons pe_str (pa_cons pe_str (pa_cons pe_str pa_nil))))))) pa_nil))) po_none (po_some (pe_df D__law_pick (hr.mono (by decide)) (pa_cons (pv 0) (pa_cons pe_int pa_nil)))))) pa_nil))) (k_pg_tup (K := K) rfl rfl (pgs_cons (pg_name (i := 1) sc__law_draw_state.nd rfl (Or.inr rfl)) (pgs_cons (pg_name (i := 2) sc__law_draw_state.nd rfl (Or.inl rfl)) pgs_nil)))) (pss_cons (ps_for PassesOwn.never rfl (pi_range1 (by rfl) C.range (pa_cons (pe_callB (k_len (K := K) rfl) (by rfl) C.len (by decide +kernel) (pa_cons (pv 2) pa_nil)) pa_nil)) (pg_name (i := 3) sc__law_draw_state.nd rfl (Or.inl rfl)) (pss_cons (ps_set (i := 4) sc__law_draw_state.nd rfl (Or.inl rfl) (pe_tup (pa_cons pe_str (pa_cons (pe_df D__law_draw_small (hr.mono (by decide)) (pa_cons (pv 0) pa_nil)) pa_nil)))) (pss_cons (ps_if (PW.pt (pw_and (pt_cmpR op_gt (pv 3) pe_int (nomark _)) (pw_and1 (pt_cmpR op_eq (pe_df D__law_pick (hr.mono (by decide)) (pa_cons (pv 0) (pa_cons pe_int pa_nil))) pe_int (nomark _))))) (pss_one (ps_set (i := 4) sc__law_draw_state.nd rfl (Or.inl rfl) (pe_tup (pa_cons pe_str (pa_cons (pe_df D__law_draw_letters (hr.mono (by decide)) (pa_cons (pv 0) (pa_cons (pe_frz (pe_slice (k_sl_list (K := K) rfl) (pv 2) po_none (po_some (pv 3)))) (pa_cons pe_int pa_nil)))) pa_nil))))) pss_nil) (pss_one (ps_dput hu (pv 1) (pe_ix (k_ix_list (K := K) rfl) (pv 2) (pv 3) (fun _ _ => rfl)) (pv 4) rfl))))) (pss_one (ps_ret (pe_frz (pe_callTy (k_dictP (K := K) rfl rfl) (by rfl) C.b_dict (by decide +kernel) (pa_cons (pe_lc (own := [("_law_name", 5)]) (g := gName 5) (tt := tYes) rfl sc__law_draw_state.nd (k_pi_list (K := K) rfl (pe_callB (k_sortedD rfl) (by rfl) C.sorted (by decide +kernel) (pa_cons (pv 1) pa_nil))) (blkOk_by (own := [("_law_name", 5)]) (N := N__law_draw_state) (sc := (defScope s__law_draw_state)) (by decide +kernel)) (fun _ _ _ _ _ => (pg_name (i := 5) sc__law_draw_state.nd rfl (Or.inl rfl))) (fun _ _ _ _ _ => pts_nil) (fun _ _ _ _ _ => (pe_tup (pa_cons (pv 5) (pa_cons (pe_dget hu (pv 1) (pv 5) (fun _ _ => rfl)) pa_nil))))) pa_nil))))))), ?_⟩
    obtain ⟨ms, l0, m0, t0, hq1, hq2⟩ := id hs
    intro fd hfd
    have nfs : fd ≠ s := fun z => by rw [z, hq1] at hfd; cases hfd
    have nfc : fd ≠ c := fun z => by rw [z, hq2] at hfd; cases hfd
    have s1 : Same H (upd H fd (.dK [])) := Same.new hfd
    have hf1 : (upd H fd (.dK [])) fd = some (.dK []) := upd_same
    generalize upd H fd (.dK []) = H1 at s1 hf1 ⊢
    refine ⟨_, rfl, by show 6 ≤ sizeLine; decide, fun pl hpl => ?_⟩
    have s2 : Same H1 (upd H1 pl (.lst [.str "a", .str "b", .str "c", .str "far", .str "fa", .str "z"])) := Same.new hpl
    have hl2 : (upd H1 pl (.lst [.str "a", .str "b", .str "c", .str "far", .str "fa", .str "z"])) pl = some (.lst (six.map V.str)) := upd_same
    have s02 := s1.trans s2
    have hf2 := s2 _ _ hf1
    generalize upd H1 pl (.lst [.str "a", .str "b", .str "c", .str "far", .str "fa", .str "z"]) = H2 at s2 hl2 s02 hf2 ⊢
    refine ⟨s, c, pl, six, rfl, hs.same s02, SqL.of hl2, by decide, fun os la H3 pm hs3 sm3 hla => ?_⟩
    have hf3 := sm3 _ _ nfs nfc hf2
    refine ⟨_, rfl, s, c, 7, rfl, hs3, by decide, by decide, fun z H4 hz hs4 sm4 => ⟨_, rfl, ?_⟩⟩
    have hla4 := hla.keep (hs3.keep sm4)
    have hf4 := sm4 _ _ nfs nfc hf3
    have sm04 := (SameC.of s02).trans (sm3.trans sm4)
    refine slL_take hla4.seq rfl fun ln hln => ?_
    refine ⟨ln, _, rfl, upd_same, trivial, fun od => ?_⟩
    rw [upd_upd]
    have hn5 : FzL (upd H4 ln (.frz od (.lst ((os.map V.str).take z)))) ln (os.take z) := ⟨od, by rw [upd_same, List.map_take]⟩
    have s5 : Same H4 (upd H4 ln (.frz od (.lst ((os.map V.str).take z)))) := Same.new hln
    generalize upd H4 ln (.frz od (.lst ((os.map V.str).take z))) = H5 at hn5 s5 ⊢
    have ndos : os.Nodup := pm.nodup_iff.mpr (by decide +kernel)
    have ndn : (os.take z).Nodup := (List.take_sublist z os).nodup ndos
    have inn : ∀ n ∈ os.take z, n ∈ six := fun n hn => pm.mem_iff.mp (List.mem_of_mem_take hn)
    have lnn : (os.take z).length ≤ 6 := by
      have := pm.length_eq
      have e6 : six.length = 6 := rfl
      rw [List.length_take]
      omega
    generalize os.take z = ns at hn5 ndn inn lnn
    refine ⟨by show 2 ≤ sizeLine; decide, fun pt hpt => ⟨pt, _, rfl, SqT.of upd_same, rfl, _, _, rfl, _, _, rfl, rfl, ?_⟩⟩
    have s6 := s5.trans (Same.new (o := .tup [.ref fd, .ref ln]) hpt)
    have hn6 := hn5.keep (Keep.of (Same.new (o := .tup [.ref fd, .ref ln]) hpt))
    generalize upd H5 pt (.tup [.ref fd, .ref ln]) = H6 at s6 hn6 ⊢
    have hf6 := s6 _ _ hf4
    have hs6 := hs4.same s6
    have sm06 := sm04.trans (SameC.of s6)
    refine ⟨_, rfl, _, _, rfl, .inl ⟨_, hn6.seq, rfl⟩, ?_⟩
    refine ⟨_, rfl, by rw [List.length_map]; omega, by rw [List.length_map]; omega, ?_⟩
    have eL : ((List.map V.str ns).length : Int).toNat = ns.length := by rw [List.length_map]; rfl
    rw [eL]
    refine for_it (wk_range (n := ns.length)) (DInv K H s c fd ln ns) ⟨none, none, [], [], rfl, hs6, sm06, hn6, hf6, .nil, rfl, fun _ _ h => nomatch h⟩ (fun _ _ _ _ _ => trivial) ?_ ?_
    · rintro i x σ' Hz H7 hi ⟨o3, o4, kvs, st, rfl, hs7, sm7, hn7, hf7, rk, ks, ok⟩ ⟨rfl, j, ej, rfl⟩
      have hi' : i < ns.length := by rw [List.length_range] at hi; exact hi
      have eji : j = i := by rw [List.getElem?_range hi'] at ej; exact (Option.some.inj ej).symm
      subst eji
      have en : ns[j]? = some ns[j] := List.getElem?_eq_getElem hi'
      have fkv : ∀ {A B : Hp}, Src A s c → SameC s c A B → KVD K A kvs (stD st) → KVD K B kvs (stD st) := fun a b h => KVD_keep (a.keep b) (still_st st) h
      have kvl : kvs.length < sizeLine := by
        rw [rk.length]
        show (st.map _).length < sizeLine
        rw [List.length_map]
        have : st.length = (keysOf st).length := (List.length_map _).symm
        rw [this, ks, List.length_take]
        exact Nat.lt_of_le_of_lt (Nat.min_le_left _ _) (Nat.lt_of_lt_of_le (show j < 64 by omega) (by decide))
      refine ⟨_, rfl, s, c, rfl, hs7, fun m y H8 mo mb dy hs8 sm8 => ⟨by show 2 ≤ sizeLine; decide, fun p1 hp1 => ?_⟩⟩
      have s9 : Same H8 (upd H8 p1 (.tup [.str "move", y])) := Same.new hp1
      have d9 : Dp K (upd H8 p1 (.tup [.str "move", y])) (.ref p1) (toldD (.mv m)) := mk_tmv (SqT.of upd_same) (Dp_same s9 _ dy)
      generalize upd H8 p1 (.tup [.str "move", y]) = H9 at s9 d9 ⊢
      have sm79 := sm8.trans (SameC.of s9)
      have hs9 := hs8.same s9
      have hf9 := sm79 _ _ nfs nfc hf7
      have hn9 := hn7.keep (hs7.keep sm79)
      have rk9 := fkv hs7 sm79 rk
      have ot : okT ns ns[j] (.mv m) := ⟨fun m' e => by cases e; exact ⟨mo, mb⟩, Nat.zero_le _, j, en, fun l hl => nomatch hl⟩
      refine ⟨_, rfl, _, _, rfl, rfl, _, rfl, ?_⟩
      refine ite2 (fun e1 => ?_) (fun e1 => ?_)
      · refine ⟨_, rfl, s, c, 2, rfl, hs9, by decide, by decide, fun r H10 hr hs10 sm10 => ⟨rfl, _, rfl, ?_⟩⟩
        have hf10 := sm10 _ _ nfs nfc hf9
        have hn10 := hn9.keep (hs9.keep sm10)
        have rk10 := fkv hs9 sm10 rk9
        refine ite2 (fun e2 => ?_) (fun e2 => ?_)
        · have hj0 : 0 < j := by simpa using e1
          refine ⟨_, rfl, _, rfl, _, rfl, _, rfl, slL_take hn10.seq rfl fun lz hlz => ?_⟩
          refine ⟨lz, _, rfl, upd_same, trivial, fun od2 => ?_⟩
          rw [upd_upd]
          have hz : FzL (upd H10 lz (.frz od2 (.lst ((ns.map V.str).take j)))) lz (ns.take j) := ⟨od2, by rw [upd_same, List.map_take]⟩
          have s11 : Same H10 (upd H10 lz (.frz od2 (.lst ((ns.map V.str).take j)))) := Same.new hlz
          generalize upd H10 lz (.frz od2 (.lst ((ns.map V.str).take j))) = H11 at hz s11 ⊢
          have lt : (ns.take j).length = j := by rw [List.length_take]; omega
          refine ⟨s, c, lz, ns.take j, 3, rfl, hs10.same s11, hz, by omega, by omega, by decide, fun ls y2 H12 l3 lin dy2 hs12 sm12 => ⟨by show 2 ≤ sizeLine; decide, fun p2 hp2 => ?_⟩⟩
          have s13 : Same H12 (upd H12 p2 (.tup [.str "word", y2])) := Same.new hp2
          have d13 : Dp K (upd H12 p2 (.tup [.str "word", y2])) (.ref p2) (toldD (.wd ls)) := mk_twd (SqT.of upd_same) (Dp_same s13 _ dy2)
          generalize upd H12 p2 (.tup [.str "word", y2]) = H13 at s13 d13 ⊢
          have sm913 := (SameC.of s11).trans (sm12.trans (SameC.of s13))
          have hs13 := hs12.same s13
          have hf13 := sm913 _ _ nfs nfc hf10
          have hn13 := hn10.keep (hs10.keep sm913)
          have rk13 := fkv hs10 sm913 rk10
          refine ⟨_, rfl, _, rfl, _, rfl, _, rfl, ln, _, _, .str ns[j], rfl, rfl, hn13.seq, atI_nat (by rw [List.getElem?_map, en]; rfl), fd, _, rfl, .inl ⟨kvs, Sum.inr ns[j], hf13, rfl, kvl, rfl⟩, ?_⟩
          exact DInv.step ndn en hfd nfs nfc hs13 (((sm7.trans sm79).trans sm10).trans sm913) hn13 hf13 rk13 ks ok d13 ⟨(fun m' e => nomatch e), l3, j, en, lin⟩
        · refine ⟨_, rfl, _, rfl, _, rfl, _, rfl, ln, _, _, .str ns[j], rfl, rfl, hn10.seq, atI_nat (by rw [List.getElem?_map, en]; rfl), fd, _, rfl, .inl ⟨kvs, Sum.inr ns[j], hf10, rfl, kvl, rfl⟩, ?_⟩
          exact DInv.step ndn en hfd nfs nfc hs10 ((sm7.trans sm79).trans sm10) hn10 hf10 rk10 ks ok (Dp_keep (hs9.keep sm10) _ (still_told _) d9) ot
      · refine iteF ?_
        refine ⟨_, rfl, _, rfl, _, rfl, _, rfl, ln, _, _, .str ns[j], rfl, rfl, hn9.seq, atI_nat (by rw [List.getElem?_map, en]; rfl), fd, _, rfl, .inl ⟨kvs, Sum.inr ns[j], hf9, rfl, kvl, rfl⟩, ?_⟩
        exact DInv.step ndn en hfd nfs nfc hs9 (sm7.trans sm79) hn9 hf9 rk9 ks ok d9 ot
    · rintro σ' H7 ⟨o3, o4, kvs, st, rfl, hs7, sm7, hn7, hf7, rk, ks, ok⟩
      rw [List.length_range, List.take_length] at ks
      have ek : kvs.map (·.1) = (keysOf st).map Sum.inr := by have := rk.keys; rw [stD_keys] at this; exact this
      have kl : (keysOf st).length ≤ 6 := by rw [ks]; exact lnn
      refine ⟨_, rfl, fd, kvs, keysOf st, rfl, .inl hf7, ek, by omega, fun ys l perm sd hl => ?_⟩
      have hys : (upd H7 l (.lst (ys.map V.str))) l = some (.lst (ys.map V.str)) := upd_same
      have s8 : Same H7 (upd H7 l (.lst (ys.map V.str))) := Same.new hl
      generalize upd H7 l (.lst (ys.map V.str)) = H8 at hys s8 ⊢
      have ysl : ys.length ≤ 6 := by rw [perm.length_eq]; exact kl
      have ndy : ys.Nodup := perm.nodup_iff.mpr (by rw [ks]; exact ndn)
      refine ⟨l, rfl, ⟨_, SqL.of hys⟩, fun D hD => lc_map (K := K) hD (wk_list (paired_map ys)) (fun n => .tuple [.str n, toldD (gT st n)]) (by omega) (fun H' s => SqL.of (s _ _ hys)) (fun n _ => by show (true && (still (toldD (gT st n)) && true)) = true; rw [still_told]; rfl) ?_ ?_⟩
      · rintro y n H' Kt rfl mem s2 k1
        obtain ⟨t, et⟩ := of_key (perm.mem_iff.mp mem)
        have rk2 := KVD_same (s8.trans s2) rk
        obtain ⟨u, eu, du⟩ := valV_kvd rk2 (n := n) (d := toldD t) (by rw [stD_lookup, et]; rfl)
        have eg : gT st n = t := by unfold gT; rw [et]; rfl
        refine ⟨rfl, _, rfl, _, rfl, _, rfl, fd, u, rfl, ?_, by show 2 ≤ sizeLine; decide, fun p hp => k1 _ _ (Same.new hp) ?_⟩
        · rw [← eu]
          exact DGet.k (k := Sum.inr n) ((s8.trans s2) _ _ hf7)
        · rw [eg]
          exact .tup (SqT.of upd_same) (.cons (.str _) (.cons (Dp_same (Same.new hp) _ du) .nil))
      · intro zs H9 s9 hz dz
        refine dicP_end (kf := fun n => n) (SqL.of hz) dz (by rw [List.map_id']; exact ndy) fun y H10 s10 dy => ?_
        have e1 : (ys.map fun n => (n, toldD (gT st n))) = stD (ys.map fun n => (n, gT st n)) := by unfold stD; rw [List.map_map]; rfl
        rw [e1] at dy
        have ek2 : keysOf (ys.map fun n => (n, gT st n)) = ys := by show (ys.map _).map _ = _; rw [List.map_map]; exact List.map_id' ys
        have s79 := s8.trans (s9.trans s10)
        refine k _ (rkS ns) y H10 (drawn_of ndn lnn inn ks ok (by rw [ek2, ← ks]; exact perm) fun n => ?_) dy (hs7.same s79) (sm7.trans (SameC.of s79))
        by_cases hn : n ∈ ys
        · rw [lookup_mapT (gT st) hn]
          obtain ⟨t, et⟩ := of_key (perm.mem_iff.mp hn)
          unfold gT
          rw [et]
          rfl
        · rw [no_key (by rw [ek2]; exact hn), no_key (fun z => hn (perm.mem_iff.mpr z))]
end
end Bk
set_option Elab.async false
set_option linter.all false
set_option maxRecDepth 100000
set_option maxHeartbeats 4000000
namespace Bk
open PySem PySem.Spec PyProof.Rows L2 Gap
/-! ### sorted lists of texts -/
theorem cps_anti : ∀ a b : List Nat, ltCps a b = false → ltCps b a = false → a = b
  | [], [], _, _ => rfl
  | [], _ :: _, h, _ => by cases h
  | _ :: _, [], _, h => by cases h
  | a :: r, b :: t, h, h' => by
    simp only [ltCps, Bool.or_eq_false_iff, decide_eq_false_iff_not, Nat.not_lt, Bool.and_eq_false_imp, beq_iff_eq] at h h'
    have e : a = b := Nat.le_antisymm h'.1 h.1
    subst e
    rw [cps_anti r t (h.2 rfl) (h'.2 rfl)]
theorem cps_trans : ∀ a b c : List Nat, ltCps b a = false → ltCps c b = false → ltCps c a = false
  | [], _, [], _, _ => rfl
  | _ :: _, b, [], h1, h2 => by
    cases b with
    | nil => cases h1
    | cons => cases h2
  | [], _, _ :: _, _, _ => rfl
  | a :: r, [], c :: t, h1, h2 => by cases h1
  | a :: r, b :: q, c :: t, h1, h2 => by
    simp only [ltCps, Bool.or_eq_false_iff, decide_eq_false_iff_not, Nat.not_lt, Bool.and_eq_false_imp, beq_iff_eq] at h1 h2 ⊢
    refine ⟨Nat.le_trans h1.1 h2.1, fun e => ?_⟩
    have e1 : b = a := by omega
    have e2 : c = b := by omega
    exact cps_trans r q t (h1.2 e1) (h2.2 e2)
def leS (a b : Str) : Prop := ltCps b.cps.toList a.cps.toList = false
theorem leS_trans {a b c : Str} (h1 : leS a b) (h2 : leS b c) : leS a c := cps_trans _ _ _ h1 h2
theorem rising_pw : ∀ (l : List Str) (p : Str), risingS p l = true → (p :: l).Pairwise leS
  | [], p, _ => List.pairwise_singleton _ _
  | x :: r, p, h => by
    unfold risingS at h
    rw [Bool.and_eq_true] at h
    have ih := rising_pw r x h.2
    have px : leS p x := by unfold leS; simpa using h.1
    refine List.pairwise_cons.mpr ⟨fun y hy => ?_, ih⟩
    rcases List.mem_cons.mp hy with rfl | hy
    · exact px
    · exact leS_trans px ((List.pairwise_cons.mp ih).1 y hy)
theorem sorted_pw : ∀ {l : List Str}, sortedS l = true → l.Pairwise leS
  | [], _ => .nil
  | x :: r, h => rising_pw r x h
theorem pw_sorted {l : List Str} (h : l.Pairwise leS) : sortedS l = true := sortedS_of_pairwise l h
/-- sorted lists of the same texts are one -/
theorem sorted_uniq {a b : List Str} (p : a.Perm b) (ha : sortedS a = true) (hb : sortedS b = true) : a = b := by
  refine List.Perm.eq_of_pairwise (le := leS) (fun x y _ _ h1 h2 => ?_) (sorted_pw ha) (sorted_pw hb) p
  obtain ⟨⟨x⟩⟩ := x
  obtain ⟨⟨y⟩⟩ := y
  have e : y = x := cps_anti _ _ h1 h2
  rw [e]
theorem sorted_filter {l : List Str} (h : sortedS l = true) (p : Str → Bool) : sortedS (l.filter p) = true := pw_sorted ((sorted_pw h).sublist List.filter_sublist)
/-! ### states by what they tell -/
theorem len_of_keys {st st' : Stt} (nd : (keysOf st).Nodup) (nd' : (keysOf st').Nodup) (h : ∀ x, x ∈ keysOf st ↔ x ∈ keysOf st') : st.length = st'.length := by
  have a := nd_len nd' nd fun x hx => (h x).mp hx
  have b := nd_len nd nd' fun x hx => (h x).mpr hx
  have e : (keysOf st).length = st.length := List.length_map _
  have e' : (keysOf st').length = st'.length := List.length_map _
  omega
theorem Wf.congr {st st' : Stt} {r : Str → Nat} {B : Nat} (h : Wf st r B) (nd' : (keysOf st').Nodup) (lk : ∀ x, st'.lookup x = st.lookup x) : Wf st' r B := by
  have ks : ∀ x, x ∈ keysOf st ↔ x ∈ keysOf st' := fun x => by rw [key_iff, key_iff, lk]
  exact ⟨nd', by rw [← len_of_keys h.nd nd' ks]; exact h.n12, fun n hn => h.sk n ((ks n).mpr hn), fun n t e l hl => by
    rw [lk] at e
    obtain ⟨a, b, c⟩ := h.cl n t e l hl
    exact ⟨(ks _).mp a, b, c⟩, fun n t e => h.ll n t (by rw [← lk]; exact e), fun n m e => h.mv n m (by rw [← lk]; exact e), h.rk⟩
theorem Put.len {st st' : Stt} {n : Str} {t : Told} (nd : (keysOf st).Nodup) (p : Put st n t st') (hn : n ∈ keysOf st) : st'.length = st.length := by
  refine len_of_keys p.nd nd fun x => ?_
  rw [p.keys]
  exact ⟨fun h => h.elim (fun e => e ▸ hn) id, .inr⟩
/-- a name of the state set anew -/
theorem Wf.put {st st' : Stt} {r : Str → Nat} {B B' : Nat} {n : Str} {m : Mv} (h : Wf st r B) (hB : B ≤ B') (hn : n ∈ keysOf st) (p : Put st n (.mv m) st') (mo : m.ok) (mb : bnd m B') : Wf st' r B' := by
  have kk : ∀ x, x ∈ keysOf st' ↔ x ∈ keysOf st := fun x => by
    rw [p.keys]
    exact ⟨fun h => h.elim (fun e => e ▸ hn) id, .inr⟩
  refine ⟨p.nd, by rw [p.len h.nd hn]; exact h.n12, fun x hx => h.sk x ((kk x).mp hx), fun x t e l hl => ?_, fun x t e => ?_, fun x m' e => ?_, h.rk⟩
  · rw [p.lk] at e
    by_cases hx : x = n
    · rw [if_pos hx] at e; cases e; cases hl
    · rw [if_neg hx] at e
      obtain ⟨a, b, c⟩ := h.cl x t e l hl
      exact ⟨(kk _).mpr a, b, c⟩
  · rw [p.lk] at e
    by_cases hx : x = n
    · rw [if_pos hx] at e; cases e; exact Nat.zero_le _
    · rw [if_neg hx] at e; exact h.ll x t e
  · rw [p.lk] at e
    by_cases hx : x = n
    · rw [if_pos hx] at e; cases e; exact ⟨mo, mb⟩
    · rw [if_neg hx] at e
      obtain ⟨a, b⟩ := h.mv x m' e
      exact ⟨a, bnd_mono b hB⟩
/-- whatever solves a well-formed state is its values -/
theorem Wf.uniq {st : Stt} {r : Str → Nat} {B : Nat} (h : Wf st r B) {v : Str → Mv} (s : ∀ n t, st.lookup n = some t → v n = tval t v) {n : Str} (hn : n ∈ keysOf st) : valS st n = v n :=
  sol_uniq (r := r) (fun x => x ∈ keysOf st) (fun x hx => by
    obtain ⟨t, e⟩ := of_key hx
    refine ⟨t, e, e, fun y hy => ?_⟩
    obtain ⟨l, hl, rfl⟩ := List.mem_map.mp hy
    obtain ⟨a, _, c⟩ := h.cl x t e l hl
    exact ⟨a, c⟩) (fun n t e => h.val e) s (r n + 1) n (Nat.lt_succ_self _) hn
/-- fixed -/
theorem fixed_vals {st st' : Stt} {r : Str → Nat} {B B' : Nat} {n : Str} (h : Wf st r B) (h' : Wf st' r B') (p : Put st n (.mv (valS st n)) st') {x : Str} (hx : x ∈ keysOf st') : valS st' x = valS st x := by
  refine h'.uniq (fun y t e => ?_) hx
  rw [p.lk] at e
  by_cases hy : y = n
  · rw [if_pos hy] at e; cases e; rw [hy]; rfl
  · rw [if_neg hy] at e; exact h.val e
/-- set anew: what does not hang on it stays -/
theorem set_vals {st st' : Stt} {r : Str → Nat} {B B' : Nat} {n : Str} {t : Told} (h : Wf st r B) (h' : Wf st' r B') (p : Put st n t st') {x : Str} (hx : x ∈ keysOf st) (ne : x ≠ n) (nh : ¬ Hangs st n x) : valS st x = valS st' x := by
  refine sol_uniq (r := r) (fun x => x ∈ keysOf st ∧ x ≠ n ∧ ¬ Hangs st n x) (fun x ⟨hx, ne, nh⟩ => ?_) (fun n t e => h.val e) (fun n t e => h'.val e) (r x + 1) x (Nat.lt_succ_self _) ⟨hx, ne, nh⟩
  obtain ⟨t, e⟩ := of_key hx
  refine ⟨t, e, by rw [p.lk, if_neg ne]; exact e, fun y hy => ?_⟩
  obtain ⟨l, hl, rfl⟩ := List.mem_map.mp hy
  obtain ⟨a, _, c⟩ := h.cl x t e l hl
  refine ⟨⟨a, fun z => nh (.base ⟨t, e, z ▸ hy⟩), fun z => nh (.step z ⟨t, e, hy⟩)⟩, c⟩
/-! ### called anew -/
def bk (o n x : Str) : Str := if x = n then o else x
def fw (o n x : Str) : Str := if x = o then n else x
theorem ren_letters (o n : Str) (t : Told) : lettersOf (ren o n t) = (lettersOf t).map fun l => (fw o n l.1, l.2) := by
  cases t <;> rfl
theorem tval_ren (o n : Str) (t : Told) (f : Str → Mv) : tval (ren o n t) f = tval t fun x => f (fw o n x) := by
  cases t with
  | mv m => rfl
  | wd ls =>
    show (ls.map _).foldl (stepV f) idle = _
    rw [List.foldl_map]
    rfl
theorem bk_fw {o n x : Str} (h : x ≠ n) : bk o n (fw o n x) = x := by
  unfold bk fw
  by_cases e : x = o
  · rw [if_pos e, if_pos rfl, e]
  · rw [if_neg e, if_neg h]
section
variable {st st' : Stt} {r : Str → Nat} {B : Nat} {o n : Str}
theorem Called.at_ (h : Called st o n st') (ho : o ∈ keysOf st) (hn : n ∉ keysOf st) {x : Str} {t' : Told} (e : st'.lookup x = some t') : ∃ t, st.lookup (bk o n x) = some t ∧ t' = ren o n t ∧ bk o n x ∈ keysOf st ∧ x = fw o n (bk o n x) := by
  rw [h.lk] at e
  unfold bk fw
  by_cases h1 : x = n
  · rw [if_pos h1] at e ⊢
    obtain ⟨t, et⟩ := of_key ho
    rw [et] at e
    cases e
    exact ⟨t, et, rfl, ho, by rw [if_pos rfl]; exact h1⟩
  · rw [if_neg h1] at e ⊢
    by_cases h2 : x = o
    · rw [if_pos h2] at e; cases e
    · rw [if_neg h2] at e
      cases e3 : st.lookup x with
      | none => rw [e3] at e; cases e
      | some t =>
        rw [e3] at e
        cases e
        exact ⟨t, rfl, rfl, key_of e3, by rw [if_neg h2]⟩
theorem Called.key (h : Called st o n st') (ho : o ∈ keysOf st) (hn : n ∉ keysOf st) {x : Str} (hx : x ∈ keysOf st) : fw o n x ∈ keysOf st' := by
  have ne : o ≠ n := fun z => hn (z ▸ ho)
  obtain ⟨t, et⟩ := of_key hx
  rw [key_iff, h.lk]
  unfold fw
  by_cases h1 : x = o
  · rw [if_pos h1, if_pos rfl, ← h1, et]; rfl
  · have h2 : x ≠ n := fun z => hn (z ▸ hx)
    rw [if_neg h1, if_neg h2, if_neg h1, et]; rfl
theorem Called.keys (h : Called st o n st') (nd : (keysOf st).Nodup) (ho : o ∈ keysOf st) (hn : n ∉ keysOf st) : (keysOf st').Perm ((keysOf st).map (fw o n)) := by
  have inj : ((keysOf st).map (fw o n)).Nodup := by
    have : ∀ l : List Str, l.Nodup → (∀ x ∈ l, x ∈ keysOf st) → (l.map (fw o n)).Nodup := by
      intro l
      induction l with
      | nil => intro _ _; exact .nil
      | cons a r ih =>
        intro hl hs
        rw [List.nodup_cons] at hl
        rw [List.map_cons, List.nodup_cons]
        refine ⟨fun z => ?_, ih hl.2 fun x hx => hs x (List.mem_cons_of_mem _ hx)⟩
        obtain ⟨b, hb, e⟩ := List.mem_map.mp z
        have ha := hs a List.mem_cons_self
        have hb' := hs b (List.mem_cons_of_mem _ hb)
        have e2 := congrArg (bk o n) e
        rw [bk_fw (o := o) (n := n) (x := b) (fun z => hn (z ▸ hb')), bk_fw (o := o) (n := n) (x := a) (fun z => hn (z ▸ ha))] at e2
        exact hl.1 (e2 ▸ hb)
    exact this _ nd fun _ h => h
  refine (List.perm_ext_iff_of_nodup h.nd inj).mpr fun x => ⟨fun hx => ?_, fun hx => ?_⟩
  · obtain ⟨t', e⟩ := of_key hx
    obtain ⟨t, _, _, a, b⟩ := h.at_ ho hn e
    exact List.mem_map.mpr ⟨_, a, b.symm⟩
  · obtain ⟨y, hy, rfl⟩ := List.mem_map.mp hx
    exact h.key ho hn hy
theorem Called.wf (h : Called st o n st') (W : Wf st r B) (ho : o ∈ keysOf st) (hn : n ∉ keysOf st) (sk : PyData.strOk n = true) : Wf st' (fun x => r (bk o n x)) B := by
  have ln : st'.length = st.length := by
    have := (h.keys W.nd ho hn).length_eq
    rw [List.length_map, List.length_map, List.length_map] at this
    exact this
  refine ⟨h.nd, by rw [ln]; exact W.n12, fun x hx => ?_, fun x t' e l' hl => ?_, fun x t' e => ?_, fun x m e => ?_, fun x => W.rk _⟩
  · obtain ⟨t', e⟩ := of_key hx
    obtain ⟨t, _, _, a, b⟩ := h.at_ ho hn e
    rw [b]
    unfold fw
    split
    · exact sk
    · exact W.sk _ a
  · obtain ⟨t, e1, rfl, a, b⟩ := h.at_ ho hn e
    rw [ren_letters] at hl
    obtain ⟨l, hl2, rfl⟩ := List.mem_map.mp hl
    obtain ⟨c1, c2, c3⟩ := W.cl _ t e1 l hl2
    refine ⟨h.key ho hn c1, c2, ?_⟩
    show r (bk o n (fw o n l.1)) < _
    rw [bk_fw (o := o) (n := n) (x := l.1) (fun z => hn (z ▸ c1))]
    exact c3
  · obtain ⟨t, e1, rfl, a, b⟩ := h.at_ ho hn e
    rw [ren_letters, List.length_map]
    exact W.ll _ t e1
  · obtain ⟨t, e1, e2, a, b⟩ := h.at_ ho hn e
    cases t with
    | mv m' => cases e2; exact W.mv _ _ e1
    | wd ls => cases e2
theorem Called.vals (h : Called st o n st') (W : Wf st r B) (ho : o ∈ keysOf st) (hn : n ∉ keysOf st) (sk : PyData.strOk n = true) {x : Str} (hx : x ∈ keysOf st') : valS st' x = valS st (bk o n x) := by
  refine (h.wf W ho hn sk).uniq (v := fun x => valS st (bk o n x)) (fun y t' e => ?_) hx
  obtain ⟨t, e1, rfl, a, b⟩ := h.at_ ho hn e
  rw [W.val e1, tval_ren]
  refine tval_congr fun z hz => ?_
  obtain ⟨l, hl, rfl⟩ := List.mem_map.mp hz
  obtain ⟨c1, _, _⟩ := W.cl _ t e1 l hl
  rw [bk_fw (o := o) (n := n) (x := l.1) (fun z => hn (z ▸ c1))]
theorem ren_back {t : Told} (h : ∀ l ∈ lettersOf t, l.1 ≠ n) : ren n o (ren o n t) = t := by
  cases t with
  | mv m => rfl
  | wd ls =>
    show Told.wd ((ls.map _).map _) = _
    rw [List.map_map]
    congr 1
    conv => rhs; rw [← List.map_id ls]
    refine List.map_congr_left fun l hl => ?_
    have ne := h l hl
    show ((if (if l.1 = o then n else l.1) = n then o else (if l.1 = o then n else l.1)), l.2) = l
    by_cases e : l.1 = o
    · rw [if_pos e, if_pos rfl, ← e]
    · rw [if_neg e, if_neg ne]
/-- called back, all is as it was -/
theorem Called.back {st'' : Stt} (h : Called st o n st') (h2 : Called st' n o st'') (W : Wf st r B) (ho : o ∈ keysOf st) (hn : n ∉ keysOf st) (x : Str) : st''.lookup x = st.lookup x := by
  have ne : o ≠ n := fun z => hn (z ▸ ho)
  have back : ∀ y t, st.lookup y = some t → ren n o (ren o n t) = t := fun y t e => ren_back fun l hl z => by
    obtain ⟨a, _, _⟩ := W.cl y t e l hl
    exact hn (z ▸ a)
  rw [h2.lk, h.lk, h.lk]
  by_cases h1 : x = o
  · rw [if_pos h1, if_pos rfl, h1]
    obtain ⟨t, et⟩ := of_key ho
    rw [et]
    exact congrArg some (back o t et)
  · rw [if_neg h1]
    by_cases h3 : x = n
    · rw [if_pos h3, h3, no_key hn]
    · rw [if_neg h3, if_neg h3, if_neg h1]
      cases e : st.lookup x with
      | none => rfl
      | some t => exact congrArg some (back x t e)
theorem Called.gone (h : Called st o n st') (ho : o ∈ keysOf st) (hn : n ∉ keysOf st) : o ∉ keysOf st' := by
  have ne : o ≠ n := fun z => hn (z ▸ ho)
  rw [key_iff, h.lk, if_neg ne, if_pos rfl]
  decide
end
/-! ### a new word, there and back -/
theorem word_good {st st' : Stt} {r : Str → Nat} {n x : Str} (W : Wf st r 2) (hn : n ∈ keysOf st) (hx : x ∉ keysOf st) (sk : PyData.strOk x = true) (l11 : st.length ≤ 11) (p : Put st x (.wd [(n, 1), (n, 0 - 1)]) st') :
    Good st' (fun y => if y = x then idle else valS st y) (fun y => if y = x then 2 * (wS 2 r n + 1) else wS 2 r y) (fun y => if y = x then 2 * lenS st n else lenS st y) (fun y => if y = x then 6 else r y) := by
  have g := W.good (by decide)
  have ne : n ≠ x := fun z => hx (z ▸ hn)
  have old : ∀ {y t}, y ≠ x → st'.lookup y = some t → st.lookup y = some t := fun h e => by rw [p.lk, if_neg h] at e; exact e
  have new : ∀ {t}, st'.lookup x = some t → t = .wd [(n, 1), (n, 0 - 1)] := fun e => by rw [p.lk, if_pos rfl] at e; cases e; rfl
  have keyne : ∀ {y}, y ∈ keysOf st → y ≠ x := fun h z => hx (z ▸ h)
  have inold : ∀ {y}, y ≠ x → y ∈ keysOf st' → y ∈ keysOf st := fun h e => ((p.keys _).mp e).resolve_left h
  have lw : ∀ y, wS 2 r y ≤ 970 := fun y => by
    have := pow_5 (W.rk y)
    unfold wS
    omega
  have ll : ∀ y ∈ keysOf st, lenS st y ≤ 243 := fun y hy => Nat.le_trans (W.lenle (r y + 1) y (Nat.lt_succ_self _) hy) (pow_5 (W.rk y))
  refine ⟨p.nd, ?_, fun y hy => ?_, fun y t e l hl => ?_, fun y t e => ?_, fun y t e => ?_, fun y hy => ?_, fun y hy => ?_, fun y t e => ?_, fun y => ?_, fun y t e => ?_, fun y hy => ?_⟩
  · have := nd_sub (l := keysOf st') (k := x :: keysOf st) p.nd fun y hy => List.mem_cons.mpr ((p.keys y).mp hy)
    rw [List.length_map, List.length_cons, List.length_map] at this
    omega
  · by_cases h : y = x
    · rw [h]; exact sk
    · exact W.sk y (inold h hy)
  · by_cases h : y = x
    · subst h
      cases new e
      have e1 : l.1 = n ∧ (l.2 = 1 ∨ l.2 = -1) := by
        rcases List.mem_cons.mp hl with rfl | hl
        · exact ⟨rfl, .inl rfl⟩
        · rw [List.mem_singleton.mp hl]; exact ⟨rfl, .inr rfl⟩
      rw [e1.1]
      refine ⟨(p.keys n).mpr (.inr hn), e1.2, ?_⟩
      rw [if_neg ne, if_pos rfl]
      have := W.rk n
      omega
    · obtain ⟨a, b, c⟩ := W.cl y t (old h e) l hl
      refine ⟨(p.keys _).mpr (.inr a), b, ?_⟩
      rw [if_neg (keyne a), if_neg h]
      exact c
  · by_cases h : y = x
    · subst h; cases new e; show 2 ≤ 12; decide
    · exact g.ll y t (old h e)
  · by_cases h : y = x
    · subst h
      cases new e
      rw [if_pos rfl]
      show idle = afterM (afterM idle (if (1 : Int) = 1 then (if n = y then idle else valS st n) else _)) (if (0 - 1 : Int) = 1 then _ else backM (if n = y then idle else valS st n))
      rw [if_pos rfl, if_neg (show ¬ (0 - 1 : Int) = 1 by decide), if_neg ne, after_idle (g.ok n hn), after_back (g.ok n hn)]
    · rw [if_neg h, W.val (old h e)]
      refine tval_congr fun z hz => ?_
      obtain ⟨l, hl, rfl⟩ := List.mem_map.mp hz
      rw [if_neg (keyne (W.cl y t (old h e) l hl).1)]
  · by_cases h : y = x
    · rw [if_pos h]; exact idle_ok
    · rw [if_neg h]; exact g.ok y (inold h hy)
  · by_cases h : y = x
    · rw [if_pos h, if_pos h]; exact bnd_mono idle_bnd (Nat.zero_le _)
    · rw [if_neg h, if_neg h]; exact g.bd y (inold h hy)
  · by_cases h : y = x
    · subst h
      cases new e
      show (if n = y then _ else wS 2 r n) + 1 + ((if n = y then _ else wS 2 r n) + 1 + 0) ≤ if y = y then _ else _
      rw [if_neg ne, if_pos rfl]
      omega
    · have := g.wt y t (old h e)
      rw [if_neg h]
      have e2 : ((lettersOf t).map fun l => (if l.1 = x then 2 * (wS 2 r n + 1) else wS 2 r l.1) + 1) = (lettersOf t).map fun l => wS 2 r l.1 + 1 := List.map_congr_left fun l hl => by rw [if_neg (keyne (W.cl y t (old h e) l hl).1)]
      rw [e2]
      exact this
  · have a := lw n
    have b := lw y
    show (if y = x then _ else _) ≤ 7000
    split <;> omega
  · by_cases h : y = x
    · subst h
      cases new e
      show (if y = y then _ else _) = (if n = y then _ else lenS st n) + ((if n = y then _ else lenS st n) + 0)
      rw [if_pos rfl, if_neg ne]
      omega
    · rw [if_neg h, W.len (old h e)]
      refine tlen_congr fun z hz => ?_
      obtain ⟨l, hl, rfl⟩ := List.mem_map.mp hz
      rw [if_neg (keyne (W.cl y t (old h e) l hl).1)]
  · by_cases h : y = x
    · rw [if_pos h]
      have := ll n hn
      omega
    · rw [if_neg h]
      have := ll y (inold h hy)
      omega
end Bk
set_option Elab.async false
set_option linter.all false
set_option maxRecDepth 100000
set_option maxHeartbeats 4000000
namespace Bk
open PySem PySem.Spec PyProof.Rows L2 Gap
theorem paired_mem {α β : Type} {R : α → β → Prop} : ∀ {xs : List α} {ys : List β}, Paired R xs ys → ∀ x ∈ xs, ∃ y ∈ ys, R x y
  | _, _, .cons a t, x, h => by
    rcases List.mem_cons.mp h with rfl | h
    · exact ⟨_, List.mem_cons_self, a⟩
    · obtain ⟨y, h1, h2⟩ := paired_mem t x h
      exact ⟨y, List.mem_cons_of_mem _ h1, h2⟩
/-- two dicts of the same data are equal -/
theorem eqDD_of {K : PySem.W.Frag} {H : Hp} {x y : V} {ds es : List (Str × PyData)} {b : Bool} {Q : VK} (hx : DcAt K H x ds) (hy : DcAt K H y es) (len : ds.length = es.length) (h : ∀ n d, (n, d) ∈ ds → es.lookup n = some d ∧ SeqAt.shaped d = true) (q : Q (.bl b) H) : rEqDD K b x y H Q := by
  obtain ⟨a, oa, ks, rfl, ha, ra⟩ := hx
  obtain ⟨c, oc, ls, rfl, hc, rc⟩ := hy
  refine ⟨a, c, ks, ls, rfl, rfl, .inr ⟨oa, ha⟩, .inr ⟨oc, hc⟩, by rw [ra.length, rc.length, len], fun p hp => ?_, q⟩
  obtain ⟨z, hz, e1, e2⟩ := paired_mem ra p hp
  obtain ⟨l, sd⟩ := h z.1 z.2 hz
  obtain ⟨u, eu, du⟩ := valV_kvd rc l
  exact ⟨u, z.2, by rw [e1]; exact eu, e2, du, sd⟩
theorem eqDD_vals {K : PySem.W.Frag} {H : Hp} {x y : V} {os os' : List Str} {f f' : Str → Mv} {b : Bool} {Q : VK} (hx : DcAt K H x (os.map fun n => (n, mvD (f n)))) (hy : DcAt K H y (os'.map fun n => (n, mvD (f' n)))) (pm : os.Perm os') (e : ∀ n ∈ os, f n = f' n) (q : Q (.bl b) H) : rEqDD K b x y H Q := by
  refine eqDD_of hx hy (by rw [List.length_map, List.length_map, pm.length_eq]) (fun n d h => ?_) q
  obtain ⟨m, hm, e2⟩ := List.mem_map.mp h
  cases e2
  rw [e _ hm]
  exact ⟨lookup_mapf (fun n => mvD (f' n)) (pm.mem_iff.mp hm), shaped_mv _⟩
theorem eqDD_st {K : PySem.W.Frag} {H : Hp} {x y : V} {st st' : Stt} {r : Str → Nat} {B : Nat} {b : Bool} {Q : VK} (W : Wf st r B) (hx : StAt K H x st') (hy : StAt K H y st) (nd : (keysOf st').Nodup) (lk : ∀ n, st'.lookup n = st.lookup n) (q : Q (.bl b) H) : rEqDD K b x y H Q := by
  have ks : ∀ x, x ∈ keysOf st' ↔ x ∈ keysOf st := fun x => by rw [key_iff, key_iff, lk]
  refine eqDD_of hx hy ?_ (fun n d h => ?_) q
  · show (st'.map _).length = (st.map _).length
    rw [List.length_map, List.length_map, len_of_keys nd W.nd ks]
  · obtain ⟨p, hp, e2⟩ := List.mem_map.mp h
    cases e2
    have e3 : st.lookup p.1 = some p.2 := by rw [← lk]; exact lookup_of_mem nd hp
    refine ⟨by rw [stD_lookup, e3]; rfl, shaped_told fun z hz => ?_⟩
    obtain ⟨l, hl, rfl⟩ := List.mem_map.mp hz
    exact W.sk _ (W.cl _ _ e3 l hl).1
theorem abs_le {a m : Int} (h : (if a < 0 then -a else a) ≤ m) (e : ¬ (1000000 : Int) < m) : a.natAbs ≤ 2 ^ 20 := by
  have p20 : (2 : Nat) ^ 20 = 1048576 := by decide
  rw [p20]
  split at h <;> omega
theorem new_ok : nameOk "new" := by unfold nameOk; decide +kernel
theorem new_sk : PyData.strOk "new" = true := by decide +kernel
theorem six_ok : ∀ n ∈ six, nameOk n := by unfold nameOk; decide +kernel
theorem new_six : ("new" : Str) ∉ six := by decide +kernel
theorem Drawn.new {st : Stt} {r : Str → Nat} (d : Drawn st r) : ("new" : Str) ∉ keysOf st := fun z => new_six (d.ks _ z)
theorem Drawn.nm {st : Stt} {r : Str → Nat} (d : Drawn st r) {n : Str} (h : n ∈ keysOf st) : nameOk n := six_ok n (d.ks n h)
theorem fw_if (o n x : Str) : fw o n x = if x = o then n else x := rfl
section
variable {P : Program} {w : World} {K : PySem.W.Frag} {mg : Str → Option Value} {base : Heap} {CA : Addr}
abbrev s__law_fixed_right : Stmt := (topS 68)
abbrev N__law_fixed_right : List Str := ["_law_source", "_law_state", "_law_before", "_law_name", "_law_big", "_law_fixed", "_law_called", "_law_due", "_law_word", "_law_told", "_law_one", "_law_n"]
abbrev P__law_fixed_right : List Str := ["_law_source", "_law_state"]
theorem sc__law_fixed_right : FnScope N__law_fixed_right P__law_fixed_right (defScope s__law_fixed_right) := ⟨rfl, rfl, rfl, by decide +kernel, rfl, by decide +kernel, by decide +kernel⟩
def spFixed (K : PySem.W.Frag) : Sp := fun vs H Q _ => ∃ (x y : V) (st : Stt) (r : Str → Nat), vs = [x, y] ∧ StAt K H y st ∧ Drawn st r ∧ ∀ H', Same H H' → Q (.bl true) H'
theorem ok_fixed (F : At K mg "_law_fixed_right" s__law_fixed_right P__law_fixed_right) (C : Gs K mg) (D__law_all_values : Df P w K mg base 6 "_law_all_values" P__law_all_values (spAll K)) (D_behind : Df P w K mg base 7 "behind" P_behind (spBehind K)) (D_uses : Df P w K mg base 3 "uses" P_uses (spUses K))
    (D_length_of : Df P w K mg base 5 "length_of" P_length_of (spLengthOf K)) (D_in_turn : Df P w K mg base 3 "in_turn" P_in_turn (spInTurn K)) (D_value_of : Df P w K mg base 5 "value_of" P_value_of (spValueOf K)) (D_hanging : Df P w K mg base 4 "hanging" P_hanging (spHanging K)) : Df P w K mg base 8 "_law_fixed_right" P__law_fixed_right (spFixed K) := by
  refine F.ok sc__law_fixed_right (fun vs H Q E h => ?_) (fun f cdv A outer s H vs Q E hr h => ?_)
  · obtain ⟨x, y, st, r, rfl, _⟩ := h
    rfl
  · obtain ⟨x, y, st, r, rfl, hy, dr, k⟩ := h
    have hu := hu_of hr
    refine ⟨_, (pss_cons (ps_set (i := 2) sc__law_fixed_right.nd rfl (Or.inr rfl) (pe_df D__law_all_values (hr.mono (by decide)) (pa_cons (pv 1) pa_nil))) (pss_cons (ps_for PassesOwn.never rfl (pi_keys (pv 1)) (pg_name (i := 3) sc__law_fixed_right.nd rfl (Or.inr rfl)) (pss_cons (ps_set (i := 4) sc__law_fixed_right.nd rfl (Or.inl rfl) (pe_cmpR op_gt (pe_callB (k_max (K := K) rfl rfl) (by rfl) C.max (by decide +kernel) (pa_cons (pe_lc (own := [("_law_n", 11)]) (g := gName 11) (tt := tYes) rfl sc__law_fixed_right.nd (k_pi_tup (K := K) rfl (pe_dget hu (pv 2) (pv 3) (fun _ _ => rfl))) (blkOk_by (own := [("_law_n", 11)]) (N := N__law_fixed_right) (sc := (defScope s__law_fixed_right)) (by decide +kernel)) (fun _ _ _ _ _ => (pg_name (i := 11) sc__law_fixed_right.nd rfl (Or.inl rfl))) (fun _ _ _ _ _ => pts_nil) (fun _ _ _ _ _ => (pe_callB call_abs (by rfl) C.abs (by decide +kernel) (pa_cons (pv 11) pa_nil)))) pa_nil)) (pe_op op_pow pe_int pe_int) (nomark _))) (pss_cons (ps_set (i := 5) sc__law_fixed_right.nd rfl (Or.inl rfl) (pe_ifExp (pt_val (pv 4)) (pv 1) (pe_df D_behind (hr.mono (by decide)) (pa_cons (pv 1) (pa_cons (pe_tup (pa_cons pe_str (pa_cons (pv 3) pa_nil))) pa_nil))))) (pss_cons (ps_if (PW.pt (pw_or (pt_cmpR (k_neDD (K := K) rfl hr.units65) (pe_df D__law_all_values (hr.mono (by decide)) (pa_cons (pv 5) pa_nil)) (pv 2) (nomark _)) (pw_or1 (PW.pt (pw_and (pt_not (pt_val (pv 4))) (pw_and1 (PW.pt (pw_or (pt_cmpR (k_neD (K := K) rfl hr.units64) (pe_df D_uses (hr.mono (by decide)) (pa_cons (pv 5) (pa_cons (pv 3) pa_nil))) (pe_lst pa_nil) (nomark _)) (pw_or1 (pt_cmpR op_ne (pe_df D_length_of (hr.mono (by decide)) (pa_cons (pv 5) (pa_cons (pv 3) pa_nil))) pe_int (nomark _))))))))))) (pss_one (ps_ret pe_bl)) pss_nil) (pss_cons (ps_set (i := 6) sc__law_fixed_right.nd rfl (Or.inl rfl) (pe_df D_behind (hr.mono (by decide)) (pa_cons (pv 1) (pa_cons (pe_tup (pa_cons pe_str (pa_cons (pv 3) (pa_cons pe_str pa_nil)))) pa_nil)))) (pss_cons (ps_set (i := 7) sc__law_fixed_right.nd rfl (Or.inl rfl) (pe_frz (pe_callTy (k_dictP (K := K) rfl rfl) (by rfl) C.b_dict (by decide +kernel) (pa_cons (pe_lc (own := [("_law_one", 10)]) (g := gName 10) (tt := tYes) rfl sc__law_fixed_right.nd (pi_keys (pv 2)) (blkOk_by (own := [("_law_one", 10)]) (N := N__law_fixed_right) (sc := (defScope s__law_fixed_right)) (by decide +kernel)) (fun _ _ _ _ _ => (pg_name (i := 10) sc__law_fixed_right.nd rfl (Or.inl rfl))) (fun _ _ _ _ _ => pts_nil) (fun _ _ _ _ _ => (pe_tup (pa_cons (pe_ifExp (pt_cmpR op_eq (pv 10) (pv 3) (nomark _)) pe_str (pv 10)) (pa_cons (pe_dget hu (pv 2) (pv 10) (fun _ _ => rfl)) pa_nil))))) pa_nil)))) (pss_cons (ps_if (PW.pt (pw_or (pt_cmpR (k_neDD (K := K) rfl hr.units65) (pe_df D__law_all_values (hr.mono (by decide)) (pa_cons (pv 6) pa_nil)) (pv 7) (nomark _)) (pw_or1 (pt_cmpR (k_neDD (K := K) rfl hr.units65) (pe_df D_behind (hr.mono (by decide)) (pa_cons (pv 6) (pa_cons (pe_tup (pa_cons pe_str (pa_cons pe_str (pa_cons (pv 3) pa_nil)))) pa_nil))) (pv 1) (nomark _))))) (pss_one (ps_ret pe_bl)) pss_nil) (pss_cons (ps_if (pt_cmpR (k_neD (K := K) rfl hr.units64) (pe_callB (k_sortedS (K := K) rfl) (by rfl) C.sorted (by decide +kernel) (pa_cons (pe_df D_in_turn (hr.mono (by decide)) (pa_cons (pv 6) pa_nil)) pa_nil)) (pe_callB (k_sortedS (K := K) rfl) (by rfl) C.sorted (by decide +kernel) (pa_cons (pe_lc (own := [("_law_one", 10)]) (g := gName 10) (tt := tYes) rfl sc__law_fixed_right.nd (pi_keys (pv 1)) (blkOk_by (own := [("_law_one", 10)]) (N := N__law_fixed_right) (sc := (defScope s__law_fixed_right)) (by decide +kernel)) (fun _ _ _ _ _ => (pg_name (i := 10) sc__law_fixed_right.nd rfl (Or.inl rfl))) (fun _ _ _ _ _ => pts_nil) (fun _ _ _ _ _ => (pe_ifExp (pt_cmpR op_eq (pv 10) (pv 3) (nomark _)) pe_str (pv 10)))) pa_nil)) (nomark _)) (pss_one (ps_ret pe_bl)) pss_nil) (pss_cons (ps_set (i := 8) sc__law_fixed_right.nd rfl (Or.inl rfl) (pe_callTy (k_tuple_of (K := K) rfl) (by rfl) C.b_tuple (by decide +kernel) (pa_cons (pe_lst (pa_cons (pe_tup (pa_cons (pv 3) (pa_cons pe_int pa_nil))) (pa_cons (pe_tup (pa_cons (pv 3) (pa_cons (pe_op op_sub pe_int pe_int) pa_nil))) pa_nil))) pa_nil))) (pss_cons (ps_set (i := 9) sc__law_fixed_right.nd rfl (Or.inl rfl) (pe_df D_behind (hr.mono (by decide)) (pa_cons (pv 1) (pa_cons (pe_tup (pa_cons pe_str (pa_cons pe_str (pa_cons (pv 8) pa_nil)))) pa_nil)))) (pss_one (ps_if (PW.pt (pw_or (pt_cmpR (k_neD (K := K) rfl hr.units64) (pe_df D_value_of (hr.mono (by decide)) (pa_cons (pv 9) (pa_cons pe_str pa_nil))) (pe_tup (pa_cons pe_int (pa_cons pe_int (pa_cons pe_int (pa_cons pe_int pa_nil))))) (nomark _)) (pw_or (pt_cmpR (k_neD (K := K) rfl hr.units64) (pe_df D_hanging (hr.mono (by decide)) (pa_cons (pv 9) (pa_cons pe_str pa_nil))) (pe_lst pa_nil) (nomark _)) (pw_or1 (pt_cmpR (k_notIn_seq (K := K) rfl) pe_str (pe_df D_hanging (hr.mono (by decide)) (pa_cons (pv 9) (pa_cons (pv 3) pa_nil))) (by rfl)))))) (pss_one (ps_ret pe_bl)) pss_nil)))))))))))) (pss_one (ps_ret pe_bl)))), ?_⟩
    have W := dr.wf
    have g := W.good (by decide)
    refine ⟨_, rfl, y, st, _, _, _, _, rfl, hy, g, fun os b H1 pm s1 hb => ?_⟩
    have hnew := dr.new
    have nd := W.nd
    have l6 := dr.n6
    obtain ⟨yd, ody, kvy, rfl, hyd, ry⟩ := id hy
    obtain ⟨bd, odb, kvb, rfl, hbd, rb⟩ := id hb
    have eky : kvy.map (·.1) = (keysOf st).map Sum.inr := by have := ry.keys; rw [stD_keys] at this; exact this
    have ekb : kvb.map (·.1) = os.map Sum.inr := by
      have := rb.keys
      rw [List.map_map] at this
      rw [this, List.map_map]
      rfl
    have osl : os.length ≤ 6 := by rw [pm.length_eq, List.length_map]; exact l6
    have ysl : (keysOf st).length ≤ 6 := by rw [List.length_map]; exact l6
    have y1 := s1 _ _ hyd
    refine ⟨_, rfl, yd, ody, rfl, .inl ⟨kvy, y1, ?_⟩⟩
    refine for_it (wk_keys eky) (fun i σ' H' => ∃ (o3 o4 o5 o6 o7 o8 o9 : Option V), σ' = [some x, some (.ref yd), some (.ref bd), o3, o4, o5, o6, o7, o8, o9, none, none] ∧ Same H1 H') ⟨none, none, none, none, none, none, none, rfl, Same.refl _⟩ (fun i σ' H' _ ⟨_, _, _, _, _, _, _, _, h⟩ => h _ _ y1) ?_ ?_
    · rintro i z σ' Hz H2 hi ⟨o3, o4, o5, o6, o7, o8, o9, rfl, s2⟩ ⟨rfl, n, en, rfl⟩
      have hn : n ∈ keysOf st := List.mem_of_getElem? en
      have hno : n ∈ os := pm.mem_iff.mpr hn
      have s02 := s1.trans s2
      have hy2 : StAt K H2 (.ref yd) st := DcAt_same s02 hy
      obtain ⟨_, u, e0, hg, du⟩ := (DcAt_same s2 hb).get (lookup_mapf (fun n => mvD (valS st n)) hno)
      cases e0
      obtain ⟨ma, rfl, hma⟩ := dp_mv du
      refine ⟨_, rfl, _, rfl, bd, _, rfl, hg, ma, rfl, ⟨_, hma⟩, fun D hD => lc_map (K := K) (its := [(valS st n).a, (valS st n).b, (valS st n).c, (valS st n).d]) hD (wk_tup (K := K) (a := ma) (paired_map _)) (fun n => PyData.int (if n < 0 then -n else n)) (by show 4 ≤ 100000; decide) (fun H' s => SqT_same s hma) (fun _ _ => rfl) ?_ ?_⟩
      · rintro x n H2 Kt rfl mem s2 k1
        exact ⟨rfl, _, rfl, _, rfl, k1 _ _ (Same.refl _) (.int _)⟩
      intro zs H3 s3 hz dz
      have ez := DpAll.map_ints (ns := [(valS st n).a, (valS st n).b, (valS st n).c, (valS st n).d].map fun n => if n < 0 then -n else n) (by rw [List.map_map]; exact dz)
      subst ez
      refine ⟨D, _, rfl, SqL.of hz, by show 0 < 4; decide, fun mx hmx hle => ⟨_, _, rfl, rfl, ⟨by decide, by decide, by decide⟩, _, _, rfl, rfl, ?_⟩⟩
      have mid1 : ∀ (big : Bool) (Q : VK), (big = false → bnd (valS st n) 20) →
          (∀ (z : V) (st2 : Stt) (r2 : Str → Nat) (B2 : Nat) H4, Same H3 H4 → StAt K H4 z st2 → Wf st2 r2 B2 → B2 ≤ 20 → n ∈ keysOf st2 → (∀ k, k ∈ keysOf st2 ↔ k ∈ keysOf st) → (∀ k ∈ keysOf st2, valS st2 k = valS st k) → (big = false → st2.lookup n = some (.mv (valS st n))) → Q z H4) →
          tIf (tB (tVar 4)) (tVar 1) (tDf (spBehind K) (tCons (tVar 1) (tCons (tTup (tCons (tC (.str "fix")) (tCons (tVar 3) tNil))) tNil))) [some x, some (.ref yd), some (.ref bd), some (.str n), some (.bl big), o5, o6, o7, o8, o9, none, none] H3 Q := by
        intro big Q hb k
        refine ⟨_, rfl, _, rfl, ite2 (fun e => ?_) (fun e => ?_)⟩
        · refine ⟨_, rfl, k _ st r 2 H3 (Same.refl _) (DcAt_same s3 hy2) W (by decide) hn (fun _ => Iff.rfl) (fun _ _ => rfl) (fun z => ?_)⟩
          rw [z] at e; cases e
        · have eb : big = false := by simpa using e
          refine ⟨_, rfl, _, rfl, by show 2 ≤ sizeLine; decide, fun p hp => ?_⟩
          have s4 := Same.new (o := .tup [.str "fix", .str n]) hp
          have wfx : ∀ st', Put st n (.mv (valS st n)) st' → Wf st' r 20 := fun st' put => W.put (by decide) hn put (g.ok n hn) (hb eb)
          refine ⟨.ref yd, .ref p, st, .fix n (valS st n), rfl, DcAt_same (s3.trans s4) hy2, .tup (SqT.of upd_same) (.cons (.str _) (.cons (.str _) .nil)), trivial, nd, by omega, ⟨hn, _, _, _, _, g, rfl, fun st' put => ⟨_, _, _, _, (wfx st' put).good (by decide)⟩⟩, fun z st' H5 s5 hz5 put => ?_⟩
          exact k z st' r 20 H5 (s4.trans s5) hz5 (wfx st' put) (Nat.le_refl _) ((put.keys n).mpr (.inl rfl)) (fun k => by rw [put.keys]; exact ⟨fun h => h.elim (fun e => e ▸ hn) id, .inr⟩) (fun k hk => fixed_vals W (wfx st' put) put hk) (fun _ => by rw [put.lk, if_pos rfl])
      refine mid1 _ _ (fun e => ?_) fun z st2 r2 B2 H4 s4 hz4 W2 hB2 hn2 k2 v2 bg => ?_
      · have e2 : ¬ (1000000 : Int) < mx := of_decide_eq_false e
        exact ⟨abs_le (hle _ List.mem_cons_self) e2, abs_le (hle _ (List.mem_cons_of_mem _ List.mem_cons_self)) e2, abs_le (hle _ (List.mem_cons_of_mem _ (List.mem_cons_of_mem _ List.mem_cons_self))) e2,
          abs_le (hle _ (List.mem_cons_of_mem _ (List.mem_cons_of_mem _ (List.mem_cons_of_mem _ List.mem_cons_self)))) e2⟩
      have s34 := s3.trans s4
      have mid2 : ∀ (big : Bool) (Q : Bool → Hp → Prop), (big = false → st2.lookup n = some (.mv (valS st n))) → ∀ H5, Same H4 H5 → (∀ H6, Same H4 H6 → Q false H6) →
          tAnd (tNot (tB (tVar 4))) (tOr (tTest (tOp (rNeD K) (tDf (spUses K) (tCons (tVar 5) (tCons (tVar 3) tNil))) (tLst tNil))) (tTest (tOp rNe (tDf (spLengthOf K) (tCons (tVar 5) (tCons (tVar 3) tNil))) (tC (.int 1))))) [some x, some (.ref yd), some (.ref bd), some (.str n), some (.bl big), some z, o6, o7, o8, o9, none, none] H5 Q := by
        intro big Q bg H5 s5 k
        refine ⟨_, rfl, _, rfl, ?_⟩
        cases big with
        | true => exact iteF (k _ s5)
        | false =>
          refine iteT ?_
          have e := bg rfl
          refine ⟨_, rfl, _, rfl, z, st2, n, .mv (valS st n), rfl, DcAt_same s5 hz4, e, Nat.zero_le _, fun ys p H6 hp s6 hys em => ?_⟩
          have ey : ys = [] := by
            cases ys with
            | nil => rfl
            | cons a _ => have := (em a).mp List.mem_cons_self; cases this
          subst ey
          refine ⟨Nat.zero_le _, fun q hq => ⟨.list [], .list [], .lst (SqL.of (Same.new hq _ _ hys)) .nil, .lst (SqL.of upd_same) .nil, rfl, rfl, false, rfl, iteF ?_⟩⟩
          have s7 := (s5.trans s6).trans (Same.new (o := .lst []) hq)
          refine ⟨_, rfl, _, rfl, z, n, st2, _, _, _, _, rfl, DcAt_same s7 hz4, W2.good hB2, hn2, fun H8 s8 => ⟨rfl, false, ?_, k _ (s7.trans s8)⟩⟩
          have e3 : lenS st2 n = 1 := W2.len e
          rw [e3]
          rfl
      refine ⟨_, rfl, z, st2, _, _, _, _, rfl, hz4, W2.good hB2, fun os2 b2 H5 pm2 s5 hb2 => ⟨_, rfl, ?_⟩⟩
      refine eqDD_vals hb2 (DcAt_same (s2.trans (s34.trans s5)) hb) ?_ (fun k hk => v2 k (pm2.mem_iff.mp hk)) ⟨_, rfl, iteF ?_⟩
      · refine (List.perm_ext_iff_of_nodup (pm2.nodup_iff.mpr W2.nd) (pm.nodup_iff.mpr nd)).mpr fun k => ?_
        rw [pm2.mem_iff, pm.mem_iff, k2]
      refine mid2 _ _ bg _ s5 fun H6 s6 => iteF ?_
      have s36 := s34.trans s6
      have hy6 : StAt K H6 (.ref yd) st := DcAt_same s36 hy2
      have hb6 := DcAt_same (s2.trans s36) hb
      have s16 := s2.trans s36
      clear mid1 mid2 bg v2 k2 hn2 W2 hz4 hb2
      -- called anew
      refine ⟨_, rfl, _, rfl, by show 3 ≤ sizeLine; decide, fun p hp => ?_⟩
      have s7 := Same.new (o := .tup [.str "call", .str n, .str "new"]) hp
      refine ⟨.ref yd, .ref p, st, .call n "new", rfl, DcAt_same s7 hy6, .tup (SqT.of upd_same) (.cons (.str _) (.cons (.str _) (.cons (.str _) .nil))), trivial, nd, by omega, ⟨hn, new_ok, hnew, fun x t e => Nat.le_trans (W.ll x t e) (by decide)⟩, fun c st3 H8 s8 hc called => ?_⟩
      have s18 := s16.trans (s7.trans s8)
      have W3 := called.wf W hn hnew new_sk
      have g3 := W3.good (by decide)
      have kp3 := called.keys nd hn hnew
      have hb8 := DcAt_same s18 hb
      have hbd8 := s18 _ _ hbd
      have ndf : (os.map (fw n "new")).Nodup := (pm.map _).nodup_iff.mpr (kp3.nodup_iff.mp called.nd)
      -- what is due
      refine ⟨_, rfl, bd, odb, rfl, .inl ⟨kvb, hbd8, fun D2 hD2 => lc_map (K := K) hD2 (wk_keys ekb) (fun k => .tuple [.str (fw n "new" k), mvD (valS st k)]) (by omega) (fun H' s => s _ _ hbd8) (fun k _ => rfl) ?_ ?_⟩⟩
      · rintro x1 k H9 Kt rfl mem s9 k1
        obtain ⟨_, u, e0, hg, du⟩ := (DcAt_same (s18.trans s9) hb).get (lookup_mapf (fun n => mvD (valS st n)) mem)
        cases e0
        have fin : ∀ y, y = V.str (fw n "new" k) → ∀ p, H9 p = none → Kt (.ref p) (upd H9 p (.tup [y, u])) := fun y ey p hp => by
          subst ey
          exact k1 _ _ (Same.new hp) (.tup (SqT.of upd_same) (.cons (.str _) (.cons (Dp_same (Same.new hp) _ du) .nil)))
        refine ⟨rfl, _, rfl, _, rfl, rfl, _, rfl, ite2 (fun e => ?_) (fun e => ?_)⟩
        · have ek : k = n := V.str.inj (of_decide_eq_true e)
          exact ⟨_, rfl, _, rfl, bd, u, rfl, hg, by show 2 ≤ sizeLine; decide, fin _ (by rw [fw_if, if_pos ek])⟩
        · have ek : k ≠ n := fun z => e (decide_eq_true (congrArg V.str z))
          exact ⟨_, rfl, _, rfl, _, rfl, bd, u, rfl, hg, by show 2 ≤ sizeLine; decide, fin _ (by rw [fw_if, if_neg ek])⟩
      intro zs2 H9 s9 hz2 dz2
      refine dicP_end (Q := fun x H => gName 7 x _ H _) (kf := fun k => fw n "new" k) (d := fun k => mvD (valS st k)) (SqL.of hz2) dz2 ndf fun du H10 s10 hdu => ?_
      have s810 := s9.trans s10
      -- values of the called
      refine ⟨_, rfl, c, st3, _, _, _, _, rfl, DcAt_same s810 hc, g3, fun os3 b3 H11 pm3 s11 hb3 => ⟨_, rfl, ?_⟩⟩
      refine eqDD_of hb3 (DcAt_same s11 hdu) ?_ (fun k d hk => ?_) ⟨_, rfl, iteF ?_⟩
      · rw [List.length_map, List.length_map, pm3.length_eq, pm.length_eq]
        exact kp3.length_eq.trans (List.length_map _)
      · obtain ⟨k', hk', ek⟩ := List.mem_map.mp hk
        cases ek
        have hk3 := pm3.mem_iff.mp hk'
        obtain ⟨t', et'⟩ := of_key hk3
        obtain ⟨t, _, _, a1, a2⟩ := called.at_ hn hnew et'
        rw [called.vals W hn hnew new_sk hk3]
        refine ⟨lookup_of_mem (by rw [List.map_map]; exact ndf) (List.mem_map.mpr ⟨bk n "new" k, pm.mem_iff.mpr a1, ?_⟩), shaped_mv _⟩
        rw [← a2]
      have s811 := s810.trans s11
      refine ⟨_, rfl, _, rfl, by show 3 ≤ sizeLine; decide, fun p2 hp2 => ?_⟩
      have s12 := Same.new (o := .tup [.str "call", .str "new", .str n]) hp2
      have new3 : ("new" : Str) ∈ keysOf st3 := kp3.mem_iff.mpr (List.mem_map.mpr ⟨n, hn, by rw [fw_if, if_pos rfl]⟩)
      have l3 : st3.length ≤ 39 := Nat.le_trans W3.n12 (by decide)
      refine ⟨c, .ref p2, st3, .call "new" n, rfl, DcAt_same (s811.trans s12) hc, .tup (SqT.of upd_same) (.cons (.str _) (.cons (.str _) (.cons (.str _) .nil))), trivial, called.nd, l3, ⟨new3, dr.nm hn, called.gone hn hnew, fun x t e => Nat.le_trans (W3.ll x t e) (by decide)⟩, fun z4 st4 H13 s13 hz4 called2 => ⟨_, rfl, ?_⟩⟩
      have s813 := s811.trans (s12.trans s13)
      refine eqDD_st W hz4 (DcAt_same (s18.trans s813) (DcAt_same s1 hy)) called2.nd (called.back called2 W hn hnew) ⟨_, rfl, iteF ?_⟩
      -- in turn
      have hc13 := DcAt_same s813 hc
      have s113 := s18.trans s813
      refine ⟨_, rfl, c, st3, _, rfl, hc13, g3.small, (fun n o h => g3.rank h), fun os5 p5 H14 hp5 s14 hos5 pm5 _ => ?_⟩
      have len5 : os5.length ≤ 6 := by rw [(pm5.trans kp3).length_eq, List.length_map]; exact ysl
      refine ⟨p5, os5, rfl, SqL.of hos5, by omega, fun ys1 q1 perm1 sd1 hq1 => ?_⟩
      have s15 : Same H14 (upd H14 q1 (.lst (ys1.map V.str))) := Same.new hq1
      have hy15 : (upd H14 q1 (.lst (ys1.map V.str))) q1 = some (.lst (ys1.map V.str)) := upd_same
      generalize upd H14 q1 (.lst (ys1.map V.str)) = H15 at s15 hy15 ⊢
      have s1315 := s14.trans s15
      have yd15 := (s113.trans s1315) _ _ y1
      refine ⟨_, rfl, yd, ody, rfl, .inl ⟨kvy, yd15, fun D3 hD3 => lc_map (K := K) hD3 (wk_keys eky) (fun k => PyData.str (fw n "new" k)) (by omega) (fun H' s => s _ _ yd15) (fun k _ => rfl) ?_ ?_⟩⟩
      · rintro x1 k H16 Kt rfl mem s16' k1
        refine ⟨rfl, _, rfl, _, rfl, rfl, _, rfl, ite2 (fun e => ?_) (fun e => ?_)⟩
        · have ek : k = n := V.str.inj (of_decide_eq_true e)
          refine k1 _ _ (Same.refl _) ?_
          rw [fw_if, if_pos ek]
          exact .str _
        · have ek : k ≠ n := fun z => e (decide_eq_true (congrArg V.str z))
          refine ⟨_, rfl, k1 _ _ (Same.refl _) ?_⟩
          rw [fw_if, if_neg ek]
          exact .str _
      intro zs3 H16 s16' hz3 dz3
      have ez3 := DpAll.map_strs (ns := (keysOf st).map (fw n "new")) (by rw [List.map_map]; exact dz3)
      subst ez3
      refine ⟨D3, _, rfl, SqL.of hz3, by rw [List.length_map]; omega, fun ys2 q2 perm2 sd2 hq2 => ?_⟩
      have ey : ys1 = ys2 := sorted_uniq ((perm1.trans (pm5.trans kp3)).trans perm2.symm) sd1 sd2
      subst ey
      have sky : ∀ k ∈ ys1, PyData.strOk k = true := fun k hk => W3.sk k ((perm1.trans pm5).mem_iff.mp hk)
      refine ⟨.list (ys1.map PyData.str), .list (ys1.map PyData.str), .lst (SqL.of (Same.new hq2 _ _ (s16' _ _ hy15))) (DpAll.of_strs _), .lst (SqL.of upd_same) (DpAll.of_strs _), shaped_strs sky, shaped_strs sky, false, ?_, iteF ?_⟩
      · rw [eqv_self (shaped_strs sky)]
        rfl
      have s17 : Same H13 (upd H16 q2 (.lst (ys1.map V.str))) := (s1315.trans s16').trans (Same.new hq2)
      generalize upd H16 q2 (.lst (ys1.map V.str)) = H17 at s17 ⊢
      -- there and back
      refine ⟨_, rfl, by show 2 ≤ sizeLine; decide, fun p1 hp1 => ?_⟩
      have t1 : SqT K (upd H17 p1 (.tup [.str n, .int 1])) p1 [.str n, .int 1] := SqT.of upd_same
      have s18' : Same H17 (upd H17 p1 (.tup [.str n, .int 1])) := Same.new hp1
      generalize upd H17 p1 (.tup [.str n, .int 1]) = H18 at t1 s18' ⊢
      refine ⟨_, rfl, _, _, rfl, rfl, by show 2 ≤ sizeLine; decide, fun p3 hp3 => ?_⟩
      have t3 : SqT K (upd H18 p3 (.tup [.str n, .int (0 - 1)])) p3 [.str n, .int (0 - 1)] := SqT.of upd_same
      have s19 : Same H18 (upd H18 p3 (.tup [.str n, .int (0 - 1)])) := Same.new hp3
      generalize upd H18 p3 (.tup [.str n, .int (0 - 1)]) = H19 at t3 s19 ⊢
      refine ⟨by show 2 ≤ sizeLine; decide, fun l4 hl4 => ⟨l4, _, rfl, .inl ⟨SqL.of upd_same, fun pt hpt => ?_⟩⟩⟩
      have s20 := (Same.new (o := .lst [.ref p1, .ref p3]) hl4).trans (Same.new (o := .tup [.ref p1, .ref p3]) hpt)
      have dw : Dp K (upd (upd H19 l4 (.lst [.ref p1, .ref p3])) pt (.tup [.ref p1, .ref p3])) (.ref pt) (.tuple ([((n : Str), (1 : Int)), (n, 0 - 1)].map letD)) :=
        .tup (SqT.of upd_same) (.cons (mk_let (l := (n, 1)) (SqT_same (s19.trans s20) t1)) (.cons (mk_let (l := (n, 0 - 1)) (SqT_same s20 t3)) .nil))
      generalize upd (upd H19 l4 (.lst [.ref p1, .ref p3])) pt (.tup [.ref p1, .ref p3]) = H20 at s20 dw ⊢
      refine ⟨_, rfl, _, rfl, by show 3 ≤ sizeLine; decide, fun p6 hp6 => ?_⟩
      have s21 := Same.new (o := .tup [.str "word", .str "new", .ref pt]) hp6
      have s121 := s113.trans ((((s17.trans s18').trans s19).trans s20).trans s21)
      have gw : ∀ st', Put st "new" (.wd [(n, 1), (n, 0 - 1)]) st' → _ := fun st' put => word_good W hn hnew new_sk (by omega) put
      refine ⟨.ref yd, .ref p6, st, .word "new" [(n, 1), (n, 0 - 1)], rfl, DcAt_same s121 (DcAt_same s1 hy), .tup (SqT.of upd_same) (.cons (.str _) (.cons (.str _) (.cons (Dp_same s21 _ dw) .nil))), ⟨by show 2 ≤ 12; decide, ?_⟩, nd, by omega, ⟨new_ok, ?_, fun st' put => ⟨_, _, _, _, gw st' put⟩⟩, fun t5 st5 H22 s22 ht5 put => ?_⟩
      · intro l hl
        rcases List.mem_cons.mp hl with rfl | hl
        · exact .inl rfl
        · rw [List.mem_singleton.mp hl]; exact .inr rfl
      · intro l hl
        rcases List.mem_cons.mp hl with rfl | hl
        · exact .inr hn
        · rw [List.mem_singleton.mp hl]; exact .inr hn
      have g5 := gw st5 put
      have new5 : ("new" : Str) ∈ keysOf st5 := (put.keys _).mpr (.inl rfl)
      have n5 : n ∈ keysOf st5 := (put.keys _).mpr (.inr hn)
      refine ⟨_, rfl, t5, "new", st5, _, _, _, _, rfl, ht5, g5, new5, fun y5 H23 s23 dy5 => ?_⟩
      rw [if_pos rfl] at dy5
      refine ⟨by show 4 ≤ sizeLine; decide, fun p7 hp7 => ?_⟩
      have s24 := Same.new (o := .tup [.int 1, .int 0, .int 0, .int 1]) hp7
      refine ⟨mvD idle, mvD idle, Dp_same s24 _ dy5, mk_mv (m := idle) (SqT.of upd_same), rfl, rfl, false, by rw [eqv_self (shaped_mv idle)]; rfl, iteF ?_⟩
      have s2224 := s23.trans s24
      refine ⟨_, rfl, t5, st5, "new", rfl, DcAt_same s2224 ht5, new5, g5.small, fun ys6 p8 H25 hp8 s25 hy6 _ em6 => ?_⟩
      have e6 : ys6 = [] := by
        cases ys6 with
        | nil => rfl
        | cons a _ =>
          have := g5.hrank ((em6 a).mp List.mem_cons_self)
          rw [if_pos rfl] at this
          have r5 := W.rk a
          split at this <;> omega
      subst e6
      refine ⟨Nat.zero_le _, fun q hq => ⟨.list [], .list [], .lst (SqL.of (Same.new hq _ _ hy6)) .nil, .lst (SqL.of upd_same) .nil, rfl, rfl, false, rfl, iteF ?_⟩⟩
      have s26 := (s2224.trans s25).trans (Same.new (o := .lst []) hq)
      refine ⟨_, rfl, _, rfl, t5, st5, n, rfl, DcAt_same s26 ht5, n5, g5.small, fun ys7 p9 H27 hp9 s27 hy7 _ em7 => ?_⟩
      have hang : ("new" : Str) ∈ ys7 := (em7 _).mpr (.base ⟨.wd [(n, 1), (n, 0 - 1)], by rw [put.lk, if_pos rfl], List.mem_cons_self⟩)
      refine ⟨p9, _, rfl, .inl (SqL.of hy7), rfl, flat_strs _, false, ?_, iteF ?_⟩
      · show V.bl (if true = true then !inV (.str "new") (ys7.map V.str) else inV (.str "new") (ys7.map V.str)) = _
        rw [if_pos rfl, inV_strs, decide_eq_true hang]
        rfl
      exact ⟨_, _, _, _, _, _, _, rfl, (((s121.trans s22).trans s26).trans s27)⟩
    · rintro σ' H' ⟨o3, o4, o5, o6, o7, o8, o9, rfl, s2⟩
      exact k _ (s1.trans s2)
end
end Bk
set_option Elab.async false
set_option linter.all false
set_option maxRecDepth 100000
set_option maxHeartbeats 4000000
namespace Bk
open PySem PySem.Spec PyProof.Rows L2 Gap
def dd (n : Str) : Told → Deed
  | .mv m => .set n m
  | .wd ls => .word n ls
def tagOf : Told → Str
  | .mv _ => "set"
  | .wd _ => "word"
theorem dd_deed (n : Str) (t : Told) : deedD (dd n t) = .tuple [.str (tagOf t), .str n, partD t] := by cases t <;> rfl
theorem tag_at (t : Told) : atI [V.str "set", .str "word"] (if decide (V.str (wordOf t) = V.str "word") = true then 1 else 0) = some (.str (tagOf t)) := by
  cases t with
  | mv m =>
    have e : decide (V.str (wordOf (.mv m)) = V.str "word") = false := decide_eq_false fun z => absurd (V.str.inj z) (by show ¬ ("move" : Str) = "word"; decide +kernel)
    rw [e]
    rfl
  | wd ls =>
    have e : decide (V.str (wordOf (.wd ls)) = V.str "word") = true := decide_eq_true rfl
    rw [e]
    rfl
theorem dd_post {st st' : Stt} {n : Str} {t : Told} (h : BPost st (dd n t) st') : Put st n t st' := by
  cases t <;> exact h
theorem dd_pre {st : Stt} {n : Str} {t : Told} (nm : nameOk n) (hl : ∀ l ∈ lettersOf t, l.1 = n ∨ l.1 ∈ keysOf st) (gd : ∀ st', Put st n t st' → ∃ v w L r, Good st' v w L r) : BPre st (dd n t) := by
  cases t with
  | mv m => exact ⟨nm, gd⟩
  | wd ls => exact ⟨nm, hl, gd⟩
theorem dd_form {st : Stt} {r : Str → Nat} {B : Nat} {n : Str} {t : Told} (W : Wf st r B) (hB : B ≤ 8000) (e : st.lookup n = some t) : DForm (dd n t) := by
  cases t with
  | mv m => exact ⟨(W.mv n m e).1, B, (W.mv n m e).2, hB⟩
  | wd ls => exact ⟨Nat.le_trans (W.ll n _ e) (by decide), fun l hl => (W.cl n _ e l hl).2.1⟩
section
variable {P : Program} {w : World} {K : PySem.W.Frag} {mg : Str → Option Value} {base : Heap} {CA : Addr}
abbrev s__law_set_right : Stmt := (topS 69)
abbrev N__law_set_right : List Str := ["_law_source", "_law_state", "_law_name", "_law_told", "_law_before", "_law_later", "_law_free", "_law_back", "_law_one"]
abbrev P__law_set_right : List Str := ["_law_source", "_law_state"]
theorem sc__law_set_right : FnScope N__law_set_right P__law_set_right (defScope s__law_set_right) := ⟨rfl, rfl, rfl, by decide +kernel, rfl, by decide +kernel, by decide +kernel⟩
def spSetR (K : PySem.W.Frag) : Sp := fun vs H Q _ => ∃ (s c : Addr) (y : V) (st : Stt) (r : Str → Nat), vs = [.ref s, y] ∧ Src H s c ∧ StAt K H y st ∧ Drawn st r ∧ ∀ H', Src H' s c → SameC s c H H' → Q (.bl true) H'
theorem ok_setR (F : At K mg "_law_set_right" s__law_set_right P__law_set_right) (C : Gs K mg) (D__law_all_values : Df P w K mg base 6 "_law_all_values" P__law_all_values (spAll K)) (D_behind : Df P w K mg base 7 "behind" P_behind (spBehind K)) (D__law_draw_small : Df P w K mg base 2 "_law_draw_small" P__law_draw_small (spSmall K))
    (D_hanging : Df P w K mg base 4 "hanging" P_hanging (spHanging K)) : Df P w K mg base 8 "_law_set_right" P__law_set_right (spSetR K) := by
  refine F.ok sc__law_set_right (fun vs H Q E h => ?_) (fun f cdv A outer s H vs Q E hr h => ?_)
  · obtain ⟨s, c, y, st, r, rfl, _⟩ := h
    rfl
  · obtain ⟨s, c, y, st, r, rfl, hs, hy, dr, k⟩ := h
    have hu := hu_of hr
    refine ⟨_, (pss_cons (ps_for PassesOwn.never rfl (pi_keys (pv 1)) (pg_name (i := 2) sc__law_set_right.nd rfl (Or.inl rfl)) (pss_cons (ps_set (i := 3) sc__law_set_right.nd rfl (Or.inl rfl) (pe_df D_behind (hr.mono (by decide)) (pa_cons (pv 1) (pa_cons (pe_tup (pa_cons pe_str (pa_cons (pv 2) (pa_cons (pe_df D__law_draw_small (hr.mono (by decide)) (pa_cons (pv 0) pa_nil)) pa_nil)))) pa_nil)))) (pss_cons (ps_asg (pe_tup (pa_cons (pe_df D__law_all_values (hr.mono (by decide)) (pa_cons (pv 1) pa_nil)) (pa_cons (pe_df D__law_all_values (hr.mono (by decide)) (pa_cons (pv 3) pa_nil)) (pa_cons (pe_op op_cat (pe_df D_hanging (hr.mono (by decide)) (pa_cons (pv 1) (pa_cons (pv 2) pa_nil))) (pe_lst (pa_cons (pv 2) pa_nil))) pa_nil)))) (k_pg_tup (K := K) rfl rfl (pgs_cons (pg_name (i := 4) sc__law_set_right.nd rfl (Or.inr rfl)) (pgs_cons (pg_name (i := 5) sc__law_set_right.nd rfl (Or.inr rfl)) (pgs_cons (pg_name (i := 6) sc__law_set_right.nd rfl (Or.inr rfl)) pgs_nil))))) (pss_cons (ps_if (pt_cmpR (k_neD (K := K) rfl hr.units64) (pe_lc (own := [("_law_one", 8)]) (g := gName 8) rfl sc__law_set_right.nd (pi_keys (pv 1)) (blkOk_by (own := [("_law_one", 8)]) (N := N__law_set_right) (sc := (defScope s__law_set_right)) (by decide +kernel)) (fun _ _ _ _ _ => (pg_name (i := 8) sc__law_set_right.nd rfl (Or.inl rfl))) (fun _ _ _ _ _ => (pts_one (PW.pt (pw_and (pt_cmpR (k_notIn_seq (K := K) rfl) (pv 8) (pv 6) (by rfl)) (pw_and1 (pt_cmpR (k_neD (K := K) rfl hr.units64) (pe_dget hu (pv 4) (pv 8) (fun _ _ => rfl)) (pe_dget hu (pv 5) (pv 8) (fun _ _ => rfl)) (nomark _))))))) (fun _ _ _ _ _ => (pv 8))) (pe_lst pa_nil) (nomark _)) (pss_one (ps_ret pe_bl)) pss_nil) (pss_cons (ps_set (i := 7) sc__law_set_right.nd rfl (Or.inl rfl) (pe_df D_behind (hr.mono (by decide)) (pa_cons (pv 3) (pa_cons (pe_tup (pa_cons (pe_ix (k_ix_list (K := K) rfl) (pe_lst (pa_cons pe_str (pa_cons pe_str pa_nil))) (pe_callTy call_int1 (by rfl) C.b_int (by decide +kernel) (pa_cons (pe_cmpR op_eq (pe_ix (k_ix_tup (K := K) rfl) (pe_dget hu (pv 1) (pv 2) (fun _ _ => rfl)) pe_int (fun _ _ => rfl)) pe_str (nomark _)) pa_nil)) (fun _ _ => rfl)) (pa_cons (pv 2) (pa_cons (pe_ix (k_ix_tup (K := K) rfl) (pe_dget hu (pv 1) (pv 2) (fun _ _ => rfl)) pe_int (fun _ _ => rfl)) pa_nil)))) pa_nil)))) (pss_one (ps_if (pt_cmpR (k_neDD (K := K) rfl hr.units65) (pv 7) (pv 1) (nomark _)) (pss_one (ps_ret pe_bl)) pss_nil))))))) (pss_one (ps_ret pe_bl))), ?_⟩
    have W := dr.wf
    have g := W.good (by decide)
    have nd := W.nd
    have l6 := dr.n6
    obtain ⟨yd, ody, kvy, rfl, hyd, ry⟩ := id hy
    have eky : kvy.map (·.1) = (keysOf st).map Sum.inr := by have := ry.keys; rw [stD_keys] at this; exact this
    have ysl : (keysOf st).length ≤ 6 := by rw [List.length_map]; exact l6
    refine ⟨_, rfl, yd, ody, rfl, .inl ⟨kvy, hyd, ?_⟩⟩
    refine for_it (wk_keys eky) (fun i σ' H' => ∃ (o2 o3 o4 o5 o6 o7 : Option V), σ' = [some (.ref s), some (.ref yd), o2, o3, o4, o5, o6, o7, none] ∧ Src H' s c ∧ SameC s c H H') ⟨none, none, none, none, none, none, rfl, hs, SameC.refl _ _ _⟩ (fun i σ' H' _ ⟨_, _, _, _, _, _, _, _, h⟩ => (hs.keep h) _ _ hyd rfl) ?_ ?_
    · rintro i z σ' Hz H2 hi ⟨o2, o3, o4, o5, o6, o7, rfl, hs2, sm2⟩ ⟨rfl, n, en, rfl⟩
      have hn : n ∈ keysOf st := List.mem_of_getElem? en
      obtain ⟨t, et⟩ := of_key hn
      refine ⟨_, rfl, _, rfl, _, rfl, s, c, rfl, hs2, fun m u H3 mo mb du hs3 sm3 => ⟨by show 3 ≤ sizeLine; decide, fun p hp => ?_⟩⟩
      have s4 := Same.new (o := .tup [.str "set", .str n, u]) hp
      have sm23 := sm2.trans sm3
      have hy3 : StAt K H3 (.ref yd) st := DcAt_keep (hs.keep sm23) (still_st st) hy
      have hy4 : StAt K (upd H3 p (.tup [.str "set", .str n, u])) (.ref yd) st := DcAt_same s4 hy3
      have wst : ∀ st', Put st n (.mv m) st' → Wf st' r 2 := fun st' put => W.put (Nat.le_refl _) hn put mo mb
      refine ⟨.ref yd, .ref p, st, .set n m, rfl, hy4, .tup (SqT.of upd_same) (.cons (.str _) (.cons (.str _) (.cons (Dp_same s4 _ du) .nil))), ⟨mo, 2, mb, by decide⟩, nd, by omega, ⟨dr.nm hn, fun st' put => ⟨_, _, _, _, (wst st' put).good (by decide)⟩⟩, fun z st2 H5 s5 hz put => ?_⟩
      have W2 := wst st2 put
      have g2 := W2.good (by decide)
      have hy5 := DcAt_same s5 hy4
      refine ⟨_, rfl, .ref yd, st, _, _, _, _, rfl, hy5, g, fun os b H6 pm s6 hb => ?_⟩
      refine ⟨_, rfl, z, st2, _, _, _, _, rfl, DcAt_same s6 hz, g2, fun os2 b2 H7 pm2 s7 hb2 => ?_⟩
      have s57 := s6.trans s7
      refine ⟨_, rfl, _, rfl, .ref yd, st, n, rfl, DcAt_same s57 hy5, hn, g.small, fun ys p8 H8 hp8 s8 hys ndy em => ?_⟩
      have yl : ys.length ≤ 6 := Nat.le_trans (nd_len nd ndy fun x hx => ((em x).mp hx).key) l6
      refine ⟨_, rfl, by show 1 ≤ sizeLine; decide, fun l9 hl9 => ⟨p8, l9, _, _, rfl, rfl, Same.new hl9 _ _ hys, upd_same, ?_, fun lf hlf => ?_⟩⟩
      · rw [List.length_map]
        exact Nat.le_trans (show ys.length + 1 ≤ 7 by omega) (by decide)
      have s9 := (Same.new (o := .lst [.str n]) hl9).trans (Same.new (o := .lst (ys.map V.str ++ [.str n])) hlf)
      have hf9 : (upd (upd H8 l9 (.lst [.str n])) lf (.lst (ys.map V.str ++ [.str n]))) lf = some (.lst ((ys ++ [n]).map V.str)) := by rw [upd_same, List.map_append]; rfl
      generalize upd (upd H8 l9 (.lst [.str n])) lf (.lst (ys.map V.str ++ [.str n])) = H9 at s9 hf9 ⊢
      refine ⟨by show 3 ≤ sizeLine; decide, fun pt hpt => ⟨pt, _, rfl, SqT.of upd_same, rfl, _, _, rfl, _, _, rfl, _, _, rfl, rfl, ?_⟩⟩
      have s10 : Same H9 (upd H9 pt (.tup [b, b2, .ref lf])) := Same.new hpt
      generalize upd H9 pt (.tup [b, b2, .ref lf]) = H10 at s10 ⊢
      have hf10 := s10 _ _ hf9
      have s710 := (s8.trans s9).trans s10
      have s510 := s57.trans s710
      have hy10 := DcAt_same s510 hy5
      have hz10 := DcAt_same s510 hz
      have hb10 := DcAt_same (s7.trans s710) hb
      have hb210 := DcAt_same s710 hb2
      have yd10 : H10 yd = some (.frz ody (.dK kvy)) := s510 _ _ (s5 _ _ (s4 _ _ ((hs.keep sm23) _ _ hyd rfl)))
      refine ⟨_, rfl, yd, ody, rfl, .inl ⟨kvy, yd10, fun D hD => lc_pure (K := K) hD (wk_keys eky) (fun _ => false) (fun k => PyData.str k) (by omega) (fun H' s => s _ _ yd10) (fun _ _ _ => rfl) ?_ ?_⟩⟩
      · rintro x1 k H11 Kt Kf rfl mem s11 k1 k2
        refine ⟨rfl, _, rfl, _, rfl, lf, _, rfl, .inl (SqL.of (s11 _ _ hf10)), rfl, flat_strs _, _, rfl, ?_⟩
        show if (if true = true then !inV (.str k) ((ys ++ [n]).map V.str) else inV (.str k) ((ys ++ [n]).map V.str)) = true then _ else _
        rw [if_pos rfl, inV_strs]
        refine ite2 (fun e => ?_) (fun e => iteF (k2 rfl _ (Same.refl _)))
        have nin : k ∉ ys ++ [n] := by simpa using e
        have ne : k ≠ n := fun z => nin (List.mem_append_right _ (by rw [z]; exact List.mem_singleton_self _))
        have nh : ¬ Hangs st n k := fun z => nin (List.mem_append_left _ ((em k).mpr z))
        have k2' : k ∈ keysOf st2 := (put.keys k).mpr (.inr mem)
        obtain ⟨a1, u1, rfl, hg1, du1⟩ := (DcAt_same s11 hb10).get (lookup_mapf (fun n => mvD (valS st n)) (pm.mem_iff.mpr mem))
        obtain ⟨a2, u2, rfl, hg2, du2⟩ := (DcAt_same s11 hb210).get (lookup_mapf (fun n => mvD (valS st2 n)) (pm2.mem_iff.mpr k2'))
        refine ⟨_, rfl, _, rfl, a1, u1, rfl, hg1, _, rfl, _, rfl, a2, u2, rfl, hg2, _, _, du1, du2, shaped_mv _, shaped_mv _, false, ?_, iteF (k2 rfl _ (Same.refl _))⟩
        rw [set_vals W W2 put mem ne nh, eqv_self (shaped_mv _)]
        rfl
      intro zs H11 s11 hz11 dz
      have ez : zs = [] := by
        have e0 : (keysOf st).filter (fun _ => false) = [] := List.filter_eq_nil_iff.mpr (fun _ _ => by decide)
        rw [e0] at dz
        cases dz
        rfl
      subst ez
      refine ⟨Nat.zero_le _, fun q hq => ⟨.list [], .list [], .lst (SqL.of (Same.new hq _ _ hz11)) .nil, .lst (SqL.of upd_same) .nil, rfl, rfl, false, rfl, iteF ?_⟩⟩
      have s12 : Same H10 (upd H11 q (.lst [])) := s11.trans (Same.new hq)
      generalize upd H11 q (.lst []) = H12 at s12 ⊢
      -- back again
      refine ⟨_, rfl, by show 2 ≤ sizeLine; decide, fun l5 hl5 => ?_⟩
      have s13 : Same H12 (upd H12 l5 (.lst [.str "set", .str "word"])) := Same.new hl5
      have hl13 : (upd H12 l5 (.lst [.str "set", .str "word"])) l5 = some (.lst [.str "set", .str "word"]) := upd_same
      generalize upd H12 l5 (.lst [.str "set", .str "word"]) = H13 at s13 hl13 ⊢
      have s1013 := s12.trans s13
      have hy13 := DcAt_same s1013 hy10
      obtain ⟨_, u3, e0, hg3, du3⟩ := StAt.get hy13 et
      cases e0
      obtain ⟨a3, y3, rfl, ha3, dy3⟩ := dp_told du3
      refine ⟨_, rfl, _, rfl, yd, _, rfl, hg3, a3, _, _, _, rfl, rfl, ha3, atI_nat (j := 0) rfl, rfl, .inr ⟨_, rfl, l5, _, _, _, rfl, rfl, SqL.of hl13, tag_at t, ?_⟩⟩
      refine ⟨_, rfl, _, rfl, _, rfl, yd, _, rfl, hg3, a3, _, _, _, rfl, rfl, ha3, atI_nat (j := 1) rfl, by show 3 ≤ sizeLine; decide, fun p14 hp14 => ?_⟩
      have s14 := Same.new (o := .tup [.str (tagOf t), .str n, y3]) hp14
      have s1014 := s1013.trans s14
      have lkb : ∀ st', Put st2 n t st' → ∀ x, st'.lookup x = st.lookup x := fun st' p2 x => by
        rw [p2.lk, put.lk]
        by_cases e : x = n
        · rw [if_pos e, e, et]
        · rw [if_neg e, if_neg e]
      have d14 : Dp K (upd H13 p14 (.tup [.str (tagOf t), .str n, y3])) (.ref p14) (deedD (dd n t)) := by
        rw [dd_deed]
        exact .tup (SqT.of upd_same) (.cons (.str _) (.cons (.str _) (.cons (Dp_same s14 _ dy3) .nil)))
      refine ⟨z, .ref p14, st2, dd n t, rfl, DcAt_same s1014 hz10, d14, dd_form W (by decide) et, put.nd, by have := W2.n12; omega, dd_pre (dr.nm hn) (fun l hl => .inr ((put.keys _).mpr (.inr (W.cl n t et l hl).1))) (fun st' p2 => ⟨_, _, _, _, (W.congr p2.nd (lkb st' p2)).good (by decide)⟩), fun z3 st3 H15 s15 hz3 post => ?_⟩
      have p3 := dd_post post
      have s1015 := s1014.trans s15
      refine ⟨_, rfl, _, rfl, ?_⟩
      refine eqDD_st W hz3 (DcAt_same s1015 hy10) p3.nd (lkb _ p3) ⟨_, rfl, iteF ?_⟩
      have sEnd := s4.trans (s5.trans (s510.trans s1015))
      exact ⟨_, _, _, _, _, _, rfl, hs3.same sEnd, sm23.trans (SameC.of sEnd)⟩
    · rintro σ' H' ⟨o2, o3, o4, o5, o6, o7, rfl, hs2, sm2⟩
      exact k _ hs2 sm2
end
end Bk
set_option Elab.async false
set_option linter.all false
set_option maxRecDepth 100000
set_option maxHeartbeats 4000000
namespace Bk
open PySem PySem.Spec PyProof.Rows L2 Gap
/-! ### the house of the law -/
abbrev sixH : List Str := ["a", "b", "c", "d", "e", "f"]
theorem sixH_ok : ∀ n ∈ sixH, nameOk n := by unfold nameOk; decide +kernel
theorem sixH_sk : ∀ n ∈ sixH, PyData.strOk n = true := by decide +kernel
/-- a state tells what a table tells -/
def Is (st : Stt) (T : Stt) : Prop := ∀ x, st.lookup x = T.lookup x
theorem lookup_append (A B : Stt) (x : Str) : (A ++ B).lookup x = (A.lookup x).or (B.lookup x) := by
  induction A with
  | nil => rfl
  | cons p r ih =>
    obtain ⟨p1, p2⟩ := p
    rw [List.cons_append, List.lookup_cons, List.lookup_cons]
    cases x == p1 with
    | true => rfl
    | false => exact ih
theorem Is.put {st st' T : Stt} {n : Str} {t : Told} (h : Is st T) (p : Put st n t st') (hn : n ∉ keysOf T) : Is st' (T ++ [(n, t)]) := fun x => by
  rw [p.lk, lookup_append, h x]
  by_cases e : x = n
  · rw [if_pos e, e, lookup_none hn, List.lookup_cons, beq_self_eq_true]
    rfl
  · rw [if_neg e, List.lookup_cons, str_ne e]
    cases T.lookup x <;> rfl
theorem Is.keys {st T : Stt} (h : Is st T) (x : Str) : x ∈ keysOf st ↔ x ∈ keysOf T := by rw [key_iff, key_iff, h x]
def okE (n0 n1 : Str) (p : Str × Told) : Prop := p.1 ∈ sixH ∧ (∀ m, p.2 = .mv m → m.ok ∧ bnd m 2) ∧ (lettersOf p.2).length ≤ 3 ∧ (∀ l ∈ lettersOf p.2, (l.1 = n0 ∨ l.1 = n1) ∧ (l.2 = 1 ∨ l.2 = -1) ∧ p.1 ≠ n0 ∧ p.1 ≠ n1)
def rkH (n0 n1 : Str) (x : Str) : Nat := if x = n0 ∨ x = n1 then 0 else 1
structure OkT (n0 n1 : Str) (T : Stt) : Prop where
  nd : (keysOf T).Nodup
  len : T.length ≤ 6
  e : ∀ p ∈ T, okE n0 n1 p
  base : (∀ p ∈ T, lettersOf p.2 = []) ∨ (n0 ∈ keysOf T ∧ n1 ∈ keysOf T)
theorem OkT.wf {n0 n1 : Str} {st T : Stt} (h : OkT n0 n1 T) (i : Is st T) (nd : (keysOf st).Nodup) : Wf st (rkH n0 n1) 2 := by
  have ent : ∀ {n t}, st.lookup n = some t → (n, t) ∈ T := fun e => lookup_mem (by rw [← i]; exact e)
  have ln : st.length = T.length := len_of_keys nd h.nd i.keys
  refine ⟨nd, by have := h.len; omega, fun n hn => ?_, fun n t e l hl => ?_, fun n t e => (h.e _ (ent e)).2.2.1, fun n m e => (h.e _ (ent e)).2.1 m rfl, fun n => ?_⟩
  · obtain ⟨t, e⟩ := of_key hn
    exact sixH_sk n (h.e _ (ent e)).1
  · obtain ⟨a, b, c1, c2⟩ := (h.e _ (ent e)).2.2.2 l hl
    have hk : l.1 ∈ keysOf st := by
      rw [i.keys]
      rcases h.base with z | ⟨z0, z1⟩
      · have := z _ (ent e)
        rw [this] at hl
        cases hl
      · rcases a with a | a <;> rw [a] <;> assumption
    refine ⟨hk, b, ?_⟩
    unfold rkH
    rw [if_pos a, if_neg (fun z => z.elim c1 c2)]
    decide
  · unfold rkH
    split <;> decide
theorem OkT.good {n0 n1 : Str} {st T : Stt} (h : OkT n0 n1 T) (i : Is st T) (nd : (keysOf st).Nodup) : ∃ v w L r, Good st v w L r := ⟨_, _, _, _, (h.wf i nd).good (by decide)⟩
theorem OkT.shp {n0 n1 : Str} {st T : Stt} (h : OkT n0 n1 T) (i : Is st T) (nd : (keysOf st).Nodup) (n : Str) : SeqAt.shaped (oD (st.lookup n)) = true := by
  cases e : st.lookup n with
  | none => rfl
  | some t =>
    refine shaped_told fun z hz => ?_
    obtain ⟨l, hl, rfl⟩ := List.mem_map.mp hz
    have W := h.wf i nd
    exact W.sk _ (W.cl n t e l hl).1
theorem Src.sameX {H H' : Hp} {s c p : Addr} {dx : Addr} {fs : List (Str × V)} {C : Addr} (h : Src H s c) (hp : H p = some (.ins C dx fs)) (e : SameX p H H') : Src H' s c := by
  obtain ⟨ns, l, m, t, h1, h2⟩ := h
  refine ⟨ns, l, m, t, e _ _ ?_ h1, e _ _ ?_ h2⟩
  · intro z; subst z; rw [hp] at h1; cases h1
  · intro z; subst z; rw [hp] at h2; cases h2
theorem HouseAt.sameC {K : PySem.W.Frag} {CA : Addr} {H H' : Hp} {p s c : Addr} {hs : Hs} (h : HouseAt K CA H p hs) (S : Src H s c) (e : SameC s c H H') : HouseAt K CA H' p hs := by
  obtain ⟨dx, a1, a2, a3, a4, vs, ds, h1, _⟩ := id h.ex
  obtain ⟨ns, l, m, t, q1, q2⟩ := id S
  refine h.keep (S.keep e) ((e p _ ?_ ?_ h1).trans h1.symm)
  · intro z; subst z; rw [h1] at q1; cases q1
  · intro z; subst z; rw [h1] at q2; cases q2
theorem HouseAt.other {K : PySem.W.Frag} {CA : Addr} {H H' : Hp} {p q : Addr} {hs hq : Hs} (h : HouseAt K CA H p hs) (hh : HouseAt K CA H q hq) (ne : p ≠ q) (e : SameX q H H') : HouseAt K CA H' p hs := by
  obtain ⟨dx, a1, a2, a3, a4, vs, ds, h1, _⟩ := id h.ex
  obtain ⟨dx', b1, b2, b3, b4, vs', ds', g1, _⟩ := id hh.ex
  exact h.keep (e.keep g1 rfl) ((e p _ ne h1).trans h1.symm)
theorem HouseAt.ins {K : PySem.W.Frag} {CA : Addr} {H : Hp} {p : Addr} {hs : Hs} (h : HouseAt K CA H p hs) : ∃ dx a1 a2 a3 a4, H p = some (.ins CA dx (fl a1 a2 a3 a4 hs.stand)) := by
  obtain ⟨dx, a1, a2, a3, a4, vs, ds, h1, _⟩ := id h.ex
  exact ⟨dx, a1, a2, a3, a4, h1⟩
/-- a deed done, and what it asks -/
theorem do_core {K : PySem.W.Frag} {CA : Addr} {H H0 : Hp} {Q : VK} {E : XK} {p s c : Addr} {hs : Hs} {wy : Wy} {j : Nat} {st T : Stt} {n n0 n1 : Str} {t : Told} {u : V} (hh : HouseAt K CA H p hs) (S : Src H s c) (k0 : Keep H0 H)
    (l1 : hs.sts.length ≤ 100) (l2 : hs.els.length ≤ 100) (l3 : hs.ways.length ≤ 1000) (hw : wayOf hs hs.stand = some wy) (hj : wy.tr[wy.pl]? = some (j : Int)) (l4 : wy.tr.length ≤ 1000) (hst : hs.sts[j]? = some st)
    (i : Is st T) (nd : (keysOf st).Nodup) (hn : n ∉ keysOf T) (ok : OkT n0 n1 (T ++ [(n, t)])) (du : Dp K H u (deedD (dd n t)))
    (k : ∀ st' H', (keysOf st').Nodup → Is st' (T ++ [(n, t)]) → Src H' s c → Keep H0 H' → HouseAt K CA H' p (madeHs hs wy st' [(j : Int)]) → Q (.int (hs.sts.length : Int)) H') : spDo K CA [.ref p, u] H Q E := by
  obtain ⟨dx, a1, a2, a3, a4, h1⟩ := hh.ins
  have okn := ok.e (n, t) (List.mem_append_right _ (List.mem_singleton_self _))
  have good : ∀ st', Put st n t st' → ∃ v w L r, Good st' v w L r := fun st' put => ok.good (i.put put hn) put.nd
  have len6 : T.length ≤ 6 := by have := ok.len; rw [List.length_append] at this; omega
  have ndT : (keysOf T).Nodup := by
    have := ok.nd
    rw [keysOf, List.map_append] at this
    exact (List.nodup_append.mp this).1
  have len : st.length ≤ 6 := by rw [len_of_keys nd ndT i.keys]; exact len6
  have df : DForm (dd n t) := by
    cases t with
    | mv m => exact ⟨(okn.2.1 m rfl).1, 2, (okn.2.1 m rfl).2, by decide⟩
    | wd ls => exact ⟨Nat.le_trans okn.2.2.1 (by decide), fun l hl => (okn.2.2.2 l hl).2.1⟩
  have letK : ∀ l ∈ lettersOf t, l.1 = n ∨ l.1 ∈ keysOf st := fun l hl => by
    obtain ⟨a, b, c1, c2⟩ := okn.2.2.2 l hl
    rcases ok.base with z | ⟨z0, z1⟩
    · have := z (n, t) (List.mem_append_right _ (List.mem_singleton_self _))
      rw [this] at hl
      cases hl
    · have f : ∀ x, x ∈ keysOf (T ++ [(n, t)]) → x = n ∨ x ∈ keysOf st := fun x hx => by
        rw [keysOf, List.map_append] at hx
        rcases List.mem_append.mp hx with h | h
        · exact .inr ((i.keys x).mpr h)
        · exact .inl (List.mem_singleton.mp h)
      rcases a with a | a <;> rw [a] <;> exact f _ (by assumption)
  refine ⟨p, hs, u, st, wy, j, dd n t, rfl, hh, l1, l2, l3, hw, hj, l4, hst, du, df, nd, by omega, dd_pre (sixH_ok n okn.1) letK good, fun st' H' post sx hh' => ?_⟩
  have put := dd_post post
  exact k st' H' put.nd (i.put put hn) (S.sameX h1 sx) (k0.trans (sx.keep h1 rfl)) hh'
end Bk
set_option Elab.async false
set_option linter.all false
set_option maxRecDepth 100000
set_option maxHeartbeats 4000000
namespace Bk
open PySem PySem.Spec PyProof.Rows L2 Gap
theorem nd_snoc {T : Stt} {n : Str} {t : Told} (nd : (keysOf T).Nodup) (hn : n ∉ keysOf T) : (keysOf (T ++ [(n, t)])).Nodup := by
  have e : keysOf (T ++ [(n, t)]) = keysOf T ++ [n] := by rw [keysOf, List.map_append]; rfl
  rw [e]
  exact List.nodup_append.mpr ⟨nd, List.pairwise_singleton _ _, fun a ha b hb e => hn (by rw [← List.mem_singleton.mp hb, ← e]; exact ha)⟩
theorem OkT.mv {n0 n1 n : Str} {T : Stt} {m : Mv} (h : OkT n0 n1 T) (b : ∀ p ∈ T, lettersOf p.2 = []) (hn : n ∉ keysOf T) (h6 : n ∈ sixH) (l : T.length ≤ 5) (mo : m.ok) (mb : bnd m 2) : OkT n0 n1 (T ++ [(n, .mv m)]) := by
  refine ⟨nd_snoc h.nd hn, by rw [List.length_append]; exact Nat.succ_le_succ l, fun p hp => ?_, .inl fun p hp => ?_⟩
  · rcases List.mem_append.mp hp with z | z
    · exact h.e p z
    · rw [List.mem_singleton.mp z]
      exact ⟨h6, (fun m' e => by cases e; exact ⟨mo, mb⟩), Nat.zero_le _, (fun l hl => nomatch hl)⟩
  · rcases List.mem_append.mp hp with z | z
    · exact b p z
    · rw [List.mem_singleton.mp z]; rfl
theorem OkT.wd {n0 n1 n : Str} {T : Stt} {ls : List (Str × Int)} (h : OkT n0 n1 T) (b0 : n0 ∈ keysOf T) (b1 : n1 ∈ keysOf T) (hn : n ∉ keysOf T) (h6 : n ∈ sixH) (l : T.length ≤ 5) (l3 : ls.length ≤ 3) (hl : ∀ l ∈ ls, l.1 ∈ [n0, n1] ∧ (l.2 = 1 ∨ l.2 = -1)) : OkT n0 n1 (T ++ [(n, .wd ls)]) := by
  have kk : ∀ x, x ∈ keysOf T → x ∈ keysOf (T ++ [(n, .wd ls)]) := fun x hx => by rw [keysOf, List.map_append]; exact List.mem_append_left _ hx
  refine ⟨nd_snoc h.nd hn, by rw [List.length_append]; exact Nat.succ_le_succ l, fun p hp => ?_, .inr ⟨kk _ b0, kk _ b1⟩⟩
  · rcases List.mem_append.mp hp with z | z
    · exact h.e p z
    · rw [List.mem_singleton.mp z]
      refine ⟨h6, (fun m' e => nomatch e), l3, fun l hl' => ?_⟩
      obtain ⟨a, b⟩ := hl l hl'
      refine ⟨?_, b, fun z => hn (by rw [show n = n0 from z]; exact b0), fun z => hn (by rw [show n = n1 from z]; exact b1)⟩
      rcases List.mem_cons.mp a with a | a
      · exact .inl a
      · exact .inr (List.mem_singleton.mp a)
theorem OkT.nil (n0 n1 : Str) : OkT n0 n1 [] := ⟨.nil, Nat.zero_le _, (fun _ h => nomatch h), .inl (fun _ h => nomatch h)⟩
theorem set_step {K : PySem.W.Frag} {CA : Addr} {H : Hp} {Q : VK} {p s c : Addr} {hs : Hs} {wy : Wy} {j : Nat} {st T : Stt} {n n0 n1 : Str} {va : V} {o2 o3 o5 o7 o8 : Option V} (hh : HouseAt K CA H p hs) (S : Src H s c)
    (l1 : hs.sts.length ≤ 100) (l2 : hs.els.length ≤ 100) (l3 : hs.ways.length ≤ 1000) (hw : wayOf hs hs.stand = some wy) (hj : wy.tr[wy.pl]? = some (j : Int)) (l4 : wy.tr.length ≤ 1000) (hst : hs.sts[j]? = some st)
    (i : Is st T) (nd : (keysOf st).Nodup) (hn : n ∉ keysOf T) (ok : ∀ m, m.ok → bnd m 2 → OkT n0 n1 (T ++ [(n, .mv m)]))
    (k : ∀ m st' H', OkT n0 n1 (T ++ [(n, .mv m)]) → (keysOf st').Nodup → Is st' (T ++ [(n, .mv m)]) → Src H' s c → Keep H H' → HouseAt K CA H' p (madeHs hs wy st' [(j : Int)]) → Q (.int (hs.sts.length : Int)) H') :
    tMd CA "do" (spDo K CA) (tVar 4) (tCons (tTup (tCons (tC (.str "set")) (tCons (tVar 6) (tCons (tDf (spSmall K) (tCons (tVar 1) tNil)) tNil)))) tNil) [some va, some (.ref s), o2, o3, some (.ref p), o5, some (.str n), o7, o8] H Q := by
  obtain ⟨dx, a1, a2, a3, a4, h1⟩ := hh.ins
  refine ⟨_, rfl, p, dx, _, rfl, h1, fl_no (by decide +kernel), _, rfl, _, rfl, s, c, rfl, S, fun m u H3 mo mb du hs3 sm3 => ⟨by show 3 ≤ sizeLine; decide, fun q hq => ?_⟩⟩
  have s4 := Same.new (o := .tup [.str "set", .str n, u]) hq
  exact do_core (E := E0) ((hh.sameC S sm3).same s4) (hs3.same s4) ((S.keep sm3).trans (Keep.of s4)) l1 l2 l3 hw hj l4 hst i nd hn (ok m mo mb) (t := .mv m) (.tup (SqT.of upd_same) (.cons (.str _) (.cons (.str _) (.cons (Dp_same s4 _ du) .nil)))) fun st' H' => k m st' H' (ok m mo mb)
theorem word_step {K : PySem.W.Frag} {CA : Addr} {H : Hp} {Q : VK} {p s c ln : Addr} {hs : Hs} {wy : Wy} {j : Nat} {st T : Stt} {n n0 n1 n2 n3 n4 n5 : Str} {va : V} {o2 o3 o7 o8 : Option V} (hh : HouseAt K CA H p hs) (S : Src H s c) (hln : FzL H ln [n0, n1, n2, n3, n4, n5])
    (l1 : hs.sts.length ≤ 100) (l2 : hs.els.length ≤ 100) (l3 : hs.ways.length ≤ 1000) (hw : wayOf hs hs.stand = some wy) (hj : wy.tr[wy.pl]? = some (j : Int)) (l4 : wy.tr.length ≤ 1000) (hst : hs.sts[j]? = some st)
    (i : Is st T) (nd : (keysOf st).Nodup) (hn : n ∉ keysOf T) (ok : ∀ ls, ls.length ≤ 3 → (∀ l ∈ ls, l.1 ∈ [n0, n1] ∧ (l.2 = 1 ∨ l.2 = -1)) → OkT n0 n1 (T ++ [(n, .wd ls)]))
    (k : ∀ ls st' H', OkT n0 n1 (T ++ [(n, .wd ls)]) → (keysOf st').Nodup → Is st' (T ++ [(n, .wd ls)]) → Src H' s c → Keep H H' → HouseAt K CA H' p (madeHs hs wy st' [(j : Int)]) → Q (.int (hs.sts.length : Int)) H') :
    tMd CA "do" (spDo K CA) (tVar 4) (tCons (tTup (tCons (tC (.str "word")) (tCons (tVar 6) (tCons (tDf (spDLet K) (tCons (tVar 1) (tCons (tFrz (tSl (rSlL K) (tVar 5) tNoPart (tPart (tC (.int 2))))) (tCons (tC (.int 3)) tNil)))) tNil)))) tNil) [some va, some (.ref s), o2, o3, some (.ref p), some (.ref ln), some (.str n), o7, o8] H Q := by
  obtain ⟨dx, a1, a2, a3, a4, h1⟩ := hh.ins
  refine ⟨_, rfl, p, dx, _, rfl, h1, fl_no (by decide +kernel), _, rfl, _, rfl, _, rfl, _, rfl, slL_take hln.seq rfl fun lz hlz => ?_⟩
  refine ⟨lz, _, rfl, upd_same, trivial, fun od2 => ?_⟩
  rw [upd_upd]
  have hz : FzL (upd H lz (.frz od2 (.lst (([n0, n1, n2, n3, n4, n5].map V.str).take 2)))) lz [n0, n1] := ⟨od2, by rw [upd_same]; rfl⟩
  have s2 : Same H (upd H lz (.frz od2 (.lst (([n0, n1, n2, n3, n4, n5].map V.str).take 2)))) := Same.new hlz
  generalize upd H lz (.frz od2 (.lst (([n0, n1, n2, n3, n4, n5].map V.str).take 2))) = H2 at hz s2 ⊢
  refine ⟨s, c, lz, [n0, n1], 3, rfl, S.same s2, hz, by show 0 < 2; decide, by show 2 ≤ 63; decide, by decide, fun ls y H3 lle lin dy hs3 sm3 => ⟨by show 3 ≤ sizeLine; decide, fun q hq => ?_⟩⟩
  have s4 := Same.new (o := .tup [.str "word", .str n, y]) hq
  exact do_core (E := E0) (((hh.same s2).sameC (S.same s2) sm3).same s4) (hs3.same s4) (((Keep.of s2).trans ((S.same s2).keep sm3)).trans (Keep.of s4)) l1 l2 l3 hw hj l4 hst i nd hn (ok ls lle lin) (t := .wd ls) (.tup (SqT.of upd_same) (.cons (.str _) (.cons (.str _) (.cons (Dp_same s4 _ dy) .nil)))) fun st' H' => k ls st' H' (ok ls lle lin)
def stg1 (K : PySem.W.Frag) (CA p : Addr) (n0 n1 : Str) : Nat → Hp → Prop
  | 0, H => HouseAt K CA H p newHs
  | 1, H => ∃ (m0 : Mv) (st1 : Stt), OkT n0 n1 [(n0, .mv m0)] ∧ (keysOf st1).Nodup ∧ Is st1 [(n0, .mv m0)] ∧ HouseAt K CA H p ⟨[[], st1], [[], [0]], [⟨"main", [0, 1], 1⟩], "main"⟩
  | _, H => ∃ (m0 m1 : Mv) (st1 st2 : Stt), OkT n0 n1 [(n0, .mv m0), (n1, .mv m1)] ∧ (keysOf st2).Nodup ∧ Is st2 [(n0, .mv m0), (n1, .mv m1)] ∧ HouseAt K CA H p ⟨[[], st1, st2], [[], [0], [1]], [⟨"main", [0, 1, 2], 2⟩], "main"⟩
theorem mk1 (st : Stt) : madeHs newHs ⟨"main", [0], 0⟩ st [0] = ⟨[[], st], [[], [0]], [⟨"main", [0, 1], 1⟩], "main"⟩ := by rfl
theorem mk2 (st1 st : Stt) : madeHs ⟨[[], st1], [[], [0]], [⟨"main", [0, 1], 1⟩], "main"⟩ ⟨"main", [0, 1], 1⟩ st [1] = ⟨[[], st1, st], [[], [0], [1]], [⟨"main", [0, 1, 2], 2⟩], "main"⟩ := by rfl
theorem mk3 (st1 st2 st : Stt) : madeHs ⟨[[], st1, st2], [[], [0], [1]], [⟨"main", [0, 1, 2], 2⟩, ⟨"side", [0, 1, 2], 2⟩], "main"⟩ ⟨"main", [0, 1, 2], 2⟩ st [2] = ⟨[[], st1, st2, st], [[], [0], [1], [2]], [⟨"main", [0, 1, 2, 3], 3⟩, ⟨"side", [0, 1, 2], 2⟩], "main"⟩ := by rfl
theorem mk4 (st1 st2 st3 st : Stt) : madeHs ⟨[[], st1, st2, st3], [[], [0], [1], [2]], [⟨"main", [0, 1, 2, 3], 3⟩, ⟨"side", [0, 1, 2], 2⟩], "main"⟩ ⟨"main", [0, 1, 2, 3], 3⟩ st [3] = ⟨[[], st1, st2, st3, st], [[], [0], [1], [2], [3]], [⟨"main", [0, 1, 2, 3, 4], 4⟩, ⟨"side", [0, 1, 2], 2⟩], "main"⟩ := by rfl
theorem mk5 (st1 st2 st3 st4 st : Stt) : madeHs ⟨[[], st1, st2, st3, st4], [[], [0], [1], [2], [3]], [⟨"main", [0, 1, 2, 3, 4], 4⟩, ⟨"side", [0, 1, 2], 2⟩], "side"⟩ ⟨"side", [0, 1, 2], 2⟩ st [2] = ⟨[[], st1, st2, st3, st4, st], [[], [0], [1], [2], [3], [2]], [⟨"main", [0, 1, 2, 3, 4], 4⟩, ⟨"side", [0, 1, 2, 5], 3⟩], "side"⟩ := by rfl
theorem mk6 (st1 st2 st3 st4 st5 st : Stt) : madeHs ⟨[[], st1, st2, st3, st4, st5], [[], [0], [1], [2], [3], [2]], [⟨"main", [0, 1, 2, 3, 4], 4⟩, ⟨"side", [0, 1, 2, 5], 3⟩], "side"⟩ ⟨"side", [0, 1, 2, 5], 3⟩ st [5] = ⟨[[], st1, st2, st3, st4, st5, st], [[], [0], [1], [2], [3], [2], [5]], [⟨"main", [0, 1, 2, 3, 4], 4⟩, ⟨"side", [0, 1, 2, 5, 6], 4⟩], "side"⟩ := by rfl
def stg2 (K : PySem.W.Frag) (CA p : Addr) (n0 n1 n2 n3 : Str) (m0 m1 : Mv) (st1 st2 : Stt) : Nat → Hp → Prop
  | 0, H => HouseAt K CA H p ⟨[[], st1, st2], [[], [0], [1]], [⟨"main", [0, 1, 2], 2⟩, ⟨"side", [0, 1, 2], 2⟩], "main"⟩
  | 1, H => ∃ (l2 : List (Str × Int)) (st3 : Stt), OkT n0 n1 [(n0, .mv m0), (n1, .mv m1), (n2, .wd l2)] ∧ (keysOf st3).Nodup ∧ Is st3 [(n0, .mv m0), (n1, .mv m1), (n2, .wd l2)] ∧ HouseAt K CA H p ⟨[[], st1, st2, st3], [[], [0], [1], [2]], [⟨"main", [0, 1, 2, 3], 3⟩, ⟨"side", [0, 1, 2], 2⟩], "main"⟩
  | _, H => ∃ (l2 l3 : List (Str × Int)) (st3 st4 : Stt), OkT n0 n1 [(n0, .mv m0), (n1, .mv m1), (n2, .wd l2), (n3, .wd l3)] ∧ (keysOf st4).Nodup ∧ Is st4 [(n0, .mv m0), (n1, .mv m1), (n2, .wd l2), (n3, .wd l3)] ∧ HouseAt K CA H p ⟨[[], st1, st2, st3, st4], [[], [0], [1], [2], [3]], [⟨"main", [0, 1, 2, 3, 4], 4⟩, ⟨"side", [0, 1, 2], 2⟩], "main"⟩
def stg3 (K : PySem.W.Frag) (CA p : Addr) (n0 n1 n4 n5 : Str) (m0 m1 : Mv) (st1 st2 st3 st4 : Stt) : Nat → Hp → Prop
  | 0, H => HouseAt K CA H p ⟨[[], st1, st2, st3, st4], [[], [0], [1], [2], [3]], [⟨"main", [0, 1, 2, 3, 4], 4⟩, ⟨"side", [0, 1, 2], 2⟩], "side"⟩
  | 1, H => ∃ (l4 : List (Str × Int)) (st5 : Stt), OkT n0 n1 [(n0, .mv m0), (n1, .mv m1), (n4, .wd l4)] ∧ (keysOf st5).Nodup ∧ Is st5 [(n0, .mv m0), (n1, .mv m1), (n4, .wd l4)] ∧ HouseAt K CA H p ⟨[[], st1, st2, st3, st4, st5], [[], [0], [1], [2], [3], [2]], [⟨"main", [0, 1, 2, 3, 4], 4⟩, ⟨"side", [0, 1, 2, 5], 3⟩], "side"⟩
  | _, H => ∃ (l4 l5 : List (Str × Int)) (st5 st6 : Stt), OkT n0 n1 [(n0, .mv m0), (n1, .mv m1), (n4, .wd l4), (n5, .wd l5)] ∧ (keysOf st6).Nodup ∧ Is st6 [(n0, .mv m0), (n1, .mv m1), (n4, .wd l4), (n5, .wd l5)] ∧ HouseAt K CA H p ⟨[[], st1, st2, st3, st4, st5, st6], [[], [0], [1], [2], [3], [2], [5]], [⟨"main", [0, 1, 2, 3, 4], 4⟩, ⟨"side", [0, 1, 2, 5, 6], 4⟩], "side"⟩
/-! ### what comes of the two sides -/
abbrev Stt.lookup' (T : Stt) (n : Str) : Option Told := T.lookup n
theorem tval_mv (m : Mv) (f : Str → Mv) : tval (.mv m) f = m := rfl
theorem eqv_nm (m : Mv) : PyData.eqv .none (mvD m) = false := rfl
theorem eqv_tn (t : Told) : PyData.eqv (toldD t) .none = false := by cases t <;> rfl
theorem eqv_nt (t : Told) : PyData.eqv .none (toldD t) = false := by cases t <;> rfl
theorem come_all (w : Option Told) (x y : Option Told) (hw : SeqAt.shaped (oD w) = true) (d : x = none ∨ y = none) : comeL w (w.or x) (w.or y) = [w.or (x.or y)] := by
  unfold comeL
  cases w with
  | some t =>
    show (if PyData.eqv (toldD t) (toldD t) = true then _ else _) = _
    rw [show PyData.eqv (toldD t) (toldD t) = true from eqv_self hw]
    rfl
  | none =>
    cases y with
    | none =>
      cases x <;> rfl
    | some u =>
      have ex : x = none := d.resolve_right (by simp)
      subst ex
      show (if PyData.eqv (toldD u) .none = true then _ else if PyData.eqv .none (toldD u) = true then _ else _) = _
      rw [eqv_tn, eqv_nt]
      rfl
theorem or_comm_none {x y : Option Told} (d : x = none ∨ y = none) : x.or y = y.or x := by
  rcases d with h | h <;> subst h <;> cases ‹Option Told› <;> rfl
theorem lookup_three (A B C : Stt) (x : Str) : (A ++ B ++ C).lookup x = (A.lookup x).or ((B.lookup x).or (C.lookup x)) := by
  rw [lookup_append, lookup_append]
  cases A.lookup x <;> rfl
/-- the two merges come to one table -/
theorem come_sides {A B C s0 s1 s2 : Stt} (i0 : Is s0 A) (i1 : Is s1 (A ++ B)) (i2 : Is s2 (A ++ C)) (sh : ∀ n, SeqAt.shaped (oD (s0.lookup n)) = true) (dj : ∀ n, B.lookup n = none ∨ C.lookup n = none) (n : Str) :
    comeL (s0.lookup n) (s1.lookup n) (s2.lookup n) = [(A ++ B ++ C).lookup n] ∧ comeL (s0.lookup n) (s2.lookup n) (s1.lookup n) = [(A ++ B ++ C).lookup n] := by
  rw [i0, i1, i2, lookup_append A B, lookup_append A C, lookup_three]
  have h := sh n
  rw [i0] at h
  refine ⟨come_all _ _ _ h (dj n), ?_⟩
  rw [come_all _ _ _ h (dj n).symm, or_comm_none (dj n)]
theorem came_is {A B C s0 s1 s2 st : Stt} (i0 : Is s0 A) (i1 : Is s1 (A ++ B)) (i2 : Is s2 (A ++ C)) (h : Came s0 s1 s2 (fun n => (A ++ B ++ C).lookup n) st) : Is st (A ++ B ++ C) := fun n => by
  by_cases hk : allK s0 s1 s2 n
  · exact h.yes n hk
  · rw [h.no n hk]
    have k1 : n ∉ keysOf (A ++ B) := fun z => hk (.inr (.inl ((i1.keys n).mpr z)))
    have k2 : n ∉ keysOf (A ++ C) := fun z => hk (.inr (.inr ((i2.keys n).mpr z)))
    refine (no_key fun z => ?_).symm
    rw [keysOf, List.map_append] at z
    rcases List.mem_append.mp z with z | z
    · exact k1 z
    · exact k2 (by rw [keysOf, List.map_append]; exact List.mem_append_right _ z)
theorem came_is' {A B C s0 s1 s2 st : Stt} (i0 : Is s0 A) (i1 : Is s1 (A ++ B)) (i2 : Is s2 (A ++ C)) (h : Came s0 s2 s1 (fun n => (A ++ B ++ C).lookup n) st) : Is st (A ++ B ++ C) := fun n => by
  by_cases hk : allK s0 s2 s1 n
  · exact h.yes n hk
  · rw [h.no n hk]
    have k1 : n ∉ keysOf (A ++ B) := fun z => hk (.inr (.inr ((i1.keys n).mpr z)))
    have k2 : n ∉ keysOf (A ++ C) := fun z => hk (.inr (.inl ((i2.keys n).mpr z)))
    refine (no_key fun z => ?_).symm
    rw [keysOf, List.map_append] at z
    rcases List.mem_append.mp z with z | z
    · exact k1 z
    · exact k2 (by rw [keysOf, List.map_append]; exact List.mem_append_right _ z)
theorem is_some {A B C s0 s1 s2 : Stt} (i0 : Is s0 A) (i1 : Is s1 (A ++ B)) (i2 : Is s2 (A ++ C)) (n : Str) (h : n ∈ keysOf s0 ∨ n ∈ keysOf s1 ∨ n ∈ keysOf s2) : ((A ++ B ++ C).lookup n).isSome = true := by
  rw [← key_iff]
  rw [i0.keys, i1.keys, i2.keys] at h
  simp only [keysOf, List.map_append, List.mem_append] at h ⊢
  rcases h with h | (h | h) | (h | h)
  · exact .inl (.inl h)
  · exact .inl (.inl h)
  · exact .inl (.inr h)
  · exact .inl (.inl h)
  · exact .inr h
theorem mk7 (st1 st2 st3 st4 st5 st6 st : Stt) : madeHs ⟨[[], st1, st2, st3, st4, st5, st6], [[], [0], [1], [2], [3], [2], [5]], [⟨"main", [0, 1, 2, 3, 4], 4⟩, ⟨"side", [0, 1, 2, 5, 6], 4⟩], "side"⟩ ⟨"side", [0, 1, 2, 5, 6], 4⟩ st [6, 4] = ⟨[[], st1, st2, st3, st4, st5, st6, st], [[], [0], [1], [2], [3], [2], [5], [6, 4]], [⟨"main", [0, 1, 2, 3, 4], 4⟩, ⟨"side", [0, 1, 2, 5, 6, 7], 5⟩], "side"⟩ := by rfl
theorem mk8 (st1 st2 st3 st4 st5 st6 st : Stt) : madeHs ⟨[[], st1, st2, st3, st4, st5, st6], [[], [0], [1], [2], [3], [2], [5]], [⟨"main", [0, 1, 2, 3, 4], 4⟩, ⟨"side", [0, 1, 2, 5, 6], 4⟩], "main"⟩ ⟨"main", [0, 1, 2, 3, 4], 4⟩ st [4, 6] = ⟨[[], st1, st2, st3, st4, st5, st6, st], [[], [0], [1], [2], [3], [2], [5], [4, 6]], [⟨"main", [0, 1, 2, 3, 4, 7], 5⟩, ⟨"side", [0, 1, 2, 5, 6], 4⟩], "main"⟩ := by rfl
theorem ae6 : ae [[], [0], [1], [2], [3], [2], [5]] 20 [] [6] = some [6, 5, 2, 1, 0] := by rfl
theorem ae4 : ae [[], [0], [1], [2], [3], [2], [5]] 20 [] [4] = some [4, 3, 2, 1, 0] := by rfl
section
variable {P : Program} {w : World} {K : PySem.W.Frag} {mg : Str → Option Value} {base : Heap} {CA : Addr}
abbrev s_law : Stmt := (topS 70)
abbrev N_law : List Str := ["_law_script", "_law_source", "_law_lap", "_law_state", "_law_house", "_law_names", "_law_name", "_law_other", "_law_told"]
abbrev P_law : List Str := ["_law_script"]
theorem sc_law : FnScope N_law P_law (defScope s_law) := ⟨rfl, rfl, rfl, by decide +kernel, rfl, by decide +kernel, by decide +kernel⟩
def spLaw (K : PySem.W.Frag) : Sp := fun vs H Q _ => ∃ (a : Addr) (ns : List Int), vs = [.ref a] ∧ SqL K H a (ns.map V.int) ∧ ns.length ≤ 63 ∧ ∀ H', Q (.bl true) H'
theorem ok_law {f : Addr} {fd : FuncData} (F : Fun K "law" "law" s_law f fd) (C : Gs K mg) (T : Hc K CA) (D__law_open_cells : Df P w K mg base 1 "_law_open_cells" P__law_open_cells (spOpen K)) (D__law_draw_state : Df P w K mg base 3 "_law_draw_state" P__law_draw_state (spDState K)) (D__law_fixed_right : Df P w K mg base 8 "_law_fixed_right" P__law_fixed_right (spFixed K)) (D__law_set_right : Df P w K mg base 8 "_law_set_right" P__law_set_right (spSetR K))
    (D_House : Nw P w K mg base CA 1 (spInit K CA)) (D__law_any_order : Df P w K mg base 2 "_law_any_order" P__law_any_order (spOrder K)) (D__law_draw_small : Df P w K mg base 2 "_law_draw_small" P__law_draw_small (spSmall K)) (D__law_draw_letters : Df P w K mg base 2 "_law_draw_letters" P__law_draw_letters (spDLet K))
    (M_do : Md P w K mg base CA 8 "do" P_House_do (spDo K CA)) (M_branch : Md P w K mg base CA 2 "branch" P_House_branch (spBranch K CA)) (M_go : Md P w K mg base CA 3 "go" P_House_go (spGo K CA)) (M_twin : Md P w K mg base CA 3 "twin" P_House_twin (spTwin K CA)) (M_merge : Md P w K mg base CA 6 "merge" P_House_merge (spMerge K CA))
    (M_state : Md P w K mg base CA 3 "state" P_House_state (spState K CA)) (D_changed : Df P w K mg base 5 "changed" P_changed (spChanged K CA)) : FnOk P w K mg base CX0 9 f fd ["_law_script"] (spLaw K) := by
  refine F.ok sc_law (fun vs H Q E h => ?_) (fun cdv A outer s H vs Q E hr h => ?_)
  · obtain ⟨a, ns, rfl, _⟩ := h
    rfl
  · obtain ⟨a, ns, rfl, ha, hn, k⟩ := h
    have hu := hu_of hr
    have Cl := T.cl
    refine ⟨_, (pss_cons (ps_set (i := 1) sc_law.nd rfl (Or.inl rfl) (pe_df D__law_open_cells (hr.mono (by decide)) (pa_cons (pv 0) pa_nil))) (pss_cons (ps_for PassesOwn.never rfl (pi_range1 (by rfl) C.range (pa_cons pe_int pa_nil)) (pg_name (i := 2) sc_law.nd rfl (Or.inl rfl)) (pss_cons (ps_set (i := 3) sc_law.nd rfl (Or.inl rfl) (pe_df D__law_draw_state (hr.mono (by decide)) (pa_cons (pv 1) pa_nil))) (pss_one (ps_if (PW.pt (pw_or (pt_not (pt_val (pe_df D__law_fixed_right (hr.mono (by decide)) (pa_cons (pv 1) (pa_cons (pv 3) pa_nil))))) (pw_or1 (pt_not (pt_val (pe_df D__law_set_right (hr.mono (by decide)) (pa_cons (pv 1) (pa_cons (pv 3) pa_nil)))))))) (pss_one (ps_ret pe_bl)) pss_nil)))) (pss_cons (ps_par (i := 4) (j := 5) rfl sc_law.nd rfl rfl (by decide) rfl rfl (pa_cons (pe_new D_House (hr.mono (by decide))) (pa_cons (pe_df D__law_any_order (hr.mono (by decide)) (pa_cons (pv 1) (pa_cons (pe_lst (pa_cons pe_str (pa_cons pe_str (pa_cons pe_str (pa_cons pe_str (pa_cons pe_str (pa_cons pe_str pa_nil))))))) pa_nil))) pa_nil)) (by rfl)) (pss_cons (ps_for PassesOwn.never rfl (k_pi_list (K := K) rfl (pe_frz (pe_slice (k_sl_list (K := K) rfl) (pv 5) po_none (po_some pe_int)))) (pg_name (i := 6) sc_law.nd rfl (Or.inl rfl)) (pss_one (ps_expr (pe_md M_do Cl (hr.mono (by decide)) (pv 4) (pa_cons (pe_tup (pa_cons pe_str (pa_cons (pv 6) (pa_cons (pe_df D__law_draw_small (hr.mono (by decide)) (pa_cons (pv 1) pa_nil)) pa_nil)))) pa_nil))))) (pss_cons (ps_expr (pe_md M_branch Cl (hr.mono (by decide)) (pv 4) (pa_cons pe_str pa_nil))) (pss_cons (ps_for PassesOwn.never rfl (k_pi_list (K := K) rfl (pe_frz (pe_slice (k_sl_list (K := K) rfl) (pv 5) (po_some pe_int) (po_some pe_int)))) (pg_name (i := 6) sc_law.nd rfl (Or.inl rfl)) (pss_one (ps_expr (pe_md M_do Cl (hr.mono (by decide)) (pv 4) (pa_cons (pe_tup (pa_cons pe_str (pa_cons (pv 6) (pa_cons (pe_df D__law_draw_letters (hr.mono (by decide)) (pa_cons (pv 1) (pa_cons (pe_frz (pe_slice (k_sl_list (K := K) rfl) (pv 5) po_none (po_some pe_int))) (pa_cons pe_int pa_nil)))) pa_nil)))) pa_nil))))) (pss_cons (ps_expr (pe_md M_go Cl (hr.mono (by decide)) (pv 4) (pa_cons pe_str pa_nil))) (pss_cons (ps_for PassesOwn.never rfl (k_pi_list (K := K) rfl (pe_frz (pe_slice (k_sl_list (K := K) rfl) (pv 5) (po_some pe_int) po_none))) (pg_name (i := 6) sc_law.nd rfl (Or.inl rfl)) (pss_one (ps_expr (pe_md M_do Cl (hr.mono (by decide)) (pv 4) (pa_cons (pe_tup (pa_cons pe_str (pa_cons (pv 6) (pa_cons (pe_df D__law_draw_letters (hr.mono (by decide)) (pa_cons (pv 1) (pa_cons (pe_frz (pe_slice (k_sl_list (K := K) rfl) (pv 5) po_none (po_some pe_int))) (pa_cons pe_int pa_nil)))) pa_nil)))) pa_nil))))) (pss_cons (ps_set (i := 7) sc_law.nd rfl (Or.inl rfl) (pe_md0 M_twin Cl (hr.mono (by decide)) (pv 4))) (pss_cons (ps_expr (pe_md M_go Cl (hr.mono (by decide)) (pv 7) (pa_cons pe_str pa_nil))) (pss_cons (ps_set (i := 8) sc_law.nd rfl (Or.inl rfl) (pe_lst (pa_cons (pe_md M_merge Cl (hr.mono (by decide)) (pv 4) (pa_cons pe_str pa_nil)) (pa_cons (pe_md M_merge Cl (hr.mono (by decide)) (pv 7) (pa_cons pe_str pa_nil)) pa_nil)))) (pss_cons (ps_if (PW.pt (pw_or (pt_cmpR (k_neD (K := K) rfl hr.units64) (pv 8) (pe_lst (pa_cons pe_int (pa_cons pe_int pa_nil))) (nomark _)) (pw_or (pt_cmpR (k_neDD (K := K) rfl hr.units65) (pe_md0 M_state Cl (hr.mono (by decide)) (pv 4)) (pe_md0 M_state Cl (hr.mono (by decide)) (pv 7)) (nomark _)) (pw_or1 (pt_cmpR (k_neD (K := K) rfl hr.units64) (pe_callTy (call_listD rfl) (by rfl) C.b_list (by decide +kernel) (pa_cons (pe_md0 M_state Cl (hr.mono (by decide)) (pv 4)) pa_nil)) (pe_lst (pa_cons pe_str (pa_cons pe_str (pa_cons pe_str (pa_cons pe_str (pa_cons pe_str (pa_cons pe_str pa_nil))))))) (nomark _)))))) (pss_one (ps_ret pe_bl)) pss_nil) (pss_one (ps_ret (pe_and (pe_cmpR (k_eqD (K := K) rfl hr.units64) (pe_df D_changed (hr.mono (by decide)) (pa_cons (pv 4) (pa_cons pe_int (pa_cons pe_int pa_nil)))) (pe_callB (k_sortedS (K := K) rfl) (by rfl) C.sorted (by decide +kernel) (pa_cons (pe_slice (k_sl_list (K := K) rfl) (pv 5) (po_some pe_int) po_none) pa_nil)) (nomark _)) (pe_one (pe_cmpR (k_eqD (K := K) rfl hr.units64) (pe_df D_changed (hr.mono (by decide)) (pa_cons (pv 7) (pa_cons pe_int (pa_cons pe_int pa_nil)))) (pe_lst pa_nil) (nomark _)))))))))))))))))), ?_⟩
    refine ⟨_, rfl, a, ns, rfl, ha, hn, fun s c H1 s1 hs1 => ?_⟩
    refine ⟨_, rfl, by decide, by decide, ?_⟩
    refine for_it (wk_range (n := 2)) (fun i σ' H' => ∃ (o2 o3 : Option V), σ' = [some (.ref a), some (.ref s), o2, o3, none, none, none, none, none] ∧ Src H' s c) ⟨none, none, rfl, hs1⟩ (fun _ _ _ _ _ => trivial) ?_ ?_
    · rintro i x σ' Hz H2 hi ⟨o2, o3, rfl, hs2⟩ ⟨rfl, j, ej, rfl⟩
      refine ⟨_, rfl, s, c, rfl, hs2, fun st r y H3 dr hy hs3 sm3 => ?_⟩
      refine ⟨_, rfl, _, rfl, .ref s, y, st, r, rfl, hy, dr, fun H4 s4 => ⟨_, rfl, iteF ?_⟩⟩
      refine ⟨_, rfl, _, rfl, s, c, y, st, r, rfl, hs3.same s4, DcAt_same s4 hy, dr, fun H5 hs5 sm5 => ⟨_, rfl, iteF ?_⟩⟩
      exact ⟨_, _, rfl, hs5⟩
    rintro σ' H2 ⟨o2, o3, rfl, hs2⟩
    intro p dx hp hdx hne
    have hp' : (upd H2 dx (.own p)) p = none := by rw [upd_ne hne.symm]; exact hp
    refine ⟨p, dx, rfl, upd_same, fun H3 sx hh => ⟨rfl, ?_⟩⟩
    have hs3 : Src H3 s c := ((hs2.same (Same.new hdx)).same (Same.new hp')).sameX upd_same sx
    refine ⟨_, rfl, by show 6 ≤ sizeLine; decide, fun pl hpl => ?_⟩
    have s4 : Same H3 (upd H3 pl (.lst [.str "a", .str "b", .str "c", .str "d", .str "e", .str "f"])) := Same.new hpl
    have hl4 : (upd H3 pl (.lst [.str "a", .str "b", .str "c", .str "d", .str "e", .str "f"])) pl = some (.lst (sixH.map V.str)) := upd_same
    generalize upd H3 pl (.lst [.str "a", .str "b", .str "c", .str "d", .str "e", .str "f"]) = H4 at s4 hl4 ⊢
    refine ⟨s, c, pl, sixH, rfl, hs3.same s4, SqL.of hl4, by decide, fun os ln H5 pm hs5 sm5 hln => ?_⟩
    have hh5 : HouseAt K CA H5 p newHs := (hh.same s4).sameC (hs3.same s4) sm5
    have nds : os.Nodup := pm.nodup_iff.mpr (by decide +kernel)
    have ins : ∀ n ∈ os, n ∈ sixH := fun n hn => pm.mem_iff.mp hn
    obtain ⟨n0, n1, n2, n3, n4, n5, rfl⟩ : ∃ n0 n1 n2 n3 n4 n5, os = [n0, n1, n2, n3, n4, n5] := by
      have e := pm.length_eq
      match os, e with
      | [n0, n1, n2, n3, n4, n5], _ => exact ⟨n0, n1, n2, n3, n4, n5, rfl⟩
    clear s4 hl4 hh sx hp hp' hdx
    refine ⟨_, _, rfl, ?_⟩
    -- the first two names
    refine ⟨_, rfl, _, rfl, slL_take hln.seq rfl fun la hla => ⟨la, _, rfl, upd_same, trivial, fun oda => ?_⟩⟩
    rw [upd_upd]
    have hza : FzL (upd H5 la (.frz oda (.lst (([n0, n1, n2, n3, n4, n5].map V.str).take 2)))) la [n0, n1] := ⟨oda, by rw [upd_same]; rfl⟩
    have sa : Same H5 (upd H5 la (.frz oda (.lst (([n0, n1, n2, n3, n4, n5].map V.str).take 2)))) := Same.new hla
    generalize upd H5 la (.frz oda (.lst (([n0, n1, n2, n3, n4, n5].map V.str).take 2))) = H6 at hza sa ⊢
    refine ⟨la, rfl, ⟨_, hza.seq⟩, ?_⟩
    have apart : ∀ (A B : List Str), [n0, n1, n2, n3, n4, n5] = A ++ B → ∀ x ∈ B, x ∉ A := fun A B e x hb ha => by
      rw [e] at nds
      exact (List.nodup_append.mp nds).2.2 x ha x hb rfl
    have x1 : n1 ∉ [n0] := apart [n0] [n1, n2, n3, n4, n5] rfl _ List.mem_cons_self
    have x2 : n2 ∉ [n0, n1] := apart [n0, n1] [n2, n3, n4, n5] rfl _ List.mem_cons_self
    have x3 : n3 ∉ [n0, n1, n2] := apart [n0, n1, n2] [n3, n4, n5] rfl _ List.mem_cons_self
    have x4 : n4 ∉ [n0, n1] := apart [n0, n1] [n2, n3, n4, n5] rfl _ (by simp)
    have x5 : n5 ∉ [n0, n1, n4] := fun h => apart [n0, n1, n2, n3, n4] [n5] rfl n5 List.mem_cons_self (by simp only [List.mem_cons, List.not_mem_nil, or_false] at h ⊢; rcases h with h | h | h <;> simp [h])
    have i0 : n0 ∈ sixH := ins _ (by simp)
    have i1 : n1 ∈ sixH := ins _ (by simp)
    have i2 : n2 ∈ sixH := ins _ (by simp)
    have i3 : n3 ∈ sixH := ins _ (by simp)
    have i4 : n4 ∈ sixH := ins _ (by simp)
    have i5 : n5 ∈ sixH := ins _ (by simp)
    refine for_it (wk_list (K := K) (a := la) (paired_map [n0, n1])) (fun i σ' H' => ∃ (o6 : Option V), σ' = [some (.ref a), some (.ref s), o2, o3, some (.ref p), some (.ref ln), o6, none, none] ∧ Src H' s c ∧ FzL H' ln [n0, n1, n2, n3, n4, n5] ∧ FzL H' la [n0, n1] ∧ stg1 K CA p n0 n1 i H')
      ⟨none, rfl, hs5.same sa, hln.keep (Keep.of sa), hza, hh5.same sa⟩ (fun i σ' H' _ ⟨_, _, _, _, h, _⟩ => h.seq) ?_ ?_
    · rintro i x σ' Hz H7 hi ⟨o6, rfl, hs7, hl7, ha7, hst⟩ ⟨rfl, n, en, rfl⟩
      rcases i with _ | _ | i
      · cases en
        refine set_step (n0 := n0) (n1 := n1) (T := []) (wy := ⟨"main", [0], 0⟩) (j := 0) hst hs7 (by decide) (by decide) (by decide) rfl rfl (by decide) rfl (fun _ => rfl) .nil (fun h => nomatch h) (fun m mo mb => (OkT.nil n0 n1).mv (fun _ h => nomatch h) (fun h => nomatch h) i0 (by decide) mo mb) fun m st' H8 ok nd is hs8 kp hh8 => ?_
        exact ⟨_, rfl, hs8, hl7.keep kp, ha7.keep kp, m, st', ok, nd, is, by rw [← mk1]; exact hh8⟩
      · cases en
        obtain ⟨m0, st1, ok1, nd1, is1, hh1⟩ := hst
        refine set_step (n0 := n0) (n1 := n1) (T := [(n0, .mv m0)]) (wy := ⟨"main", [0, 1], 1⟩) (j := 1) hh1 hs7 (by show 2 ≤ 100; decide) (by show 2 ≤ 100; decide) (by show 1 ≤ 1000; decide) rfl rfl (by decide) rfl is1 nd1 x1 (fun m mo mb => ok1.mv (fun p h => by cases List.mem_singleton.mp h; rfl) x1 i1 (by show 1 ≤ 5; decide) mo mb) fun m st' H8 ok nd is hs8 kp hh8 => ?_
        exact ⟨_, rfl, hs8, hl7.keep kp, ha7.keep kp, m0, m, st1, st', ok, nd, is, by rw [← mk2]; exact hh8⟩
      · exact absurd hi (by show ¬ i + 1 + 1 < 2; omega)
    rintro σ' H7 ⟨o6, rfl, hs7, hl7, _, m0, m1, st1, st2, ok2, nd2, is2, hh7⟩
    -- the side
    obtain ⟨dx7, b1, b2, b3, b4, h71⟩ := hh7.ins
    refine ⟨_, rfl, p, dx7, _, rfl, h71, fl_no (by decide +kernel), p, _, "side", ⟨"main", [0, 1, 2], 2⟩, rfl, hh7, (by unfold nameOk; decide +kernel), (by show ("side" : Str) ∉ (["main"] : List Str); decide +kernel), (by show 1 ≤ 5; decide), rfl, (by show 2 < 3; decide), fun H8 sx8 hh8 => ?_⟩
    have hs8 := hs7.sameX h71 sx8
    have hl8 := hl7.keep (sx8.keep h71 rfl)
    -- the next two names
    refine ⟨_, rfl, _, rfl, _, rfl, ln, _, rfl, hl8.seq, fun lb hlb => ⟨lb, _, rfl, upd_same, trivial, fun odb => ?_⟩⟩
    rw [upd_upd]
    have eb : cutV ([n0, n1, n2, n3, n4, n5].map V.str) (some 2) (some 4) = [n2, n3].map V.str := by rfl
    rw [eb]
    have hzb : FzL (upd H8 lb (.frz odb (.lst ([n2, n3].map V.str)))) lb [n2, n3] := ⟨odb, upd_same⟩
    have sb : Same H8 (upd H8 lb (.frz odb (.lst ([n2, n3].map V.str)))) := Same.new hlb
    generalize upd H8 lb (.frz odb (.lst ([n2, n3].map V.str))) = H9 at hzb sb ⊢
    refine ⟨lb, rfl, ⟨_, hzb.seq⟩, ?_⟩
    refine for_it (wk_list (K := K) (a := lb) (paired_map [n2, n3])) (fun i σ' H' => ∃ (o6 : Option V), σ' = [some (.ref a), some (.ref s), o2, o3, some (.ref p), some (.ref ln), o6, none, none] ∧ Src H' s c ∧ FzL H' ln [n0, n1, n2, n3, n4, n5] ∧ FzL H' lb [n2, n3] ∧ stg2 K CA p n0 n1 n2 n3 m0 m1 st1 st2 i H')
      ⟨_, rfl, hs8.same sb, hl8.keep (Keep.of sb), hzb, hh8.same sb⟩ (fun i σ' H' _ ⟨_, _, _, _, h, _⟩ => h.seq) ?_ ?_
    · rintro i x σ' Hz H10 hi ⟨o6, rfl, hs10, hl10, hb10, hst⟩ ⟨rfl, n, en, rfl⟩
      rcases i with _ | _ | i
      · cases en
        refine word_step (n0 := n0) (n1 := n1) (T := [(n0, .mv m0), (n1, .mv m1)]) (wy := ⟨"main", [0, 1, 2], 2⟩) (j := 2) hst hs10 hl10 (by show 3 ≤ 100; decide) (by show 3 ≤ 100; decide) (by show 2 ≤ 1000; decide) rfl rfl (by decide) rfl is2 nd2 x2 (fun ls l3 hl => ok2.wd List.mem_cons_self (List.mem_cons_of_mem _ List.mem_cons_self) x2 i2 (by show 2 ≤ 5; decide) l3 hl) fun l2 st' H8 ok nd is hs8 kp hh8 => ?_
        exact ⟨_, rfl, hs8, hl10.keep kp, hb10.keep kp, l2, st', ok, nd, is, by rw [← mk3]; exact hh8⟩
      · cases en
        obtain ⟨l2, st3, ok3, nd3, is3, hh3⟩ := hst
        refine word_step (n0 := n0) (n1 := n1) (T := [(n0, .mv m0), (n1, .mv m1), (n2, .wd l2)]) (wy := ⟨"main", [0, 1, 2, 3], 3⟩) (j := 3) hh3 hs10 hl10 (by show 4 ≤ 100; decide) (by show 4 ≤ 100; decide) (by show 2 ≤ 1000; decide) rfl rfl (by decide) rfl is3 nd3 x3 (fun ls l3 hl => ok3.wd List.mem_cons_self (List.mem_cons_of_mem _ List.mem_cons_self) x3 i3 (by show 3 ≤ 5; decide) l3 hl) fun l3 st' H8 ok nd is hs8 kp hh8 => ?_
        exact ⟨_, rfl, hs8, hl10.keep kp, hb10.keep kp, l2, l3, st3, st', ok, nd, is, by rw [← mk4]; exact hh8⟩
      · exact absurd hi (by show ¬ i + 1 + 1 < 2; omega)
    rintro σ' H10 ⟨o6', rfl, hs10, hl10, _, l2, l3, st3, st4, ok4, nd4, is4, hh10⟩
    obtain ⟨dx10, c1, c2, c3, c4, h101⟩ := hh10.ins
    refine ⟨_, rfl, p, dx10, _, rfl, h101, fl_no (by decide +kernel), p, _, "side", ⟨"side", [0, 1, 2], 2⟩, 2, rfl, hh10, rfl, rfl, fun H11 sx11 hh11 => ?_⟩
    have hs11 := hs10.sameX h101 sx11
    have hl11 := hl10.keep (sx11.keep h101 rfl)
    -- the last two names
    refine ⟨_, rfl, _, rfl, ln, _, rfl, hl11.seq, fun lc hlc => ⟨lc, _, rfl, upd_same, trivial, fun odc => ?_⟩⟩
    rw [upd_upd]
    have ec : cutV ([n0, n1, n2, n3, n4, n5].map V.str) (some 4) none = [n4, n5].map V.str := by rfl
    rw [ec]
    have hzc : FzL (upd H11 lc (.frz odc (.lst ([n4, n5].map V.str)))) lc [n4, n5] := ⟨odc, upd_same⟩
    have sc : Same H11 (upd H11 lc (.frz odc (.lst ([n4, n5].map V.str)))) := Same.new hlc
    generalize upd H11 lc (.frz odc (.lst ([n4, n5].map V.str))) = H12 at hzc sc ⊢
    refine ⟨lc, rfl, ⟨_, hzc.seq⟩, ?_⟩
    refine for_it (wk_list (K := K) (a := lc) (paired_map [n4, n5])) (fun i σ' H' => ∃ (o6 : Option V), σ' = [some (.ref a), some (.ref s), o2, o3, some (.ref p), some (.ref ln), o6, none, none] ∧ Src H' s c ∧ FzL H' ln [n0, n1, n2, n3, n4, n5] ∧ FzL H' lc [n4, n5] ∧ stg3 K CA p n0 n1 n4 n5 m0 m1 st1 st2 st3 st4 i H')
      ⟨_, rfl, hs11.same sc, hl11.keep (Keep.of sc), hzc, hh11.same sc⟩ (fun i σ' H' _ ⟨_, _, _, _, h, _⟩ => h.seq) ?_ ?_
    · rintro i x σ' Hz H13 hi ⟨o6, rfl, hs13, hl13, hc13, hst⟩ ⟨rfl, n, en, rfl⟩
      rcases i with _ | _ | i
      · cases en
        refine word_step (n0 := n0) (n1 := n1) (T := [(n0, .mv m0), (n1, .mv m1)]) (wy := ⟨"side", [0, 1, 2], 2⟩) (j := 2) hst hs13 hl13 (by show 5 ≤ 100; decide) (by show 5 ≤ 100; decide) (by show 2 ≤ 1000; decide) rfl rfl (by decide) rfl is2 nd2 x4 (fun ls l3 hl => ok2.wd List.mem_cons_self (List.mem_cons_of_mem _ List.mem_cons_self) x4 i4 (by show 2 ≤ 5; decide) l3 hl) fun l4 st' H8 ok nd is hs8 kp hh8 => ?_
        exact ⟨_, rfl, hs8, hl13.keep kp, hc13.keep kp, l4, st', ok, nd, is, by rw [← mk5]; exact hh8⟩
      · cases en
        obtain ⟨l4, st5, ok5, nd5, is5, hh5'⟩ := hst
        refine word_step (n0 := n0) (n1 := n1) (T := [(n0, .mv m0), (n1, .mv m1), (n4, .wd l4)]) (wy := ⟨"side", [0, 1, 2, 5], 3⟩) (j := 5) hh5' hs13 hl13 (by show 6 ≤ 100; decide) (by show 6 ≤ 100; decide) (by show 2 ≤ 1000; decide) rfl rfl (by decide) rfl is5 nd5 x5 (fun ls l3 hl => ok5.wd List.mem_cons_self (List.mem_cons_of_mem _ List.mem_cons_self) x5 i5 (by show 3 ≤ 5; decide) l3 hl) fun l5 st' H8 ok nd is hs8 kp hh8 => ?_
        exact ⟨_, rfl, hs8, hl13.keep kp, hc13.keep kp, l4, l5, st5, st', ok, nd, is, by rw [← mk6]; exact hh8⟩
      · exact absurd hi (by show ¬ i + 1 + 1 < 2; omega)
    rintro σ' H13 ⟨o6'', rfl, hs13, hl13, _, l4, l5, st5, st6, ok6, nd6, is6, hh13⟩
    -- the twin
    obtain ⟨dx13, d1, d2, d3, d4, h131⟩ := hh13.ins
    refine ⟨_, rfl, p, dx13, _, rfl, h131, fl_no (by decide +kernel), p, _, rfl, hh13, fun q H14 hq s14 hq14 => ?_⟩
    have pq : p ≠ q := fun z => by rw [z, hq] at h131; cases h131
    have hl14 := hl13.keep (Keep.of s14)
    have hp14 := hh13.same s14
    obtain ⟨dx14, e1, e2, e3, e4, h141⟩ := hq14.ins
    refine ⟨_, rfl, q, dx14, _, rfl, h141, fl_no (by decide +kernel), q, _, "main", ⟨"main", [0, 1, 2, 3, 4], 4⟩, 4, rfl, hq14, rfl, rfl, fun H15 sx15 hq15 => ?_⟩
    have hp15 := hp14.other hq14 pq sx15
    have hl15 := hl14.keep (sx15.keep h141 rfl)
    -- the tables
    have dj : ∀ n, Stt.lookup' [(n2, .wd l2), (n3, .wd l3)] n = none ∨ Stt.lookup' [(n4, .wd l4), (n5, .wd l5)] n = none := fun n => by
      by_cases h : n ∈ [n2, n3]
      · exact .inr (no_key fun z => apart [n0, n1, n2, n3] [n4, n5] rfl n z (List.mem_cons_of_mem _ (List.mem_cons_of_mem _ h)))
      · exact .inl (no_key h)
    have sh2 := ok2.shp is2 nd2
    have sh4 := ok4.shp is4 nd4
    have sh6 := ok6.shp is6 nd6
    have x4' : n4 ∉ [n0, n1, n2, n3] := apart [n0, n1, n2, n3] [n4, n5] rfl _ List.mem_cons_self
    have x5' : n5 ∉ [n0, n1, n2, n3, n4] := apart [n0, n1, n2, n3, n4] [n5] rfl _ List.mem_cons_self
    have e4 := ok6.e (n4, .wd l4) (by simp)
    have e5 := ok6.e (n5, .wd l5) (by simp)
    have lin : ∀ {ls : List (Str × Int)} {m : Str}, okE n0 n1 (m, .wd ls) → ∀ l ∈ ls, l.1 ∈ [n0, n1] ∧ (l.2 = 1 ∨ l.2 = -1) := fun h l hl => by
      obtain ⟨a, b, _⟩ := h.2.2.2 l hl
      refine ⟨?_, b⟩
      rcases a with a | a <;> rw [a] <;> simp
    have ok7 : OkT n0 n1 [(n0, .mv m0), (n1, .mv m1), (n2, .wd l2), (n3, .wd l3), (n4, .wd l4), (n5, .wd l5)] :=
      (ok4.wd (n := n4) (ls := l4) List.mem_cons_self (List.mem_cons_of_mem _ List.mem_cons_self) x4' i4 (by show 4 ≤ 5; decide) e4.2.2.1 (lin e4)).wd (n := n5) (ls := l5) List.mem_cons_self (List.mem_cons_of_mem _ List.mem_cons_self) x5' i5 (by show 5 ≤ 5; decide) e5.2.2.1 (lin e5)
    have len : ∀ {st T : Stt}, Is st T → (keysOf st).Nodup → (keysOf T).Nodup → T.length ≤ 6 → st.length ≤ 6 := fun i nd nd' l => by rw [len_of_keys nd nd' i.keys]; exact l
    have ln2 := len is2 nd2 ok2.nd ok2.len
    have ln4 := len is4 nd4 ok4.nd ok4.len
    have ln6 := len is6 nd6 ok6.nd ok6.len
    obtain ⟨dxp, f1, f2, f3, f4, hp151⟩ := hp15.ins
    refine ⟨_, rfl, p, dxp, _, rfl, hp151, fl_no (by decide +kernel), ?_⟩
    refine ⟨p, _, "main", ⟨"main", [0, 1, 2, 3, 4], 4⟩, ⟨"side", [0, 1, 2, 5, 6], 4⟩, 6, 4, 2, 20, 20, [6, 5, 2, 1, 0], [4, 3, 2, 1, 0], st2, st6, st4, fun n => (([(n0, .mv m0), (n1, .mv m1)] : Stt) ++ ([(n2, .wd l2), (n3, .wd l3)] : Stt) ++ ([(n4, .wd l4), (n5, .wd l5)] : Stt)).lookup n, rfl, hp15, (by show 7 ≤ 100; decide), (by show 7 ≤ 100; decide), (by show 2 ≤ 1000; decide), rfl, rfl, rfl, rfl, (by show 5 ≤ 1000; decide), ae6, (by decide), ae4, (by show 5 ≤ 1000; decide), (by decide), (by decide), (by decide), rfl, rfl, rfl, nd2, nd6, nd4, (by omega), (fun n => ⟨sh2 n, sh6 n, sh4 n⟩),
      (fun n _ => (come_sides is2 is4 is6 sh2 dj n).2), (fun st' came => ok7.good (came_is' is2 is4 is6 came) came.nd), fun st7 H16 came7 sx16 hp16 => ?_⟩
    have is7 : Is st7 [(n0, .mv m0), (n1, .mv m1), (n2, .wd l2), (n3, .wd l3), (n4, .wd l4), (n5, .wd l5)] := came_is' is2 is4 is6 came7
    have srt7 := came7.srt fun n h => is_some is2 is4 is6 n (h.elim .inl fun h => h.elim (fun h => .inr (.inr h)) fun h => .inr (.inl h))
    have hq16 := hq15.other hp15 pq.symm sx16
    have hl16 := hl15.keep (sx16.keep hp151 rfl)
    have hp16 : HouseAt K CA H16 p ⟨[[], st1, st2, st3, st4, st5, st6, st7], [[], [0], [1], [2], [3], [2], [5], [6, 4]], [⟨"main", [0, 1, 2, 3, 4], 4⟩, ⟨"side", [0, 1, 2, 5, 6, 7], 5⟩], "side"⟩ := by rw [← mk7]; exact hp16
    obtain ⟨dxq, g1, g2, g3, g4, hq161⟩ := hq16.ins
    refine ⟨_, rfl, q, dxq, _, rfl, hq161, fl_no (by decide +kernel), ?_⟩
    refine ⟨q, _, "side", ⟨"side", [0, 1, 2, 5, 6], 4⟩, ⟨"main", [0, 1, 2, 3, 4], 4⟩, 4, 6, 2, 20, 20, [4, 3, 2, 1, 0], [6, 5, 2, 1, 0], st2, st4, st6, fun n => (([(n0, .mv m0), (n1, .mv m1)] : Stt) ++ ([(n2, .wd l2), (n3, .wd l3)] : Stt) ++ ([(n4, .wd l4), (n5, .wd l5)] : Stt)).lookup n, rfl, hq16, (by show 7 ≤ 100; decide), (by show 7 ≤ 100; decide), (by show 2 ≤ 1000; decide), rfl, rfl, rfl, rfl, (by show 5 ≤ 1000; decide), ae4, (by decide), ae6, (by show 5 ≤ 1000; decide), (by decide), (by decide), (by decide), rfl, rfl, rfl, nd2, nd4, nd6, (by omega), (fun n => ⟨sh2 n, sh4 n, sh6 n⟩),
      (fun n _ => (come_sides is2 is4 is6 sh2 dj n).1), (fun st' came => ok7.good (came_is is2 is4 is6 came) came.nd), fun st8 H17 came8 sx17 hq17 => ?_⟩
    have is8 : Is st8 [(n0, .mv m0), (n1, .mv m1), (n2, .wd l2), (n3, .wd l3), (n4, .wd l4), (n5, .wd l5)] := came_is is2 is4 is6 came8
    have hp17 := hp16.other hq16 pq sx17
    have hl17 := hl16.keep (sx17.keep hq161 rfl)
    have hq17 : HouseAt K CA H17 q ⟨[[], st1, st2, st3, st4, st5, st6, st8], [[], [0], [1], [2], [3], [2], [5], [4, 6]], [⟨"main", [0, 1, 2, 3, 4, 7], 5⟩, ⟨"side", [0, 1, 2, 5, 6], 4⟩], "main"⟩ := by rw [← mk8]; exact hq17
    have W2 := ok2.wf is2 nd2
    have W7 := ok7.wf is7 came7.nd
    have W8 := ok7.wf is8 came8.nd
    clear hq16 hp16 hp15 hq15 hp14 hq14 hh13
    refine ⟨by show 2 ≤ sizeLine; decide, fun lt hlt => ?_⟩
    have s18 : Same H17 (upd H17 lt (.lst [.int 7, .int 7])) := Same.new hlt
    have ht18 : (upd H17 lt (.lst [.int 7, .int 7])) lt = some (.lst (([7, 7] : List Int).map V.int)) := upd_same
    generalize upd H17 lt (.lst [.int 7, .int 7]) = H18 at s18 ht18 ⊢
    refine ⟨_, rfl, by show 2 ≤ sizeLine; decide, fun lu hlu => ⟨.list (([7, 7] : List Int).map PyData.int), .list (([7, 7] : List Int).map PyData.int), .lst (SqL.of (Same.new hlu _ _ ht18)) (DpAll.of_ints _), .lst (SqL.of upd_same) (DpAll.of_ints [7, 7]), rfl, rfl, false, rfl, iteF ?_⟩⟩
    have s19 : Same H17 (upd H18 lu (.lst [.int 7, .int 7])) := s18.trans (Same.new hlu)
    generalize upd H18 lu (.lst [.int 7, .int 7]) = H19 at s19 ⊢
    have hp19 := hp17.same s19
    have hq19 := hq17.same s19
    have hl19 := hl17.keep (Keep.of s19)
    -- the two states
    obtain ⟨dxp2, p1, p2, p3, p4, hp191⟩ := hp19.ins
    obtain ⟨dxq2, q1, q2, q3, q4, hq191⟩ := hq19.ins
    refine ⟨_, rfl, p, dxp2, _, rfl, hp191, fl_no (by decide +kernel), p, _, ⟨"side", [0, 1, 2, 5, 6, 7], 5⟩, 7, st7, rfl, hp19, rfl, rfl, rfl, fun y1 H20 s20 hy1 => ?_⟩
    refine ⟨_, rfl, q, dxq2, _, rfl, s20 _ _ hq191, fl_no (by decide +kernel), q, _, ⟨"main", [0, 1, 2, 3, 4, 7], 5⟩, 7, st8, rfl, hq19.same s20, rfl, rfl, rfl, fun y2 H21 s21 hy2 => ?_⟩
    refine eqDD_st W8 (DcAt_same s21 hy1) hy2 came7.nd (fun n => by rw [is7, is8]) ⟨_, rfl, iteF ?_⟩
    have s1921 := s20.trans s21
    -- its names
    refine ⟨_, rfl, p, dxp2, _, rfl, s1921 _ _ hp191, fl_no (by decide +kernel), p, _, ⟨"side", [0, 1, 2, 5, 6, 7], 5⟩, 7, st7, rfl, hp19.same s1921, rfl, rfl, rfl, fun y3 H22 s22 hy3 => ?_⟩
    obtain ⟨d3, od3, kv3, rfl, hd3, rk3⟩ := id hy3
    have ek3 : kv3.map (·.1) = (keysOf st7).map Sum.inr := by have := rk3.keys; rw [stD_keys] at this; exact this
    have perm7 : (keysOf st7).Perm [n0, n1, n2, n3, n4, n5] := (List.perm_ext_iff_of_nodup came7.nd nds).mpr fun x => by rw [is7.keys]; exact Iff.rfl
    have k7 : keysOf st7 = sixH := sorted_uniq (perm7.trans pm) srt7 (by decide +kernel)
    refine ⟨d3, kv3, rfl, .inr ⟨od3, hd3⟩, fun lv hlv => ?_⟩
    have ev : kv3.map (fun kv => kV kv.1) = sixH.map V.str := by
      rw [← k7]
      have : kv3.map (fun kv => kV kv.1) = (kv3.map (·.1)).map kV := by rw [List.map_map]; rfl
      rw [this, ek3, List.map_map]
      rfl
    rw [ev]
    refine ⟨by show 6 ≤ sizeLine; decide, fun lw hlw => ?_⟩
    refine ⟨.list (sixH.map PyData.str), .list (sixH.map PyData.str), .lst (SqL.of (Same.new hlw _ _ upd_same)) (DpAll.of_strs _), .lst (SqL.of upd_same) (DpAll.of_strs sixH), shaped_strs sixH_sk, shaped_strs sixH_sk, false, by rw [eqv_self (shaped_strs sixH_sk)]; rfl, iteF ?_⟩
    have s23 := s22.trans ((Same.new (o := .lst (sixH.map V.str)) hlv).trans (Same.new (o := .lst [.str "a", .str "b", .str "c", .str "d", .str "e", .str "f"]) hlw))
    have s1923 := s1921.trans s23
    -- what has changed
    refine ⟨_, rfl, p, _, 2, 7, st2, st7, valS st2, valS st7, _, _, _, _, _, _, rfl, hp19.same s1923, rfl, rfl, W2.good (by decide), W7.good (by decide), fun ns1 l1 H24 ndn inn srtn s24 hl1 => ?_⟩
    have hl24 := hl19.keep (Keep.of (s1923.trans s24))
    refine ⟨_, rfl, _, rfl, ln, _, rfl, hl24.seq, fun ld hld => ?_⟩
    have ed : cutV ([n0, n1, n2, n3, n4, n5].map V.str) (some 2) none = [n2, n3, n4, n5].map V.str := by rfl
    rw [ed]
    refine ⟨ld, [n2, n3, n4, n5], rfl, SqL.of upd_same, by show 4 < 64; decide, fun ys2 lq permq sdq hlq => ?_⟩
    have el : ns1.filter (difM st2 st7 (valS st2) (valS st7)) = ys2 := by
      refine sorted_uniq ?_ (sorted_filter srtn _) sdq
      have nd25 : [n2, n3, n4, n5].Nodup := (List.nodup_append.mp (show ([n0, n1] ++ [n2, n3, n4, n5]).Nodup from nds)).2.1
      refine ((List.perm_ext_iff_of_nodup (ndn.filter _) nd25).mpr fun x => ?_).trans permq.symm
      rw [List.mem_filter, inn, is2.keys, is7.keys]
      have in2 : ∀ {x}, x ∈ [n0, n1] → difM st2 st7 (valS st2) (valS st7) x = false := fun {x} hx => by
        have k2 : x ∈ keysOf st2 := (is2.keys x).mpr hx
        have k7' : x ∈ keysOf st7 := (is7.keys x).mpr (List.mem_append_left [n2, n3, n4, n5] hx)
        have ev : valS st2 x = valS st7 x := by
          have look : ∃ m, st2.lookup x = some (.mv m) ∧ st7.lookup x = some (.mv m) := by
            rcases List.mem_cons.mp hx with rfl | hx
            · exact ⟨m0, by rw [is2, List.lookup_cons, beq_self_eq_true], by rw [is7, List.lookup_cons, beq_self_eq_true]⟩
            · have e1 := List.mem_singleton.mp hx
              subst e1
              have ne : (x == n0) = false := str_ne fun z => x1 (List.mem_singleton.mpr z)
              exact ⟨m1, by rw [is2, List.lookup_cons, ne, List.lookup_cons, beq_self_eq_true], by rw [is7, List.lookup_cons, ne, List.lookup_cons, beq_self_eq_true]⟩
          obtain ⟨m, a1, a2⟩ := look
          rw [W2.val a1, W7.val a2, tval_mv, tval_mv]
        unfold difM oM
        rw [if_pos k2, if_pos k7', ev, eqv_self (shaped_mv _)]
        rfl
      have in7 : ∀ {x}, x ∈ [n2, n3, n4, n5] → difM st2 st7 (valS st2) (valS st7) x = true := fun {x} hx => by
        have k2 : x ∉ keysOf st2 := fun z => apart [n0, n1] [n2, n3, n4, n5] rfl x hx ((is2.keys x).mp z)
        have k7' : x ∈ keysOf st7 := (is7.keys x).mpr (List.mem_append_right [n0, n1] hx)
        unfold difM oM
        rw [if_neg k2, if_pos k7', eqv_nm]
        rfl
      constructor
      · rintro ⟨h, d⟩
        have h' : x ∈ [n0, n1] ∨ x ∈ [n2, n3, n4, n5] := by
          rcases h with h | h
          · exact .inl h
          · exact List.mem_append.mp (show x ∈ [n0, n1] ++ [n2, n3, n4, n5] from h)
        rcases h' with h | h
        · rw [in2 h] at d; cases d
        · exact h
      · intro h
        exact ⟨.inr (List.mem_append_right [n0, n1] h), in7 h⟩
    rw [el] at hl1
    have sky : ∀ k ∈ ys2, PyData.strOk k = true := fun k hk => sixH_sk k (ins k (List.mem_append_right [n0, n1] (permq.mem_iff.mp hk)))
    have s25 := (Same.new (o := .lst ([n2, n3, n4, n5].map V.str)) hld).trans (Same.new (o := .lst (ys2.map V.str)) hlq)
    refine ⟨.list (ys2.map PyData.str), .list (ys2.map PyData.str), .lst (SqL.of (s25 _ _ hl1)) (DpAll.of_strs _), .lst (SqL.of upd_same) (DpAll.of_strs _), shaped_strs sky, shaped_strs sky, true, by rw [eqv_self (shaped_strs sky)], iteT ?_⟩
    refine ⟨_, rfl, q, _, 7, 7, st8, st8, valS st8, valS st8, _, _, _, _, _, _, rfl, (hq19.same (s1923.trans s24)).same s25, rfl, rfl, W8.good (by decide), W8.good (by decide), fun ns3 l3 H26 ndn3 inn3 srtn3 s26 hl3 => ?_⟩
    have e8 : ns3.filter (difM st8 st8 (valS st8) (valS st8)) = [] := List.filter_eq_nil_iff.mpr fun x _ => by
      unfold difM
      rw [eqv_self (shaped_oM _ _ _)]
      decide
    rw [e8] at hl3
    refine ⟨Nat.zero_le _, fun lz hlz => ?_⟩
    refine ⟨.list [], .list [], .lst (SqL.of (Same.new hlz _ _ hl3)) .nil, .lst (SqL.of upd_same) .nil, rfl, rfl, ?_⟩
    exact k _
end
end Bk
set_option Elab.async false
set_option linter.all false
set_option maxRecDepth 100000
set_option maxHeartbeats 4000000
namespace Bk
open PySem PySem.Spec PyProof.Rows L2 Gap
section
variable {K : PySem.W.Frag} {h : Heap} {mg : Str → Option Value}
theorem at_mk {x : Str} {st : Stmt} {ps : List Str} {f : Addr} {oc : Value} {od an : Option Addr} {sl : Array (Option Value)} {kV dc pm cd ct : Value} (b : ∀ (kV doc pm : Value) (an : Option Addr) (cdv ct : Value) (us : List Value), us.length = ps.length → bindArgs (PySem.W.fnOf x x (defArgs st) (defBody st) (defScope st) .none kV doc pm an cdv ct) ⟨us, []⟩ = pure (ps.zip us))
    (X : K.In h) (G : h.Ns mainGlobals mg) (a : PySem.W.nsIn K mainGlobals x = some (some (.ref f))) (l : K.lookup f = some ⟨oc, od, .func (PySem.W.fnOf x x (defArgs st) (defBody st) (defScope st) .none kV dc pm an cd ct), sl⟩) (c : PySem.W.codeIn K cd x = true) (k : PySem.W.keepIn K (.ref f) = true) : At K mg x st ps :=
  ⟨f, _, fun_mk l c k, PySem.W.mg_of X G a, (fun_mk l c k).binds b⟩
theorem atm_mk {CA : Addr} {x q : Str} {st : Stmt} {ps : List Str} {f : Addr} {oc : Value} {od an : Option Addr} {sl : Array (Option Value)} {kV dc pm cd ct : Value} (b : ∀ (kV doc pm : Value) (an : Option Addr) (cdv ct : Value) (us : List Value), us.length = ps.length → bindArgs (PySem.W.fnOf x q (defArgs st) (defBody st) (defScope st) .none kV doc pm an cdv ct) ⟨us, []⟩ = pure (ps.zip us))
    (a : PySem.W.findIn K (.ref CA) x = some (some (.ref f))) (i : PySem.W.isFn K (.ref f) = true) (l : K.lookup f = some ⟨oc, od, .func (PySem.W.fnOf x q (defArgs st) (defBody st) (defScope st) .none kV dc pm an cd ct), sl⟩) (c : PySem.W.codeIn K cd q = true) (k : PySem.W.keepIn K (.ref f) = true) : AtM K CA x q st ps :=
  ⟨f, _, fun_mk l c k, ⟨a, i, k⟩, (fun_mk l c k).binds b⟩
theorem int_mk {x : Str} {n : Int} {t : Tok} (X : K.In h) (G : h.Ns mainGlobals mg) (a : PySem.W.nsIn K mainGlobals x = some (some (.int n t))) : ∃ u, mg x = some u ∧ RelV (.int n) u := ⟨_, PySem.W.mg_of X G a, t, rfl⟩
theorem str_mk {x n : Str} {t : Tok} (X : K.In h) (G : h.Ns mainGlobals mg) (a : PySem.W.nsIn K mainGlobals x = some (some (.str n t))) : ∃ u, mg x = some u ∧ RelV (.str n) u := ⟨_, PySem.W.mg_of X G a, t, rfl⟩
theorem idle_mk {x : Str} {p : Addr} {t1 t2 t3 t4 : Tok} {od : Option Addr} {m : Nat} {sl : Array (Option Value)} (X : K.In h) (G : h.Ns mainGlobals mg) (a : PySem.W.nsIn K mainGlobals x = some (some (.ref p))) (l : K.lookup p = some ⟨.type "tuple", od, .seq #[.int 1 t1, .int 0 t2, .int 0 t3, .int 1 t4] m, sl⟩) : ∃ a, mg x = some (.ref a) ∧ ∀ H, SqT K H a [.int 1, .int 0, .int 0, .int 1] :=
  ⟨p, PySem.W.mg_of X G a, fun H => .inr ⟨_, _, _, l, rfl, rfl, by show 4 ≤ sizeLine; decide, .cons ⟨_, rfl⟩ (.cons ⟨_, rfl⟩ (.cons ⟨_, rfl⟩ (.cons ⟨_, rfl⟩ .nil)))⟩⟩
end
theorem law_all {P : Program} {w : World} {K : PySem.W.Frag} {mg : Str → Option Value} {CA f1 f2 : Addr} {fd1 fd2 : FuncData} (C : Gs K mg) (T : Hc K CA) (mk : Mk K CA f1) (mC : mg "House" = some (.ref CA)) (F1 : Fun K "__init__" "House.__init__" s_House___init__ f1 fd1) (b1 : Binds K fd1 ["self"] []) (F2 : Fun K "law" "law" s_law f2 fd2)
    (A_is_number : At K mg "is_number" s_is_number P_is_number) (A_is_row_of_numbers : At K mg "is_row_of_numbers" s_is_row_of_numbers P_is_row_of_numbers) (A_in_form : At K mg "in_form" s_in_form P_in_form) (A_size : At K mg "size" s_size P_size) (A_is_move : At K mg "is_move" s_is_move P_is_move) (A_after : At K mg "after" s_after P_after) (A_back : At K mg "back" s_back P_back) (A_letters_of : At K mg "letters_of" s_letters_of P_letters_of) (A_used : At K mg "used" s_used P_used) (A_need_name : At K mg "need_name" s_need_name P_need_name) (A_uses : At K mg "uses" s_uses P_uses) (A_users : At K mg "users" s_users P_users) (A_hanging : At K mg "hanging" s_hanging P_hanging) (A_in_turn : At K mg "in_turn" s_in_turn P_in_turn) (A_values : At K mg "values" s_values P_values) (A_value_of : At K mg "value_of" s_value_of P_value_of) (A_lengths : At K mg "lengths" s_lengths P_lengths) (A_length_of : At K mg "length_of" s_length_of P_length_of) (A_is_name : At K mg "is_name" s_is_name P_is_name) (A_is_pair : At K mg "is_pair" s_is_pair P_is_pair) (A_are_letters : At K mg "are_letters" s_are_letters P_are_letters) (A_has_form : At K mg "has_form" s_has_form P_has_form) (A_placed : At K mg "placed" s_placed P_placed) (A_need_room : At K mg "need_room" s_need_room P_need_room) (A_behind_told : At K mg "behind_told" s_behind_told P_behind_told) (A_called_anew : At K mg "called_anew" s_called_anew P_called_anew) (A_behind : At K mg "behind" s_behind P_behind) (A_come : At K mg "come" s_come P_come) (A_need_none : At K mg "need_none" s_need_none P_need_none) (A_merged : At K mg "merged" s_merged P_merged) (B_way_of : AtM K CA "way_of" "House.way_of" s_House_way_of P_House_way_of) (B_present : AtM K CA "present" "House.present" s_House_present P_House_present) (B_branches : AtM K CA "branches" "House.branches" s_House_branches P_House_branches) (B_moved_to : AtM K CA "moved_to" "House.moved_to" s_House_moved_to P_House_moved_to) (B_made : AtM K CA "made" "House.made" s_House_made P_House_made) (B_do : AtM K CA "do" "House.do" s_House_do P_House_do) (B_go : AtM K CA "go" "House.go" s_House_go P_House_go) (B_branch : AtM K CA "branch" "House.branch" s_House_branch P_House_branch) (B_state : AtM K CA "state" "House.state" s_House_state P_House_state) (B_need_moment : AtM K CA "need_moment" "House.need_moment" s_House_need_moment P_House_need_moment) (B_state_at : AtM K CA "state_at" "House.state_at" s_House_state_at P_House_state_at) (B_follow : AtM K CA "follow" "House.follow" s_House_follow P_House_follow) (B_twin : AtM K CA "twin" "House.twin" s_House_twin P_House_twin) (B_all_elders : AtM K CA "all_elders" "House.all_elders" s_House_all_elders P_House_all_elders) (B_merge : AtM K CA "merge" "House.merge" s_House_merge P_House_merge) (A_changed : At K mg "changed" s_changed P_changed) (A__law_open_cells : At K mg "_law_open_cells" s__law_open_cells P__law_open_cells) (A__law_pick : At K mg "_law_pick" s__law_pick P__law_pick) (A__law_any_order : At K mg "_law_any_order" s__law_any_order P__law_any_order) (A__law_draw_small : At K mg "_law_draw_small" s__law_draw_small P__law_draw_small) (A__law_draw_letters : At K mg "_law_draw_letters" s__law_draw_letters P__law_draw_letters) (A__law_all_values : At K mg "_law_all_values" s__law_all_values P__law_all_values) (A__law_draw_state : At K mg "_law_draw_state" s__law_draw_state P__law_draw_state) (A__law_fixed_right : At K mg "_law_fixed_right" s__law_fixed_right P__law_fixed_right) (A__law_set_right : At K mg "_law_set_right" s__law_set_right P__law_set_right) : ∀ base : Heap, FnOk P w K mg base CX0 9 f2 fd2 ["_law_script"] (spLaw K) := by
  intro base
  have D_is_number := ok_is_number (P := P) (w := w) (mg := mg) (base := base) A_is_number C
  have D_is_row_of_numbers := ok_is_row_of_numbers (P := P) (w := w) (mg := mg) (base := base) A_is_row_of_numbers C D_is_number
  have D_in_form := ok_in_form (P := P) (w := w) (mg := mg) (base := base) A_in_form C
  have D_size := ok_size (P := P) (w := w) (mg := mg) (base := base) A_size 
  have D_is_move := ok_is_move (P := P) (w := w) (mg := mg) (base := base) A_is_move D_is_row_of_numbers D_size D_in_form
  have D_after := ok_after (P := P) (w := w) (mg := mg) (base := base) A_after D_in_form
  have D_back := ok_back (P := P) (w := w) (mg := mg) (base := base) A_back D_in_form
  have D_letters_of := ok_letters_of (P := P) (w := w) (mg := mg) (base := base) A_letters_of 
  have D_used := ok_used (P := P) (w := w) (mg := mg) (base := base) A_used C D_letters_of
  have D_need_name := ok_need_name (P := P) (w := w) (mg := mg) (base := base) A_need_name C
  have D_uses := ok_uses (P := P) (w := w) (mg := mg) (base := base) A_uses C D_need_name D_used
  have D_users := ok_users (P := P) (w := w) (mg := mg) (base := base) A_users C D_need_name D_used
  have D_hanging := ok_hanging (P := P) (w := w) (mg := mg) (base := base) A_hanging C D_users
  have D_in_turn := ok_in_turn (P := P) (w := w) (mg := mg) (base := base) A_in_turn C D_used
  have D_values := ok_values (P := P) (w := w) (mg := mg) (base := base) A_values C D_in_turn D_letters_of D_after D_back
  have D_value_of := ok_value_of (P := P) (w := w) (mg := mg) (base := base) A_value_of C D_need_name D_values
  have D_lengths := ok_lengths (P := P) (w := w) (mg := mg) (base := base) A_lengths C D_in_turn
  have D_length_of := ok_length_of (P := P) (w := w) (mg := mg) (base := base) A_length_of C D_need_name D_lengths
  have D_is_name := ok_is_name (P := P) (w := w) (mg := mg) (base := base) A_is_name C
  have D_is_pair := ok_is_pair (P := P) (w := w) (mg := mg) (base := base) A_is_pair C D_is_number
  have D_are_letters := ok_are_letters (P := P) (w := w) (mg := mg) (base := base) A_are_letters C D_is_pair
  have D_has_form := ok_has_form (P := P) (w := w) (mg := mg) (base := base) A_has_form C D_is_move D_are_letters
  have D_placed := ok_placed (P := P) (w := w) (mg := mg) (base := base) A_placed C
  have D_need_room := ok_need_room (P := P) (w := w) (mg := mg) (base := base) A_need_room C D_lengths
  have D_behind_told := ok_behind_told (P := P) (w := w) (mg := mg) (base := base) A_behind_told C D_is_name D_need_name D_placed D_hanging D_need_room
  have D_called_anew := ok_called_anew (P := P) (w := w) (mg := mg) (base := base) A_called_anew C
  have D_behind := ok_behind (P := P) (w := w) (mg := mg) (base := base) A_behind C D_has_form D_behind_told D_need_name D_need_room D_placed D_value_of D_users D_is_name D_called_anew
  have D_come := ok_come (P := P) (w := w) (mg := mg) (base := base) A_come 
  have D_need_none := ok_need_none (P := P) (w := w) (mg := mg) (base := base) A_need_none 
  have D_merged := ok_merged (P := P) (w := w) (mg := mg) (base := base) A_merged C D_come D_need_none D_used D_hanging
  have M_way_of := ok_way_of (P := P) (w := w) (mg := mg) (base := base) B_way_of T
  have M_present := ok_present (P := P) (w := w) (mg := mg) (base := base) B_present T M_way_of
  have M_branches := ok_branches (P := P) (w := w) (mg := mg) (base := base) B_branches T
  have M_moved_to := ok_moved_to (P := P) (w := w) (mg := mg) (base := base) B_moved_to T C
  have M_made := ok_made (P := P) (w := w) (mg := mg) (base := base) B_made T C M_way_of M_moved_to
  have M_do := ok_do (P := P) (w := w) (mg := mg) (base := base) B_do T M_present M_made D_behind
  have M_go := ok_go (P := P) (w := w) (mg := mg) (base := base) B_go T M_present M_way_of
  have M_branch := ok_branch (P := P) (w := w) (mg := mg) (base := base) B_branch T C D_is_name M_branches M_way_of
  have M_state := ok_state (P := P) (w := w) (mg := mg) (base := base) B_state T C M_present
  have M_need_moment := ok_need_moment (P := P) (w := w) (mg := mg) (base := base) B_need_moment T C D_is_number
  have M_state_at := ok_state_at (P := P) (w := w) (mg := mg) (base := base) B_state_at T C M_need_moment
  have D_House : Nw P w K mg base CA 1 (spInit K CA) := ⟨f1, fd1, mk, ok_init F1 T C, b1, mC⟩
  have M_follow := ok_follow (P := P) (w := w) (mg := mg) (base := base) B_follow T
  have M_twin := ok_twin (P := P) (w := w) (mg := mg) (base := base) B_twin T D_House M_follow
  have M_all_elders := ok_all_elders (P := P) (w := w) (mg := mg) (base := base) B_all_elders T
  have M_merge := ok_merge (P := P) (w := w) (mg := mg) (base := base) B_merge T C M_way_of M_present M_all_elders M_made D_merged D_need_room
  have D_changed := ok_changed (P := P) (w := w) (mg := mg) (base := base) A_changed T C M_state_at D_values
  have D__law_open_cells := ok_open (P := P) (w := w) (mg := mg) (base := base) A__law_open_cells C
  have D__law_pick := ok_pick (P := P) (w := w) (mg := mg) (base := base) A__law_pick C
  have D__law_any_order := ok_order (P := P) (w := w) (mg := mg) (base := base) A__law_any_order C D__law_pick
  have D__law_draw_small := ok_small (P := P) (w := w) (mg := mg) (base := base) A__law_draw_small C D__law_pick
  have D__law_draw_letters := ok_dlet (P := P) (w := w) (mg := mg) (base := base) A__law_draw_letters C D__law_pick
  have D__law_all_values := ok_all (P := P) (w := w) (mg := mg) (base := base) A__law_all_values C D_value_of
  have D__law_draw_state := ok_dstate (P := P) (w := w) (mg := mg) (base := base) A__law_draw_state C D__law_pick D__law_any_order D__law_draw_small D__law_draw_letters
  have D__law_fixed_right := ok_fixed (P := P) (w := w) (mg := mg) (base := base) A__law_fixed_right C D__law_all_values D_behind D_uses D_length_of D_in_turn D_value_of D_hanging
  have D__law_set_right := ok_setR (P := P) (w := w) (mg := mg) (base := base) A__law_set_right C D__law_all_values D_behind D__law_draw_small D_hanging
  exact ok_law F2 C T D__law_open_cells D__law_draw_state D__law_fixed_right D__law_set_right D_House D__law_any_order D__law_draw_small D__law_draw_letters M_do M_branch M_go M_twin M_merge M_state D_changed
theorem walk {l : PySem.W.OpenLaw} {q : Program} {loose : List Str} {XP : (Str → Option Value) → Heap → Prop} {YP : World → Heap → Prop} {d : DefRec} {K : Params → PySem.W.Frag} (hn : l.most = some 63) (hdf : d.params.defaults = [])
    (hY : ∀ (w : World) (h : Heap), YP w h → (K w.params).In h)
    (F : ∀ (w : World) (mg : Str → Option Value) (fa : Addr) (h : Heap), (K w.params).In h → h.Ns mainGlobals mg → mg d.name = some (.ref fa) →
      ∃ fd : FuncData, (∀ (s : Shared) (u : Value), BindsTo s fd ⟨[u], []⟩ [("_law_script", u)]) ∧ ∀ base : Heap, (K w.params).In base → base.Ns mainGlobals mg → FnOk l.prog w (K w.params) mg base CX0 9 fa fd ["_law_script"] (spLaw (K w.params))) :
    PySem.W.WalkO q loose XP YP l.row.toRowW d [] (fun f vs => PySem.call f vs) :=
  L2.walk_of (n := 63) (k := 9) (x := "_law_script") (CX := fun _ => CX0) (sp := fun w => spLaw (K w.params)) hn (by decide) hdf ⟨rfl, by decide, by decide⟩ hY F (fun _ _ a ns hl _ hS => ⟨a, ns, rfl, hS, hl, fun _ => rfl⟩) fun _ _ _ _ _ z => z
theorem end_mk {P : Program} {w : World} {K : PySem.W.Frag} {h : Heap} {mg : Str → Option Value} {fa f : Addr} {oc : Value} {od an : Option Addr} {sl : Array (Option Value)} {kV dc pm cd ct : Value} (X : K.In h) (G : h.Ns mainGlobals mg) (hfa : mg "law" = some (.ref fa)) (a : PySem.W.nsIn K mainGlobals "law" = some (some (.ref f))) (l : K.lookup f = some ⟨oc, od, .func (PySem.W.fnOf "law" "law" (defArgs s_law) (defBody s_law) (defScope s_law) .none kV dc pm an cd ct), sl⟩) (c : PySem.W.codeIn K cd "law" = true) (k : PySem.W.keepIn K (.ref f) = true)
    (k2 : ∀ fd, Fun K "law" "law" s_law f fd → ∀ base : Heap, FnOk P w K mg base CX0 9 f fd ["_law_script"] (spLaw K)) :
    ∃ fd : FuncData, (∀ (s : Shared) (u : Value), BindsTo s fd ⟨[u], []⟩ [("_law_script", u)]) ∧ ∀ base : Heap, K.In base → base.Ns mainGlobals mg → FnOk P w K mg base CX0 9 fa fd ["_law_script"] (spLaw K) := by
  have e := hfa.symm.trans (PySem.W.mg_of X G a)
  cases e
  exact ⟨PySem.W.fnOf "law" "law" (defArgs s_law) (defBody s_law) (defScope s_law) .none kV dc pm an cd ct, fun s v => .of_eq rfl, fun base _ _ => k2 _ (fun_mk l c k) base⟩
theorem at_k {K : PySem.W.Frag} {h : Heap} {mg : Str → Option Value} {R : Prop} {x : Str} {st : Stmt} {ps : List Str} {f : Addr} {oc : Value} {od an : Option Addr} {sl : Array (Option Value)} {kV dc pm cd ct : Value} (b : ∀ (kV doc pm : Value) (an : Option Addr) (cdv ct : Value) (us : List Value), us.length = ps.length → bindArgs (PySem.W.fnOf x x (defArgs st) (defBody st) (defScope st) .none kV doc pm an cdv ct) ⟨us, []⟩ = pure (ps.zip us))
    (X : K.In h) (G : h.Ns mainGlobals mg) (a : PySem.W.nsIn K mainGlobals x = some (some (.ref f))) (l : K.lookup f = some ⟨oc, od, .func (PySem.W.fnOf x x (defArgs st) (defBody st) (defScope st) .none kV dc pm an cd ct), sl⟩) (c : PySem.W.codeIn K cd x = true) (k : PySem.W.keepIn K (.ref f) = true) (go : At K mg x st ps → R) : R := go (at_mk b X G a l c k)
theorem gs_k {K : PySem.W.Frag} {h : Heap} {mg : Str → Option Value} {R : Prop} (X : K.In h) (C : Gs K mg) (go : Gs K mg → R) : R := go C
theorem cls_k {K : PySem.W.Frag} {h : Heap} {mg : Str → Option Value} {CA : Addr} {R : Prop} (X : K.In h) (G : h.Ns mainGlobals mg) (aC : PySem.W.nsIn K mainGlobals "House" = some (some (.ref CA))) (pg : PySem.W.plainGet K CA Str.empty = true) (hd : PySem.W.hasDictIn K CA = true) (po : PySem.W.plainOver K CA = true) (sa : PySem.W.findIn K (.ref CA) "__setattr__" = some (some (.builtin "object.__setattr__")))
    (n1 : PySem.W.findIn K (.ref CA) "states" = some none) (n2 : PySem.W.findIn K (.ref CA) "elders" = some none) (n3 : PySem.W.findIn K (.ref CA) "deeds" = some none) (n4 : PySem.W.findIn K (.ref CA) "ways" = some none) (n5 : PySem.W.findIn K (.ref CA) "stand" = some none) (go : mg "House" = some (.ref CA) → Hc K CA → R) : R :=
  go (PySem.W.mg_of X G aC) ⟨⟨pg, hd, po, sa⟩, n1, n2, n3, n4, n5⟩
theorem init_k {K : PySem.W.Frag} {h : Heap} {mg : Str → Option Value} {CA : Addr} {R : Prop} {f : Addr} {oc : Value} {od an : Option Addr} {sl : Array (Option Value)} {kV dc pm cd ct : Value} (X : K.In h) (mC : mg "House" = some (.ref CA)) (a : PySem.W.findIn K (.ref CA) "__init__" = some (some (.ref f))) (i : PySem.W.isFn K (.ref f) = true) (l : K.lookup f = some ⟨oc, od, .func (PySem.W.fnOf "__init__" "House.__init__" (defArgs s_House___init__) (defBody s_House___init__) (defScope s_House___init__) .none kV dc pm an cd ct), sl⟩) (c : PySem.W.codeIn K cd "House.__init__" = true) (k : PySem.W.keepIn K (.ref f) = true)
    (mk : PySem.W.makesIn K CA = true) (kc : PySem.W.keepIn K (.ref CA) = true) (go : ∀ f fd, Mk K CA f → Fun K "__init__" "House.__init__" s_House___init__ f fd → Binds K fd ["self"] [] → R) : R :=
  go f _ ⟨mk, a, i, kc⟩ (fun_mk l c k) ((fun_mk l c k).binds fun _ _ _ _ _ _ us hl => match us, hl with | [_], _ => rfl)
theorem atm_k {K : PySem.W.Frag} {h : Heap} {mg : Str → Option Value} {CA : Addr} {R : Prop} {x q : Str} {st : Stmt} {ps : List Str} {f : Addr} {oc : Value} {od an : Option Addr} {sl : Array (Option Value)} {kV dc pm cd ct : Value} (X : K.In h) (mC : mg "House" = some (.ref CA)) (b : ∀ (kV doc pm : Value) (an : Option Addr) (cdv ct : Value) (us : List Value), us.length = ps.length → bindArgs (PySem.W.fnOf x q (defArgs st) (defBody st) (defScope st) .none kV doc pm an cdv ct) ⟨us, []⟩ = pure (ps.zip us))
    (a : PySem.W.findIn K (.ref CA) x = some (some (.ref f))) (i : PySem.W.isFn K (.ref f) = true) (l : K.lookup f = some ⟨oc, od, .func (PySem.W.fnOf x q (defArgs st) (defBody st) (defScope st) .none kV dc pm an cd ct), sl⟩) (c : PySem.W.codeIn K cd q = true) (k : PySem.W.keepIn K (.ref f) = true) (go : AtM K CA x q st ps → R) : R :=
  go (atm_mk b a i l c k)
end Bk
open PySem PySem.W PyProof.Rows
set_option maxRecDepth 100000 in
set_option maxHeartbeats 0 in
theorem PySem.Challenge.cw_ballmoves_k96_whole_names_and_values_holds : PySem.Challenge.rw_ballmoves_k96_whole_names_and_values.Holds := by
  w_on; o_law; k_head; (case hw => w_witness2)
  k_fill
  refine Bk.walk (l := PySem.Challenge.rw_ballmoves_k96_whole_names_and_values) rfl rfl (fun w h Y => PySem.W.kIn_of Y) ?F
  case F =>
    intro w mg fa h KX G hmg
    refine' Bk.at_k (x := "is_number") (st := Bk.s_is_number) (ps := Bk.P_is_number) (fun _ _ _ _ _ _ us hl => match us, hl with | [_], _ => rfl) KX G ?a_1 ?l_1 ?c_1 ?k_1 ?go_1
    (case a_1 => k_is); (case l_1 => k_is); (case c_1 => k_is); (case k_1 => k_is)
    intro A_is_number
    refine' Bk.at_k (x := "is_row_of_numbers") (st := Bk.s_is_row_of_numbers) (ps := Bk.P_is_row_of_numbers) (fun _ _ _ _ _ _ us hl => match us, hl with | [_, _], _ => rfl) KX G ?a_2 ?l_2 ?c_2 ?k_2 ?go_2
    (case a_2 => k_is); (case l_2 => k_is); (case c_2 => k_is); (case k_2 => k_is)
    intro A_is_row_of_numbers
    refine' Bk.at_k (x := "in_form") (st := Bk.s_in_form) (ps := Bk.P_in_form) (fun _ _ _ _ _ _ us hl => match us, hl with | [_], _ => rfl) KX G ?a_3 ?l_3 ?c_3 ?k_3 ?go_3
    (case a_3 => k_is); (case l_3 => k_is); (case c_3 => k_is); (case k_3 => k_is)
    intro A_in_form
    refine' Bk.at_k (x := "size") (st := Bk.s_size) (ps := Bk.P_size) (fun _ _ _ _ _ _ us hl => match us, hl with | [_], _ => rfl) KX G ?a_4 ?l_4 ?c_4 ?k_4 ?go_4
    (case a_4 => k_is); (case l_4 => k_is); (case c_4 => k_is); (case k_4 => k_is)
    intro A_size
    refine' Bk.at_k (x := "is_move") (st := Bk.s_is_move) (ps := Bk.P_is_move) (fun _ _ _ _ _ _ us hl => match us, hl with | [_], _ => rfl) KX G ?a_5 ?l_5 ?c_5 ?k_5 ?go_5
    (case a_5 => k_is); (case l_5 => k_is); (case c_5 => k_is); (case k_5 => k_is)
    intro A_is_move
    refine' Bk.at_k (x := "after") (st := Bk.s_after) (ps := Bk.P_after) (fun _ _ _ _ _ _ us hl => match us, hl with | [_, _], _ => rfl) KX G ?a_6 ?l_6 ?c_6 ?k_6 ?go_6
    (case a_6 => k_is); (case l_6 => k_is); (case c_6 => k_is); (case k_6 => k_is)
    intro A_after
    refine' Bk.at_k (x := "back") (st := Bk.s_back) (ps := Bk.P_back) (fun _ _ _ _ _ _ us hl => match us, hl with | [_], _ => rfl) KX G ?a_7 ?l_7 ?c_7 ?k_7 ?go_7
    (case a_7 => k_is); (case l_7 => k_is); (case c_7 => k_is); (case k_7 => k_is)
    intro A_back
    refine' Bk.at_k (x := "letters_of") (st := Bk.s_letters_of) (ps := Bk.P_letters_of) (fun _ _ _ _ _ _ us hl => match us, hl with | [_], _ => rfl) KX G ?a_8 ?l_8 ?c_8 ?k_8 ?go_8
    (case a_8 => k_is); (case l_8 => k_is); (case c_8 => k_is); (case k_8 => k_is)
    intro A_letters_of
    refine' Bk.at_k (x := "used") (st := Bk.s_used) (ps := Bk.P_used) (fun _ _ _ _ _ _ us hl => match us, hl with | [_], _ => rfl) KX G ?a_9 ?l_9 ?c_9 ?k_9 ?go_9
    (case a_9 => k_is); (case l_9 => k_is); (case c_9 => k_is); (case k_9 => k_is)
    intro A_used
    refine' Bk.at_k (x := "need_name") (st := Bk.s_need_name) (ps := Bk.P_need_name) (fun _ _ _ _ _ _ us hl => match us, hl with | [_, _], _ => rfl) KX G ?a_10 ?l_10 ?c_10 ?k_10 ?go_10
    (case a_10 => k_is); (case l_10 => k_is); (case c_10 => k_is); (case k_10 => k_is)
    intro A_need_name
    refine' Bk.at_k (x := "uses") (st := Bk.s_uses) (ps := Bk.P_uses) (fun _ _ _ _ _ _ us hl => match us, hl with | [_, _], _ => rfl) KX G ?a_11 ?l_11 ?c_11 ?k_11 ?go_11
    (case a_11 => k_is); (case l_11 => k_is); (case c_11 => k_is); (case k_11 => k_is)
    intro A_uses
    refine' Bk.at_k (x := "users") (st := Bk.s_users) (ps := Bk.P_users) (fun _ _ _ _ _ _ us hl => match us, hl with | [_, _], _ => rfl) KX G ?a_12 ?l_12 ?c_12 ?k_12 ?go_12
    (case a_12 => k_is); (case l_12 => k_is); (case c_12 => k_is); (case k_12 => k_is)
    intro A_users
    refine' Bk.at_k (x := "hanging") (st := Bk.s_hanging) (ps := Bk.P_hanging) (fun _ _ _ _ _ _ us hl => match us, hl with | [_, _], _ => rfl) KX G ?a_13 ?l_13 ?c_13 ?k_13 ?go_13
    (case a_13 => k_is); (case l_13 => k_is); (case c_13 => k_is); (case k_13 => k_is)
    intro A_hanging
    refine' Bk.at_k (x := "in_turn") (st := Bk.s_in_turn) (ps := Bk.P_in_turn) (fun _ _ _ _ _ _ us hl => match us, hl with | [_], _ => rfl) KX G ?a_14 ?l_14 ?c_14 ?k_14 ?go_14
    (case a_14 => k_is); (case l_14 => k_is); (case c_14 => k_is); (case k_14 => k_is)
    intro A_in_turn
    refine' Bk.at_k (x := "values") (st := Bk.s_values) (ps := Bk.P_values) (fun _ _ _ _ _ _ us hl => match us, hl with | [_], _ => rfl) KX G ?a_15 ?l_15 ?c_15 ?k_15 ?go_15
    (case a_15 => k_is); (case l_15 => k_is); (case c_15 => k_is); (case k_15 => k_is)
    intro A_values
    refine' Bk.at_k (x := "value_of") (st := Bk.s_value_of) (ps := Bk.P_value_of) (fun _ _ _ _ _ _ us hl => match us, hl with | [_, _], _ => rfl) KX G ?a_16 ?l_16 ?c_16 ?k_16 ?go_16
    (case a_16 => k_is); (case l_16 => k_is); (case c_16 => k_is); (case k_16 => k_is)
    intro A_value_of
    refine' Bk.at_k (x := "lengths") (st := Bk.s_lengths) (ps := Bk.P_lengths) (fun _ _ _ _ _ _ us hl => match us, hl with | [_], _ => rfl) KX G ?a_17 ?l_17 ?c_17 ?k_17 ?go_17
    (case a_17 => k_is); (case l_17 => k_is); (case c_17 => k_is); (case k_17 => k_is)
    intro A_lengths
    refine' Bk.at_k (x := "length_of") (st := Bk.s_length_of) (ps := Bk.P_length_of) (fun _ _ _ _ _ _ us hl => match us, hl with | [_, _], _ => rfl) KX G ?a_18 ?l_18 ?c_18 ?k_18 ?go_18
    (case a_18 => k_is); (case l_18 => k_is); (case c_18 => k_is); (case k_18 => k_is)
    intro A_length_of
    refine' Bk.at_k (x := "is_name") (st := Bk.s_is_name) (ps := Bk.P_is_name) (fun _ _ _ _ _ _ us hl => match us, hl with | [_], _ => rfl) KX G ?a_19 ?l_19 ?c_19 ?k_19 ?go_19
    (case a_19 => k_is); (case l_19 => k_is); (case c_19 => k_is); (case k_19 => k_is)
    intro A_is_name
    refine' Bk.at_k (x := "is_pair") (st := Bk.s_is_pair) (ps := Bk.P_is_pair) (fun _ _ _ _ _ _ us hl => match us, hl with | [_], _ => rfl) KX G ?a_20 ?l_20 ?c_20 ?k_20 ?go_20
    (case a_20 => k_is); (case l_20 => k_is); (case c_20 => k_is); (case k_20 => k_is)
    intro A_is_pair
    refine' Bk.at_k (x := "are_letters") (st := Bk.s_are_letters) (ps := Bk.P_are_letters) (fun _ _ _ _ _ _ us hl => match us, hl with | [_], _ => rfl) KX G ?a_21 ?l_21 ?c_21 ?k_21 ?go_21
    (case a_21 => k_is); (case l_21 => k_is); (case c_21 => k_is); (case k_21 => k_is)
    intro A_are_letters
    refine' Bk.at_k (x := "has_form") (st := Bk.s_has_form) (ps := Bk.P_has_form) (fun _ _ _ _ _ _ us hl => match us, hl with | [_], _ => rfl) KX G ?a_22 ?l_22 ?c_22 ?k_22 ?go_22
    (case a_22 => k_is); (case l_22 => k_is); (case c_22 => k_is); (case k_22 => k_is)
    intro A_has_form
    refine' Bk.at_k (x := "placed") (st := Bk.s_placed) (ps := Bk.P_placed) (fun _ _ _ _ _ _ us hl => match us, hl with | [_, _, _], _ => rfl) KX G ?a_23 ?l_23 ?c_23 ?k_23 ?go_23
    (case a_23 => k_is); (case l_23 => k_is); (case c_23 => k_is); (case k_23 => k_is)
    intro A_placed
    refine' Bk.at_k (x := "need_room") (st := Bk.s_need_room) (ps := Bk.P_need_room) (fun _ _ _ _ _ _ us hl => match us, hl with | [_], _ => rfl) KX G ?a_24 ?l_24 ?c_24 ?k_24 ?go_24
    (case a_24 => k_is); (case l_24 => k_is); (case c_24 => k_is); (case k_24 => k_is)
    intro A_need_room
    refine' Bk.at_k (x := "behind_told") (st := Bk.s_behind_told) (ps := Bk.P_behind_told) (fun _ _ _ _ _ _ us hl => match us, hl with | [_, _, _], _ => rfl) KX G ?a_25 ?l_25 ?c_25 ?k_25 ?go_25
    (case a_25 => k_is); (case l_25 => k_is); (case c_25 => k_is); (case k_25 => k_is)
    intro A_behind_told
    refine' Bk.at_k (x := "called_anew") (st := Bk.s_called_anew) (ps := Bk.P_called_anew) (fun _ _ _ _ _ _ us hl => match us, hl with | [_, _, _], _ => rfl) KX G ?a_26 ?l_26 ?c_26 ?k_26 ?go_26
    (case a_26 => k_is); (case l_26 => k_is); (case c_26 => k_is); (case k_26 => k_is)
    intro A_called_anew
    refine' Bk.at_k (x := "behind") (st := Bk.s_behind) (ps := Bk.P_behind) (fun _ _ _ _ _ _ us hl => match us, hl with | [_, _], _ => rfl) KX G ?a_27 ?l_27 ?c_27 ?k_27 ?go_27
    (case a_27 => k_is); (case l_27 => k_is); (case c_27 => k_is); (case k_27 => k_is)
    intro A_behind
    refine' Bk.at_k (x := "come") (st := Bk.s_come) (ps := Bk.P_come) (fun _ _ _ _ _ _ us hl => match us, hl with | [_, _, _], _ => rfl) KX G ?a_28 ?l_28 ?c_28 ?k_28 ?go_28
    (case a_28 => k_is); (case l_28 => k_is); (case c_28 => k_is); (case k_28 => k_is)
    intro A_come
    refine' Bk.at_k (x := "need_none") (st := Bk.s_need_none) (ps := Bk.P_need_none) (fun _ _ _ _ _ _ us hl => match us, hl with | [_], _ => rfl) KX G ?a_29 ?l_29 ?c_29 ?k_29 ?go_29
    (case a_29 => k_is); (case l_29 => k_is); (case c_29 => k_is); (case k_29 => k_is)
    intro A_need_none
    refine' Bk.at_k (x := "merged") (st := Bk.s_merged) (ps := Bk.P_merged) (fun _ _ _ _ _ _ us hl => match us, hl with | [_, _, _], _ => rfl) KX G ?a_30 ?l_30 ?c_30 ?k_30 ?go_30
    (case a_30 => k_is); (case l_30 => k_is); (case c_30 => k_is); (case k_30 => k_is)
    intro A_merged
    refine' Bk.at_k (x := "changed") (st := Bk.s_changed) (ps := Bk.P_changed) (fun _ _ _ _ _ _ us hl => match us, hl with | [_, _, _], _ => rfl) KX G ?a_31 ?l_31 ?c_31 ?k_31 ?go_31
    (case a_31 => k_is); (case l_31 => k_is); (case c_31 => k_is); (case k_31 => k_is)
    intro A_changed
    refine' Bk.at_k (x := "_law_open_cells") (st := Bk.s__law_open_cells) (ps := Bk.P__law_open_cells) (fun _ _ _ _ _ _ us hl => match us, hl with | [_], _ => rfl) KX G ?a_32 ?l_32 ?c_32 ?k_32 ?go_32
    (case a_32 => k_is); (case l_32 => k_is); (case c_32 => k_is); (case k_32 => k_is)
    intro A__law_open_cells
    refine' Bk.at_k (x := "_law_pick") (st := Bk.s__law_pick) (ps := Bk.P__law_pick) (fun _ _ _ _ _ _ us hl => match us, hl with | [_, _], _ => rfl) KX G ?a_33 ?l_33 ?c_33 ?k_33 ?go_33
    (case a_33 => k_is); (case l_33 => k_is); (case c_33 => k_is); (case k_33 => k_is)
    intro A__law_pick
    refine' Bk.at_k (x := "_law_any_order") (st := Bk.s__law_any_order) (ps := Bk.P__law_any_order) (fun _ _ _ _ _ _ us hl => match us, hl with | [_, _], _ => rfl) KX G ?a_34 ?l_34 ?c_34 ?k_34 ?go_34
    (case a_34 => k_is); (case l_34 => k_is); (case c_34 => k_is); (case k_34 => k_is)
    intro A__law_any_order
    refine' Bk.at_k (x := "_law_draw_small") (st := Bk.s__law_draw_small) (ps := Bk.P__law_draw_small) (fun _ _ _ _ _ _ us hl => match us, hl with | [_], _ => rfl) KX G ?a_35 ?l_35 ?c_35 ?k_35 ?go_35
    (case a_35 => k_is); (case l_35 => k_is); (case c_35 => k_is); (case k_35 => k_is)
    intro A__law_draw_small
    refine' Bk.at_k (x := "_law_draw_letters") (st := Bk.s__law_draw_letters) (ps := Bk.P__law_draw_letters) (fun _ _ _ _ _ _ us hl => match us, hl with | [_, _, _], _ => rfl) KX G ?a_36 ?l_36 ?c_36 ?k_36 ?go_36
    (case a_36 => k_is); (case l_36 => k_is); (case c_36 => k_is); (case k_36 => k_is)
    intro A__law_draw_letters
    refine' Bk.at_k (x := "_law_all_values") (st := Bk.s__law_all_values) (ps := Bk.P__law_all_values) (fun _ _ _ _ _ _ us hl => match us, hl with | [_], _ => rfl) KX G ?a_37 ?l_37 ?c_37 ?k_37 ?go_37
    (case a_37 => k_is); (case l_37 => k_is); (case c_37 => k_is); (case k_37 => k_is)
    intro A__law_all_values
    refine' Bk.at_k (x := "_law_draw_state") (st := Bk.s__law_draw_state) (ps := Bk.P__law_draw_state) (fun _ _ _ _ _ _ us hl => match us, hl with | [_], _ => rfl) KX G ?a_38 ?l_38 ?c_38 ?k_38 ?go_38
    (case a_38 => k_is); (case l_38 => k_is); (case c_38 => k_is); (case k_38 => k_is)
    intro A__law_draw_state
    refine' Bk.at_k (x := "_law_fixed_right") (st := Bk.s__law_fixed_right) (ps := Bk.P__law_fixed_right) (fun _ _ _ _ _ _ us hl => match us, hl with | [_, _], _ => rfl) KX G ?a_39 ?l_39 ?c_39 ?k_39 ?go_39
    (case a_39 => k_is); (case l_39 => k_is); (case c_39 => k_is); (case k_39 => k_is)
    intro A__law_fixed_right
    refine' Bk.at_k (x := "_law_set_right") (st := Bk.s__law_set_right) (ps := Bk.P__law_set_right) (fun _ _ _ _ _ _ us hl => match us, hl with | [_, _], _ => rfl) KX G ?a_40 ?l_40 ?c_40 ?k_40 ?go_40
    (case a_40 => k_is); (case l_40 => k_is); (case c_40 => k_is); (case k_40 => k_is)
    intro A__law_set_right
    refine' Bk.gs_k KX { IDLE := Bk.idle_mk KX G ?a0_41 ?l0_41, LETTERS := Bk.str_mk KX G ?gLETTERS_41, MOST_SIGNS := Bk.int_mk KX G ?gMOST_SIGNS_41, MOST_LETTERS := Bk.int_mk KX G ?gMOST_LETTERS_41, MOST_NAMES := Bk.int_mk KX G ?gMOST_NAMES_41, MOST_LENGTH := Bk.int_mk KX G ?gMOST_LENGTH_41, MAIN := Bk.str_mk KX G ?gMAIN_41, MOST_MOMENTS := Bk.int_mk KX G ?gMOST_MOMENTS_41, MOST_BRANCHES := Bk.int_mk KX G ?gMOST_BRANCHES_41, gcd := PySem.W.mg_of KX G ?ggcd_41, len := PySem.W.mg_none_of KX G ?zlen_41, isinstance := PySem.W.mg_none_of KX G ?zisinstance_41, sorted := PySem.W.mg_none_of KX G ?zsorted_41, b_all := PySem.W.mg_none_of KX G ?zb_all_41, b_any := PySem.W.mg_none_of KX G ?zb_any_41, sum := PySem.W.mg_none_of KX G ?zsum_41, max := PySem.W.mg_none_of KX G ?zmax_41, abs := PySem.W.mg_none_of KX G ?zabs_41, range := PySem.W.mg_none_of KX G ?zrange_41, b_int := PySem.W.mg_none_of KX G ?zb_int_41, b_bool := PySem.W.mg_none_of KX G ?zb_bool_41, b_str := PySem.W.mg_none_of KX G ?zb_str_41, b_tuple := PySem.W.mg_none_of KX G ?zb_tuple_41, b_list := PySem.W.mg_none_of KX G ?zb_list_41, b_dict := PySem.W.mg_none_of KX G ?zb_dict_41 } ?go_41
    (case a0_41 => k_is); (case l0_41 => k_is); (case gLETTERS_41 => k_is); (case gMOST_SIGNS_41 => k_is); (case gMOST_LETTERS_41 => k_is); (case gMOST_NAMES_41 => k_is); (case gMOST_LENGTH_41 => k_is); (case gMAIN_41 => k_is); (case gMOST_MOMENTS_41 => k_is); (case gMOST_BRANCHES_41 => k_is); (case ggcd_41 => k_is); (case zlen_41 => k_is); (case zisinstance_41 => k_is); (case zsorted_41 => k_is); (case zb_all_41 => k_is); (case zb_any_41 => k_is); (case zsum_41 => k_is); (case zmax_41 => k_is); (case zabs_41 => k_is); (case zrange_41 => k_is); (case zb_int_41 => k_is); (case zb_bool_41 => k_is); (case zb_str_41 => k_is); (case zb_tuple_41 => k_is); (case zb_list_41 => k_is); (case zb_dict_41 => k_is)
    intro C
    refine' Bk.cls_k KX G ?aC_42 ?pg_42 ?hd_42 ?po_42 ?sa_42 ?n1_42 ?n2_42 ?n3_42 ?n4_42 ?n5_42 ?go_42
    (case aC_42 => k_is); (case pg_42 => k_is); (case hd_42 => k_is); (case po_42 => k_is); (case sa_42 => k_is); (case n1_42 => k_is); (case n2_42 => k_is); (case n3_42 => k_is); (case n4_42 => k_is); (case n5_42 => k_is)
    intro mC T
    refine' Bk.init_k KX mC ?a_43 ?i_43 ?l_43 ?c_43 ?k_43 ?mk_43 ?kc_43 ?go_43
    (case a_43 => k_is); (case i_43 => k_is); (case l_43 => k_is); (case c_43 => k_is); (case k_43 => k_is); (case mk_43 => k_is); (case kc_43 => k_is)
    intro f1 fd1 mk F1 b1
    refine' Bk.atm_k (x := "way_of") (q := "House.way_of") (st := Bk.s_House_way_of) (ps := Bk.P_House_way_of) KX mC (fun _ _ _ _ _ _ us hl => match us, hl with | [_, _], _ => rfl) ?a_44 ?i_44 ?l_44 ?c_44 ?k_44 ?go_44
    (case a_44 => k_is); (case i_44 => k_is); (case l_44 => k_is); (case c_44 => k_is); (case k_44 => k_is)
    intro B_way_of
    refine' Bk.atm_k (x := "present") (q := "House.present") (st := Bk.s_House_present) (ps := Bk.P_House_present) KX mC (fun _ _ _ _ _ _ us hl => match us, hl with | [_], _ => rfl) ?a_45 ?i_45 ?l_45 ?c_45 ?k_45 ?go_45
    (case a_45 => k_is); (case i_45 => k_is); (case l_45 => k_is); (case c_45 => k_is); (case k_45 => k_is)
    intro B_present
    refine' Bk.atm_k (x := "branches") (q := "House.branches") (st := Bk.s_House_branches) (ps := Bk.P_House_branches) KX mC (fun _ _ _ _ _ _ us hl => match us, hl with | [_], _ => rfl) ?a_46 ?i_46 ?l_46 ?c_46 ?k_46 ?go_46
    (case a_46 => k_is); (case i_46 => k_is); (case l_46 => k_is); (case c_46 => k_is); (case k_46 => k_is)
    intro B_branches
    refine' Bk.atm_k (x := "moved_to") (q := "House.moved_to") (st := Bk.s_House_moved_to) (ps := Bk.P_House_moved_to) KX mC (fun _ _ _ _ _ _ us hl => match us, hl with | [_, _, _], _ => rfl) ?a_47 ?i_47 ?l_47 ?c_47 ?k_47 ?go_47
    (case a_47 => k_is); (case i_47 => k_is); (case l_47 => k_is); (case c_47 => k_is); (case k_47 => k_is)
    intro B_moved_to
    refine' Bk.atm_k (x := "made") (q := "House.made") (st := Bk.s_House_made) (ps := Bk.P_House_made) KX mC (fun _ _ _ _ _ _ us hl => match us, hl with | [_, _, _, _], _ => rfl) ?a_48 ?i_48 ?l_48 ?c_48 ?k_48 ?go_48
    (case a_48 => k_is); (case i_48 => k_is); (case l_48 => k_is); (case c_48 => k_is); (case k_48 => k_is)
    intro B_made
    refine' Bk.atm_k (x := "do") (q := "House.do") (st := Bk.s_House_do) (ps := Bk.P_House_do) KX mC (fun _ _ _ _ _ _ us hl => match us, hl with | [_, _], _ => rfl) ?a_49 ?i_49 ?l_49 ?c_49 ?k_49 ?go_49
    (case a_49 => k_is); (case i_49 => k_is); (case l_49 => k_is); (case c_49 => k_is); (case k_49 => k_is)
    intro B_do
    refine' Bk.atm_k (x := "go") (q := "House.go") (st := Bk.s_House_go) (ps := Bk.P_House_go) KX mC (fun _ _ _ _ _ _ us hl => match us, hl with | [_, _], _ => rfl) ?a_50 ?i_50 ?l_50 ?c_50 ?k_50 ?go_50
    (case a_50 => k_is); (case i_50 => k_is); (case l_50 => k_is); (case c_50 => k_is); (case k_50 => k_is)
    intro B_go
    refine' Bk.atm_k (x := "branch") (q := "House.branch") (st := Bk.s_House_branch) (ps := Bk.P_House_branch) KX mC (fun _ _ _ _ _ _ us hl => match us, hl with | [_, _], _ => rfl) ?a_51 ?i_51 ?l_51 ?c_51 ?k_51 ?go_51
    (case a_51 => k_is); (case i_51 => k_is); (case l_51 => k_is); (case c_51 => k_is); (case k_51 => k_is)
    intro B_branch
    refine' Bk.atm_k (x := "state") (q := "House.state") (st := Bk.s_House_state) (ps := Bk.P_House_state) KX mC (fun _ _ _ _ _ _ us hl => match us, hl with | [_], _ => rfl) ?a_52 ?i_52 ?l_52 ?c_52 ?k_52 ?go_52
    (case a_52 => k_is); (case i_52 => k_is); (case l_52 => k_is); (case c_52 => k_is); (case k_52 => k_is)
    intro B_state
    refine' Bk.atm_k (x := "need_moment") (q := "House.need_moment") (st := Bk.s_House_need_moment) (ps := Bk.P_House_need_moment) KX mC (fun _ _ _ _ _ _ us hl => match us, hl with | [_, _], _ => rfl) ?a_53 ?i_53 ?l_53 ?c_53 ?k_53 ?go_53
    (case a_53 => k_is); (case i_53 => k_is); (case l_53 => k_is); (case c_53 => k_is); (case k_53 => k_is)
    intro B_need_moment
    refine' Bk.atm_k (x := "state_at") (q := "House.state_at") (st := Bk.s_House_state_at) (ps := Bk.P_House_state_at) KX mC (fun _ _ _ _ _ _ us hl => match us, hl with | [_, _], _ => rfl) ?a_54 ?i_54 ?l_54 ?c_54 ?k_54 ?go_54
    (case a_54 => k_is); (case i_54 => k_is); (case l_54 => k_is); (case c_54 => k_is); (case k_54 => k_is)
    intro B_state_at
    refine' Bk.atm_k (x := "follow") (q := "House.follow") (st := Bk.s_House_follow) (ps := Bk.P_House_follow) KX mC (fun _ _ _ _ _ _ us hl => match us, hl with | [_, _], _ => rfl) ?a_55 ?i_55 ?l_55 ?c_55 ?k_55 ?go_55
    (case a_55 => k_is); (case i_55 => k_is); (case l_55 => k_is); (case c_55 => k_is); (case k_55 => k_is)
    intro B_follow
    refine' Bk.atm_k (x := "twin") (q := "House.twin") (st := Bk.s_House_twin) (ps := Bk.P_House_twin) KX mC (fun _ _ _ _ _ _ us hl => match us, hl with | [_], _ => rfl) ?a_56 ?i_56 ?l_56 ?c_56 ?k_56 ?go_56
    (case a_56 => k_is); (case i_56 => k_is); (case l_56 => k_is); (case c_56 => k_is); (case k_56 => k_is)
    intro B_twin
    refine' Bk.atm_k (x := "all_elders") (q := "House.all_elders") (st := Bk.s_House_all_elders) (ps := Bk.P_House_all_elders) KX mC (fun _ _ _ _ _ _ us hl => match us, hl with | [_, _], _ => rfl) ?a_57 ?i_57 ?l_57 ?c_57 ?k_57 ?go_57
    (case a_57 => k_is); (case i_57 => k_is); (case l_57 => k_is); (case c_57 => k_is); (case k_57 => k_is)
    intro B_all_elders
    refine' Bk.atm_k (x := "merge") (q := "House.merge") (st := Bk.s_House_merge) (ps := Bk.P_House_merge) KX mC (fun _ _ _ _ _ _ us hl => match us, hl with | [_, _], _ => rfl) ?a_58 ?i_58 ?l_58 ?c_58 ?k_58 ?go_58
    (case a_58 => k_is); (case i_58 => k_is); (case l_58 => k_is); (case c_58 => k_is); (case k_58 => k_is)
    intro B_merge
    refine' Bk.end_mk KX G hmg ?a_59 ?l_59 ?c_59 ?k_59 ?k2_59
    (case a_59 => k_is); (case l_59 => k_is); (case c_59 => k_is); (case k_59 => k_is)
    exact fun fd F2 => Bk.law_all C T mk mC F1 b1 F2 A_is_number A_is_row_of_numbers A_in_form A_size A_is_move A_after A_back A_letters_of A_used A_need_name A_uses A_users A_hanging A_in_turn A_values A_value_of A_lengths A_length_of A_is_name A_is_pair A_are_letters A_has_form A_placed A_need_room A_behind_told A_called_anew A_behind A_come A_need_none A_merged B_way_of B_present B_branches B_moved_to B_made B_do B_go B_branch B_state B_need_moment B_state_at B_follow B_twin B_all_elders B_merge A_changed A__law_open_cells A__law_pick A__law_any_order A__law_draw_small A__law_draw_letters A__law_all_values A__law_draw_state A__law_fixed_right A__law_set_right
