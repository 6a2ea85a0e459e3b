/- Cut by wip/cut.py out of the texts of this claim (printed by the kit's printer, or this session's own): what the row's theorem does not reach is struck. Not trusted: Lean checks it. -/
import Derived.Test.YtpopeedfgenebaaDoorZFnPostCrossesPx39
namespace Go.Proofs.YtpopeedfgenebaaDoor.PFnPostCrosses
open Go.RowKit Go.Proofs.YtpopeedfgenebaaDoorW.PrintWords Go.Proofs.YtpopeedfgenebaaDoorW.PrintLast Go.Proofs.YtpopeedfgenebaaDoorW.PrintMore
attribute [local go_sem] zb qz zf ze qw qv za qy
set_option linter.unusedVariables false
set_option linter.defProp false
set_option linter.unusedSimpArgs false
set_option maxHeartbeats 8000000 in
set_option maxRecDepth 100000 in
theorem laws_FnPostCrosses.p29 : Bx.A1 laws_FnPostCrosses.p28 := by
 unfold Bx.A1
 set_option tactic.hygienic false in intros
 go_wp2_with (first | ((with_reducible refine gate_store (t := 3) (p := 452) rfl ?_); refine store_event (t := 3) (p := 452) (v := ?vo_w212) (w1 := (wr.setCell ⟨go210, (x443_5 : Int).toNat, none⟩ (.int .i64 (wrap64 (1 - (rd t349 x443_5)))))) ?hg ?ho ?hn ?hr ?_; (case ho => rfl); (case hg => rfl); (case hn => rfl); (case hr => first | (go_simp; done) | (go_simp; rfl)); intro w212 hw; have hg : wr.grownBy w212 (some go210) := (by rw [hw]; exact HP211.2); have hp_ : Kd.R (Kd.int .i64) 3 w212 w.heap.size (fun k_ => some k_ ≠ (.slice (some ad363) t349.length co194 : Value).ownBlock) (.slice (some ⟨go210, 0, none⟩) x51_5.length co210) y364 := (by rw [hw, Ny364.out]; exact HP211.1); clear HP211; replace HO_51 := qa.mk (hp_); replace HO_441 := qa.mk (Kd.R_after (v := (.slice (some ⟨go210, 0, none⟩) x51_5.length co210)) (v1 := (.slice (some ⟨go210, 0, none⟩) x51_5.length co210)) (ok := (fun _ => True)) (by (with_reducible repeat (first | apply Kd.qu | apply Kd.qt | apply Kd.qx)); exact Kd.R_mono HO_441.out (fun _ hk => ⟨trivial, hk⟩)) hg (.inl rfl)); replace HB := qa.mk ((by rw [hw]; exact qp (HB.out) GB210.out : Below w.heap.size w w212)); clear hg hw hp_))
 go_roundg k5
 case measure => have := HJ17.out; have := HJ114.out; have := HJ181.out; have := HJ191.out; have := HK5.out; omega
 case rel => exact ⟨(y364), (wrap64 (x443_5 + 1)), es_, H', ⟨by have := HJ17.out; have := HJ114.out; have := HJ181.out; have := HJ191.out; have := HK5.out; omega⟩, ⟨kr_ HO_51⟩, ⟨by (with_reducible repeat (first | apply Kd.qu | apply Kd.qt | apply Kd.qx)); exact Kd.R_mono HO_441.out (fun _ hk => hk.2)⟩, ⟨be0_ HB⟩⟩
set_option maxHeartbeats 8000000 in
set_option maxRecDepth 100000 in
theorem laws_FnPostCrosses.p30 : Bx.A2 laws_FnPostCrosses.p28 := by
 unfold Bx.A2
 set_option tactic.hygienic false in intros
 go_wp2_with (first | (refine gL_ 457 Tryd.func23 #[.string t358, .slice Ao223 x51_5.length co223] ?_; refine (impl_RouteCrossings.calls k5 t358 _ _ x51_5 t365 true _ (by repeat (first | exact (Kd.R_reads' HO_51.out).2.2 | (with_reducible refine Kd.zh ?_ _) | (with_reducible refine Kd.zg ?_ _) | (with_reducible refine Kd.zk ?_))) ((Kd.R_reads' HO_51.out).2.1) A213.out).mono ?_; rintro e w' ⟨rfl, ⟨nd, rfl⟩⟩; refine ⟨_, rfl, ?_⟩))
 go_ret
 exact ⟨er_, be0_ HB⟩
end Go.Proofs.YtpopeedfgenebaaDoor.PFnPostCrosses
