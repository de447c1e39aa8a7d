/- THE FACTS OF THE LAW EventKnown, joined. Made by program. No condition. -/
import Derived.Test.YtjbefleabibmmaaGreatDoorEventKnownT
import Derived.Test.YtjbefleabibmmaaGreatDoorEventKnownK
import Derived.Test.YtjbefleabibmmaaGreatDoorEventKnownF1
import Derived.Test.YtjbefleabibmmaaGreatDoorEventKnownF2
import Derived.Test.YtjbefleabibmmaaGreatDoorEventKnownF3
import Derived.Test.YtjbefleabibmmaaGreatDoorEventKnownF4
import Derived.Test.YtjbefleabibmmaaGreatDoorEventKnownF5
import Derived.Test.YtjbefleabibmmaaGreatDoorEventKnownF6
import Derived.Test.YtjbefleabibmmaaGreatDoorEventKnownF7
namespace Go.Proofs.YtjbefleabibmmaaGreatDoor.eventKnown
open Go
set_option maxRecDepth 100000
theorem good0 : E2.SpecOk Tryz.prog fact0.f fact0.tryR := E2.goodR_fact Tryz.checked.mixed tables E2.goodR_nil (by kernel_rfl) run0
theorem good1 : E2.SpecOk Tryz.prog fact1.f fact1.tryR := E2.goodR_fact Tryz.checked.mixed tables (E2.goodR_cons good0 E2.goodR_nil) (by kernel_rfl) run1
theorem good2 : E2.SpecOk Tryz.prog fact2.f fact2.tryR := E2.goodR_fact Tryz.checked.mixed tables E2.goodR_nil (by kernel_rfl) run2
theorem good3 : E2.SpecOk Tryz.prog fact3.f fact3.tryR := E2.goodR_fact Tryz.checked.mixed tables E2.goodR_nil (by kernel_rfl) run3
theorem good4 : E2.SpecOk Tryz.prog fact4.f fact4.tryR := E2.goodR_fact Tryz.checked.mixed tables (E2.goodR_cons good2 (E2.goodR_cons good3 E2.goodR_nil)) (by kernel_rfl) run4
theorem good5 : E2.SpecOk Tryz.prog fact5.f fact5.tryR := E2.goodR_fact Tryz.checked.mixed tables (E2.goodR_cons good0 E2.goodR_nil) (by kernel_rfl) run5
theorem good6 : E2.SpecOk Tryz.prog fact6.f fact6.tryR := E2.goodR_fact Tryz.checked.mixed tables (E2.goodR_cons good5 (E2.goodR_cons good0 E2.goodR_nil)) (by kernel_rfl) run6
theorem good7 : E2.SpecOk Tryz.prog fact7.f fact7.tryR := E2.goodR_fact Tryz.checked.mixed tables (E2.goodR_cons good0 E2.goodR_nil) (by kernel_rfl) run7
theorem good8 : E2.SpecOk Tryz.prog fact8.f fact8.tryR := E2.goodR_fact Tryz.checked.mixed tables (E2.goodR_cons good6 (E2.goodR_cons good5 (E2.goodR_cons good0 (E2.goodR_cons good7 E2.goodR_nil)))) (by kernel_rfl) run8
theorem good9 : E2.SpecOk Tryz.prog fact9.f fact9.tryR := E2.goodR_fact Tryz.checked.mixed tables E2.goodR_nil (by kernel_rfl) run9
theorem good10 : E2.SpecOk Tryz.prog fact10.f fact10.tryR := E2.goodR_fact Tryz.checked.mixed tables (E2.goodR_cons good0 E2.goodR_nil) (by kernel_rfl) run10
theorem good11 : E2.SpecOk Tryz.prog fact11.f fact11.tryR := E2.goodR_fact Tryz.checked.mixed tables (E2.goodR_cons good10 (E2.goodR_cons good0 E2.goodR_nil)) (by kernel_rfl) run11
theorem good12 : E2.SpecOk Tryz.prog fact12.f fact12.tryR := E2.goodR_fact Tryz.checked.mixed tables E2.goodR_nil (by kernel_rfl) run12
theorem good13 : E2.SpecOk Tryz.prog fact13.f fact13.tryR := E2.goodR_fact Tryz.checked.mixed tables (E2.goodR_cons good12 E2.goodR_nil) (by kernel_rfl) run13
theorem good14 : E2.SpecOk Tryz.prog fact14.f fact14.tryR := E2.goodR_fact Tryz.checked.mixed tables (E2.goodR_cons good12 E2.goodR_nil) (by kernel_rfl) run14
theorem good15 : E2.SpecOk Tryz.prog fact15.f fact15.tryR := E2.goodR_fact Tryz.checked.mixed tables (E2.goodR_cons good14 (E2.goodR_cons good12 E2.goodR_nil)) (by kernel_rfl) run15
theorem good16 : E2.SpecOk Tryz.prog fact16.f fact16.tryR := E2.goodR_fact Tryz.checked.mixed tables (E2.goodR_cons good12 (E2.goodR_cons good13 (E2.goodR_cons good4 (E2.goodR_cons good15 (E2.goodR_cons good14 E2.goodR_nil))))) (by kernel_rfl) run16
theorem good17 : E2.SpecOk Tryz.prog fact17.f fact17.tryR := E2.goodR_fact Tryz.checked.mixed tables (E2.goodR_cons good0 E2.goodR_nil) (by kernel_rfl) run17
theorem good18 : E2.SpecOk Tryz.prog fact18.f fact18.tryR := E2.goodR_fact Tryz.checked.mixed tables (E2.goodR_cons good17 (E2.goodR_cons good0 E2.goodR_nil)) (by kernel_rfl) run18
theorem good19 : E2.SpecOk Tryz.prog fact19.f fact19.tryR := E2.goodR_fact Tryz.checked.mixed tables (E2.goodR_cons good18 (E2.goodR_cons good17 (E2.goodR_cons good0 (E2.goodR_cons good7 E2.goodR_nil)))) (by kernel_rfl) run19
theorem good20 : E2.SpecOk Tryz.prog fact20.f fact20.tryR := E2.goodR_fact Tryz.checked.mixed tables (E2.goodR_cons good9 E2.goodR_nil) (by kernel_rfl) run20
theorem good21 : E2.SpecOk Tryz.prog fact21.f fact21.tryR := E2.goodR_fact Tryz.checked.mixed tables (E2.goodR_cons good9 E2.goodR_nil) (by kernel_rfl) run21
theorem good22 : E2.SpecOk Tryz.prog fact22.f fact22.tryR := E2.goodR_fact Tryz.checked.mixed tables E2.goodR_nil (by kernel_rfl) run22
theorem good23 : E2.SpecOk Tryz.prog fact23.f fact23.tryR := E2.goodR_fact Tryz.checked.mixed tables (E2.goodR_cons good22 E2.goodR_nil) (by kernel_rfl) run23
theorem good24 : E2.SpecOk Tryz.prog fact24.f fact24.tryR := E2.goodR_fact Tryz.checked.mixed tables E2.goodR_nil (by kernel_rfl) run24
theorem good25 : E2.SpecOk Tryz.prog fact25.f fact25.tryR := E2.goodR_fact Tryz.checked.mixed tables (E2.goodR_cons good24 E2.goodR_nil) (by kernel_rfl) run25
theorem good26 : E2.SpecOk Tryz.prog fact26.f fact26.tryR := E2.goodR_fact Tryz.checked.mixed tables (E2.goodR_cons good22 E2.goodR_nil) (by kernel_rfl) run26
theorem good27 : E2.SpecOk Tryz.prog fact27.f fact27.tryR := E2.goodR_fact Tryz.checked.mixed tables (E2.goodR_cons good22 E2.goodR_nil) (by kernel_rfl) run27
theorem good28 : E2.SpecOk Tryz.prog fact28.f fact28.tryR := E2.goodR_fact Tryz.checked.mixed tables (E2.goodR_cons good26 (E2.goodR_cons good27 E2.goodR_nil)) (by kernel_rfl) run28
theorem good29 : E2.SpecOk Tryz.prog fact29.f fact29.tryR := E2.goodR_fact Tryz.checked.mixed tables (E2.goodR_cons good28 (E2.goodR_cons good26 (E2.goodR_cons good22 (E2.goodR_cons good27 E2.goodR_nil)))) (by kernel_rfl) run29
theorem good30 : E2.SpecOk Tryz.prog fact30.f fact30.tryR := E2.goodR_fact Tryz.checked.mixed tables (E2.goodR_cons good22 (E2.goodR_cons good23 (E2.goodR_cons good25 (E2.goodR_cons good29 E2.goodR_nil)))) (by kernel_rfl) run30
theorem good31 : E2.SpecOk Tryz.prog fact31.f fact31.tryR := E2.goodR_fact Tryz.checked.mixed tables E2.goodR_nil (by kernel_rfl) run31
theorem good32 : E2.SpecOk Tryz.prog fact32.f fact32.tryR := E2.goodR_fact Tryz.checked.mixed tables (E2.goodR_cons good31 E2.goodR_nil) (by kernel_rfl) run32
theorem good33 : E2.SpecOk Tryz.prog fact33.f fact33.tryR := E2.goodR_fact Tryz.checked.mixed tables E2.goodR_nil (by kernel_rfl) run33
theorem good34 : E2.SpecOk Tryz.prog fact34.f fact34.tryR := E2.goodR_fact Tryz.checked.mixed tables E2.goodR_nil (by kernel_rfl) run34
theorem good35 : E2.SpecOk Tryz.prog fact35.f fact35.tryR := E2.goodR_fact Tryz.checked.mixed tables (E2.goodR_cons good31 (E2.goodR_cons good32 (E2.goodR_cons good33 (E2.goodR_cons good34 E2.goodR_nil)))) (by kernel_rfl) run35
theorem good36 : E2.SpecOk Tryz.prog fact36.f fact36.tryR := E2.goodR_fact Tryz.checked.mixed tables (E2.goodR_cons good31 E2.goodR_nil) (by kernel_rfl) run36
theorem good37 : E2.SpecOk Tryz.prog fact37.f fact37.tryR := E2.goodR_fact Tryz.checked.mixed tables (E2.goodR_cons good31 E2.goodR_nil) (by kernel_rfl) run37
theorem good38 : E2.SpecOk Tryz.prog fact38.f fact38.tryR := E2.goodR_fact Tryz.checked.mixed tables (E2.goodR_cons good36 (E2.goodR_cons good37 E2.goodR_nil)) (by kernel_rfl) run38
theorem good39 : E2.SpecOk Tryz.prog fact39.f fact39.tryR := E2.goodR_fact Tryz.checked.mixed tables (E2.goodR_cons good38 (E2.goodR_cons good36 (E2.goodR_cons good31 (E2.goodR_cons good37 E2.goodR_nil)))) (by kernel_rfl) run39
theorem good40 : E2.SpecOk Tryz.prog fact40.f fact40.tryR := E2.goodR_fact Tryz.checked.mixed tables E2.goodR_nil (by kernel_rfl) run40
theorem good41 : E2.SpecOk Tryz.prog fact41.f fact41.tryR := E2.goodR_fact Tryz.checked.mixed tables (E2.goodR_cons good9 E2.goodR_nil) (by kernel_rfl) run41
theorem good42 : E2.SpecOk Tryz.prog fact42.f fact42.tryR := E2.goodR_fact Tryz.checked.mixed tables (E2.goodR_cons good9 E2.goodR_nil) (by kernel_rfl) run42
theorem good43 : E2.SpecOk Tryz.prog fact43.f fact43.tryR := E2.goodR_fact Tryz.checked.mixed tables E2.goodR_nil (by kernel_rfl) run43
theorem good44 : E2.SpecOk Tryz.prog fact44.f fact44.tryR := E2.goodR_fact Tryz.checked.mixed tables E2.goodR_nil (by kernel_rfl) run44
theorem good45 : E2.SpecOk Tryz.prog fact45.f fact45.tryR := E2.goodR_fact Tryz.checked.mixed tables (E2.goodR_cons good0 E2.goodR_nil) (by kernel_rfl) run45
theorem good46 : E2.SpecOk Tryz.prog fact46.f fact46.tryR := E2.goodR_fact Tryz.checked.mixed tables (E2.goodR_cons good0 E2.goodR_nil) (by kernel_rfl) run46
theorem good47 : E2.SpecOk Tryz.prog fact47.f fact47.tryR := E2.goodR_fact Tryz.checked.mixed tables (E2.goodR_cons good45 (E2.goodR_cons good46 (E2.goodR_cons good1 (E2.goodR_cons good4 E2.goodR_nil)))) (by kernel_rfl) run47
theorem good48 : E2.SpecOk Tryz.prog fact48.f fact48.tryR := E2.goodR_fact Tryz.checked.mixed tables E2.goodR_nil (by kernel_rfl) run48
theorem good49 : E2.SpecOk Tryz.prog fact49.f fact49.tryR := E2.goodR_fact Tryz.checked.mixed tables E2.goodR_nil (by kernel_rfl) run49
theorem good50 : E2.SpecOk Tryz.prog fact50.f fact50.tryR := E2.goodR_fact Tryz.checked.mixed tables E2.goodR_nil (by kernel_rfl) run50
theorem good51 : E2.SpecOk Tryz.prog fact51.f fact51.tryR := E2.goodR_fact Tryz.checked.mixed tables E2.goodR_nil (by kernel_rfl) run51
theorem good52 : E2.SpecOk Tryz.prog fact52.f fact52.tryR := E2.goodR_fact Tryz.checked.mixed tables (E2.goodR_cons good45 (E2.goodR_cons good46 (E2.goodR_cons good51 E2.goodR_nil))) (by kernel_rfl) run52
theorem good53 : E2.SpecOk Tryz.prog fact53.f fact53.tryR := E2.goodR_fact Tryz.checked.mixed tables (E2.goodR_cons good19 (E2.goodR_cons good48 (E2.goodR_cons good20 (E2.goodR_cons good21 E2.goodR_nil)))) (by kernel_rfl) run53
theorem good54 : E2.SpecOk Tryz.prog fact54.f fact54.tryR := E2.goodR_fact Tryz.checked.mixed tables E2.goodR_nil (by kernel_rfl) run54
theorem goods : ∀ F ∈ [fact47, fact8, fact48, fact9, fact49, fact50, fact52, fact11, fact16, fact53, fact30, fact35, fact39, fact40, fact41, fact42, fact43, fact54, fact44], E2.SpecOk Tryz.prog F.f F.tryR := (E2.goodR_cons good47 (E2.goodR_cons good8 (E2.goodR_cons good48 (E2.goodR_cons good9 (E2.goodR_cons good49 (E2.goodR_cons good50 (E2.goodR_cons good52 (E2.goodR_cons good11 (E2.goodR_cons good16 (E2.goodR_cons good53 (E2.goodR_cons good30 (E2.goodR_cons good35 (E2.goodR_cons good39 (E2.goodR_cons good40 (E2.goodR_cons good41 (E2.goodR_cons good42 (E2.goodR_cons good43 (E2.goodR_cons good54 (E2.goodR_cons good44 E2.goodR_nil)))))))))))))))))))
end Go.Proofs.YtjbefleabibmmaaGreatDoor.eventKnown
