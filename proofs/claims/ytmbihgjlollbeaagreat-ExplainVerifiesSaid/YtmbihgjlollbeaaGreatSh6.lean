import Derived.Test.YtmbihgjlollbeaaGreatSh5
set_option linter.all false
set_option maxHeartbeats 4000000
namespace Go.Ab
end Go.Ab
